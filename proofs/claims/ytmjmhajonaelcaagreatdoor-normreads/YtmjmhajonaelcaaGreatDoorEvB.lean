/- A new array whose capacity is open; a new version of one. -/
import Derived.Test.YtmjmhajonaelcaaGreatDoorEvA
import Derived.Laws.Sem
import Derived.Laws.Entries
import Derived.Laws.Strings
import Derived.Laws.StructEq
import Derived.ChangeKeysEq
import Derived.Laws.Cells
set_option linter.all false
noncomputable section
namespace Go.Ev
variable {j:Value}{o:uw}{p:SE}{I:Obj}{C:AO}
variable [Ii]
variable {P:Program}{G:Nat}{σ:Dx}{nt:Nat}{f:L2}{a:Act}{h h':H}{w:World}{v:AV}{Z:Ac}
def Ec{a b}(h:Nat.blt a b=true):a<b:=by simp_all
def G2{a b:Nat}(h:Nat.ble a b=true):a<=b:=by simp_all
def Ch{a b:Nat}(h:Nat.beq a b=true):a=b:=by simp_all
def Ap1{a b}(h:Nat.blt a b=false):b<=a:=by
 have:¬ Nat.blt a b=true:=by grind
 simp_all
def Axo{a b:Nat}(h:Nat.ble a b=false):b<a:=by
 have:¬ Nat.ble a b=true:=by grind
 simp_all
def Ho{a b:Nat}(h:Nat.beq a b=false):a≠b:=by intro e;simp_all
def AbN σ:∀d v,Au σ (App d v) v:=by intro d;induction d with
|zero=>intro v;exact .top v
|succ d b=>intro v;unfold App;split;all_goals first|exact .bool _|exact .int ..|exact .str _|exact .Ob|exact .Bv|exact .Td|exact .Iy|exact .B3|exact .I6 _ _ _ (b _)|exact .top _|skip;refine .agg _ _ (by simp) λi x y e c=>?_;grind
def Cj(c:Pt σ nt f a)(j:Vm G σ) x(b:Es G x=true):Au σ (ev x f) (a.eval x):=by cases x with
|tmp t=>exact c.slot t (Ec b)
|const v=>exact AbN _ 5 v
|global g=>obtain⟨e,h1,d⟩:=j g (Ec b);have:=Au.ptr g 0 e h1;rw[d]at this;exact this
|func g=>exact .fn _ _ _ _ _ λl=>by simp rfl λi x y b _=>by grind rfl λi x y b _=>by grind
def Abw(d:Pt σ nt f a)(c:Vm G σ) l(b:l.all (Es G)=true):Bk σ (W1 l f) (l.map a.eval):=by induction l with
|nil=>exact Bk.nil _
|cons x l e=>simp only[List.all_cons,Wx]at b;exact .cons (Cj d c x b.1) (e b.2)
def Adn{x}{b}(h:vB x=.yes b):x=.bool b:=by cases x<;>cases h;rfl
def P1{x}{k}{n}(h:vI x=.yes k n):x=.int k n:=by cases x<;>cases h;rfl
def Rj{x}{s}(h:vS x=.yes s):x=.str s:=by cases x<;>cases h;rfl
def P2{x}{b o}(h:vP x=.yes b o):x=.ptr b o:=by cases x<;>cases h;rfl
def Wv{x}(h:vP x=.nil):x=.Ob:=by cases x<;>cases h;rfl
def Ri{x}{b o l c z}{e}(h:vL x=.yes b o l c z e):x=.sl b o l c z e:=by cases x<;>cases h;rfl
def Ok{x}(h:vL x=.nil):x=.Bv:=by cases x<;>cases h;rfl
def P0{x}{cs}(h:vA x=.yes cs):x=.agg cs:=by cases x<;>cases h;rfl
def Aar{x}{cs}(h:vT x=.yes cs):x=.Bj cs:=by cases x<;>cases h;rfl
def Ago{x}{r}(h:vM x=.yes r):x=.map r:=by cases x<;>cases h;rfl
def Aaq{x}{g}{a c}(h:vF x=.yes g a c):x=.fn g a c:=by cases x<;>cases h;rfl
def Pq{x}{t}{v}(h:vIf x=.yes t v):x=.I6 t v:=by cases x<;>cases h;rfl
def Y4{x}(h:vIf x=.nil):x=.B3:=by cases x<;>cases h;rfl
def O4{x}{y}{cs}(h:cellsOf x=some cs)(d:Au σ x y):Bk σ cs y.cells.toList:=by cases d with
|top v=>cases h
|Bj cs D7 c b=>cases h
|agg cs D7 c b=>cases h;exact⟨c,b⟩
|_=>cases h;exact .cons (by constructor<;>assumption) (.nil _)
def Arz{x}{y}(h:Ge x=true)(b:Au σ x y):y.oneCell'=true:=by cases b<;>first|rfl|cases h
def Ran(P:Program)(s:Sem Next)(w:World)(v':Value)(w':World):Prop:=
 s.run P w=.ok (.value v') w'\/(s.run P w=.ok .skip w'/\v'=undef)
def Dd(w:World)(o:Obj):World:={ w with heap:=w.heap.push o }
inductive Ag4(σ:Dx)(h:H)(w:World):AV->Value->H->World->Prop where
|quiet (v:AV) (v':Value) (hv:Au σ v v'):Ag4 σ h w v v' h w
|ptr (cs:List AV) (D7:Array Value) (t:TypeId) (hc:Bk σ cs D7.toList):
 Ag4 σ h w (.ptr h.nx 0) (.pointer (some ⟨w.heap.size,0,none⟩)) (h.new (.cells cs t .exact)) (Dd w (.cells D7 t))
|sl (cs:List AV) (D7:Array Value) (t:TypeId) (len cap sz:Nat) (hle:len<=cap) (hc:Bk σ cs D7.toList):
 Ag4 σ h w (.sl h.nx 0 len cap sz true) (.slice (some ⟨w.heap.size,0,none⟩) len cap) (h.new (.cells cs t .exact)) (Dd w (.cells D7 t))
def Hm(P:Program)(G:Nat)(o:Oper):Prop:=∀(σ:Dx) (nt:Nat) (f:L2) (a:Act) (h h':H) (w:World) (v:AV) (Z:Ac),
 opD o.op o.type P Z f h=.ok v h'->o.op.operands.toList.all (Es G)=true->Pt σ nt f a->Vm G σ ->
 ∃v' w',Ran P (execOp a.eval o) w v' w'/\Ag4 σ h w v v' h' w'
section ops
variable {dst:Option Tmp}{ty:TypeId}{pos:String}{af:Array Edge}{gd:Option (Nat × Bool)}
def B4{v v'}{h h'}(e:OR.ok v h=.ok v' h'):v=v'/\h=h':=by grind
def Ae1 x:Hm P G ⟨dst,.move x,ty,pos,af,gd⟩:=by intro σ nt f a h h' w v Z b De d c;obtain⟨rfl,rfl⟩:=B4 b;exact⟨_,w,.inl rfl,.quiet _ _ (Cj d c x (by simpa[Op.operands]using De))⟩
def AaD x:Hm P G ⟨dst,.assign x,ty,pos,af,gd⟩:=by intro σ nt f a h h' w v Z b De d c;obtain⟨rfl,rfl⟩:=B4 b;exact⟨_,w,.inl rfl,.quiet _ _ (Cj d c x (by simpa[Op.operands]using De))⟩
def ArE{x y z}{h}(c:Bo x y z h=.ok v h'):∃b,x=.bool b/\v=(if b then y else z)/\h'=h:=by cases x<;>first|(cases c)|skip;rename_i b;cases b<;>cases c<;>exact⟨_,rfl,rfl,rfl⟩
def Ae2 c x y:Hm P G ⟨dst,.pick c x y,ty,pos,af,gd⟩:=by
 intro σ nt f a h h' w v Z i De d g;simp[Op.operands]at De;obtain⟨b,j,rfl,rfl⟩:=ArE i;have hc:=Cj d g c De.1;rw[j]at hc;generalize e:a.eval c=cv at hc;cases hc;refine⟨if b then a.eval x else a.eval y,w,.inl (by simp[execOp,e,asBool]),.quiet _ _ ?_⟩;cases b;. exact Cj d g y De.2.2
 .exact Cj d g x De.2.1
def Kn{t}{cs} σ(h:I1 P t=some cs):∃i z,P.info? t=some i/\i.zero=some z/\Bk σ cs z.cells.toList:=by unfold I1 Ps at h;cases hi:P.info? t with
|none=>grind
|some i=>cases b:i.zero with
 |none=>grind
 |some z=>simp[hi,b]at h;exact⟨i,z,rfl,b,O4 h (AbN _ 5 z)⟩
def AlX{cs}{e}(b:AdR cs e h=.ok v h'):∃c,cs=some c/\v=.ptr h.nx 0/\h'=h.new (cz c e):=by cases cs<;>cases b;simp
def Acn e:Hm P G ⟨dst,.alloc e,ty,pos,af,gd⟩:=by intro σ nt f a h h' w v Z b De j k;obtain⟨c,hc,rfl,rfl⟩:=AlX b;obtain⟨i,z,hi,g,d⟩:=Kn _ hc;refine⟨_,_,.inl ?_,.ptr c _ e d⟩;simp[execOp,Instr.alloc,zeroValue,typeInfo,hi,g,newVar,newRow,Dd]
def Ah4 e x:Hm P G ⟨dst,.box e x,ty,pos,af,gd⟩:=by intro σ nt f a h h' w v Z b De g d;obtain⟨c,hc,rfl,rfl⟩:=AlX b;have i:=O4 hc (Cj g d x (by simpa[Op.operands]using De));refine⟨_,_,.inl ?_,.ptr c _ e i⟩;rfl
def AbA{x}(b:Py x h=.ok v h'):x=some v/\h'=h:=by cases x<;>cases b;simp
def Aaj{x}(b:Ly x h=.ok v h'):∃cs,x=some cs/\v=.agg cs/\h'=h:=by cases x<;>cases b;simp
def Bl{c:Bool}{x y:OR}{r:OR}(b:Bool.rec y x c=r):(c=true/\x=r)\/(c=false/\y=r):=by
 cases c
 .exact .inr ⟨rfl,b⟩
 .exact .inl ⟨rfl,b⟩
def N0{n}(b:OR.bad n=.ok v h'):False:=by grind
def Vq x:Hm P G ⟨dst,.nilCheck x,ty,pos,af,gd⟩:=by
 intro σ nt f a h h' w v Z b De d j;have c:=Cj d j x (by simpa[Op.operands]using De);rcases Bl b with⟨hn,b⟩|⟨_,b⟩;. obtain⟨rfl,rfl⟩:=B4 b;refine⟨_,w,.inl ?_,.quiet _ _ c⟩;simp[execOp];generalize ev x f=u at *;generalize a.eval x=y at *;cases c with
   |fn g as cs e D7 i _ _ _ _=>cases g<;>first|rfl|(cases hn)
   |_=>first|rfl|(cases hn)
 grind
def Xz x i:Hm P G ⟨dst,.extract x i,ty,pos,af,gd⟩:=by
 intro σ nt f a h h' w v Z d De c m;have n:=Cj c m x (by simpa[Op.operands]using De);have b:L9 _ i h=.ok v _:=d;generalize ev x f=u at *;generalize g:a.eval x=y at *;cases n<;>first|(cases b)|skip;rename_i cs D7 e j;obtain⟨h1,rfl⟩:=AbA (show Py _ h=.ok v _ from b);rw[Ab6]at h1;obtain⟨y,l,k⟩:=Bk.get ⟨e,j⟩ h1;refine⟨y,w,.inl ?_,.quiet _ _ k⟩;have:D7[i]?=some y:=by grind
 simp[execOp,g,Instr.extract,this]
def Sv(t:TypeId)(x:Operand):Hm P G ⟨dst,.makeInterface t x,ty,pos,af,gd⟩:=by
 intro σ nt f a h h' w v Z b De e g;have i:=Cj e g x (by simpa[Op.operands]using De);rcases Bl b with⟨hn,b⟩|⟨_,b⟩;. obtain⟨rfl,rfl⟩:=B4 b;refine⟨_,w,.inl ?_,.quiet _ _ (.I6 t _ _ i)⟩;unfold Arb at hn;cases c:P.underlying t with
   |none=>simp_all
   |some d=>rw[c]at hn;cases d<;>first|grind|simp[execOp,Instr.makeInterface,underlying,c]
 grind
def Vp(fn:Fn)(x y:Array Operand):Hm P G ⟨dst,.makeFunc fn x y,ty,pos,af,gd⟩:=by
 intro σ nt f a h h' w v Z m De d g;simp only[Op.operands,ad,List.all_append,Wx]at De;have j:=Abw d g x.toList De.1;have e:=Abw d g y.toList De.2;have b:(∀l,fn≠.yield l)/\v=.fn fn (W1 x.toList f) (W1 y.toList f)/\h=h':=by have o:Jt fn x y ty P Z f h=.ok v h':=m;unfold Jt at o;grind
 obtain⟨k,rfl,rfl⟩:=b;refine⟨.func fn (x.map a.eval) (y.map a.eval),w,.inl (by rfl),.quiet _ _ (.fn fn _ _ _ _ k ?_ ?_ ?_ ?_)⟩;. simpa using j.1
 .intro i u v c n;exact j.2 i u v c (by grind)
 .simpa using e.1
 .intro i u v c n;exact e.2 i u v c (by grind)
def F3{t}{n}(h:F7 P t=some n):∃i,P.info? t=some i/\i.size=n:=by unfold F7 at h;simp_all
def Xv{t u}{i o}(h:Xu P t i=some (u,o)):∃c b,P.underlying t=some (.struct c)/\c[i]?=some b/\b.type=u/\b.offset=o:=by unfold Xu at h;grind
def Ahw{t}{i o}(h:Wa P t i=some o):∃d c b,P.underlying t=some (.struct d)/\d[i]?=some c/\P.info? c.type=some b/\b.size≠0/\c.offset=o:=by
 unfold Wa at h;split at h
 .rename_i u q e;split at h;. rename_i n g;obtain⟨d,c,h1,k,p,l⟩:=Xv e;obtain⟨b,m,j⟩:=F3 g;simp_all
  grind
 grind
def G1 c off n:(⟨c,off,none⟩:Addr).add n=⟨c,off+n,none⟩:=by unfold Addr.add;simp
def Ss t x i:Hm P G ⟨dst,.fieldAddr t x i,ty,pos,af,gd⟩:=by intro σ nt f a h h' w v Z l De k s;have z:=Cj k s x (by simpa[Op.operands]using De);have j:@Option.rec _ (λ_=>AV->H->OR) _ _ _ _ h=.ok v _:=l;cases g:Wa P t i with
|none=>simp_all
|some d=>rw[g]at j;obtain⟨B,A,q,h1,m,p,n,rfl⟩:=Ahw g;have c:=j;generalize ev x f=u at *;generalize o:a.eval x=y at *;cases z<;>first|(cases c;done)|skip;rename_i b off e r;cases c;refine⟨_,w,.inl ?_,.quiet _ _ (.ptr b _ e r)⟩;simp[execOp,o,Instr.fieldAt,underlying,h1,m,Instr.sureAddr,fieldPlace,sizeOf,typeInfo,p,n,G1]
def Akc{t}(h:Ft P t=some none):∃d i,P.underlying t=some d/\P.info? t=some i/\(∀b,d≠.struct b)/\∀n e,d≠.array n e:=by unfold Ft at h;grind
def AhO{t}{n}(h:Ft P t=some (some n)):∃d i,P.underlying t=some d/\P.info? t=some i/\i.size=n/\((∃b,d=.struct b)\/∃k e,d=.array k e):=by unfold Ft at h;grind
def Vv{t}(h:Ft P t=some none) w:(isAgg t).run P w=.ok false w:=by obtain⟨d,i,b,hi,h1,c⟩:=Akc h;simp only[isAgg,Sem.run_bind,run_underlying b,Result.andThen_ok];rfl
def Kj{t}{n}(h:Ft P t=some (some n)) w:(isAgg t).run P w=.ok true w/\(sizeOf t).run P w=.ok n w:=by
 obtain⟨d,i,b,hi,rfl,h1⟩:=AhO h;constructor;. simp[isAgg,Sem.run_bind,run_underlying b,Result.andThen_ok];rcases h1 with⟨c,rfl⟩|⟨k,e,rfl⟩<;>rfl
 .simp[sizeOf,typeInfo,hi]
def Mp{t:TypeId}{cs:uw}{off:Nat}{v:AV}{D7:Array Value}(b:Hc P t cs off=some v)(hc:Bk σ cs D7.toList) w:
 ∃v',(part t D7 off).run P w=.ok v' w/\Au σ v v':=by
 unfold Hc Tn at b;split at b
 .rename_i c;rw[Ab6]at b;obtain⟨y,e,g⟩:=hc.get b;refine⟨y,?_,g⟩;have:D7[off]?=some y:=by simp_all
  simp[part,Vv c,this]
 .rename_i n c;cases d:Nf cs off n with
  |none=>grind
  |some r=>
   simp[d]at b;subst b;obtain⟨h1,rfl,_⟩:=Js d;refine⟨.agg (D7.extract off (off+n)),?_,?_⟩;. simp[part,(Kj c w).1,(Kj c w).2]
   .have:=(hc.drop off).take n;refine .agg _ _ ?_ ?_;. rw[this.1];simp
    .intro i x y j e;refine this.2 i x y j ?_;simp_all
 grind
def Acq t x i:Hm P G ⟨dst,.field t x i,ty,pos,af,gd⟩:=by
 intro σ nt f a h h' w v Z l De k A;have g:=Cj k A x (by simpa[Op.operands]using De);have d:Ti t x i ty P Z f h=.ok v _:=l;unfold Ti at d;split at d;. rename_i cs z o e b;obtain⟨h1,rfl⟩:=AbA d;rw[P0 e]at g;generalize n:a.eval x=y at *;cases g;rename_i D7 m q;unfold Al4 at b;cases c:Xu P t i with
   |none=>simp_all
   |some p=>obtain⟨u,C⟩:=p;simp[c]at b;obtain⟨rfl,rfl⟩:=b;obtain⟨D,B,j,k2,rfl,rfl⟩:=Xv c;obtain⟨v',s,r⟩:=Mp h1 ⟨m,q⟩ w;refine⟨_,w,.inl ?_,.quiet _ _ r⟩;simp[execOp,n,Instr.field,underlying,j,k2,asAgg,s]
 grind
def Us{x}{n}(h:Vg x=some n):∃k,x=.int k (.ofNat n):=by cases x<;>first|(cases h)|skip;rename_i k m;cases m<;>cases h;simp
def Qb{m}{n}(h:Akn m=some n):m=.ofNat n:=by cases m<;>cases h;rfl
def AiO{t}{i}(h:Hp P t=.sl i):∃b,P.underlying t=some (.slice i.e)/\P.info? i.e=some b/\b.size=i.s/\b.bytes=i.bytes:=by
 unfold Hp at h;split at h<;>first|simp_all
 .split at h;. rename_i e d _ b hi;cases c:Nat.blt 0 b.size with
    |false=>simp_all
    |true=>rw[c]at h;grind
  simp_all
 grind
def Aox{t}{i}(h:Hp P t=.sl i):0<i.s:=by
 unfold Hp at h;split at h<;>first|simp_all|skip
 .split at h;. rename_i e d _ b hi;cases c:Nat.blt 0 b.size with
    |false=>simp_all
    |true=>rw[c]at h;cases h;simp_all
  grind
 grind
def Aat{t}{n}{i}(h:Hp P t=.arr n i):∃b,P.underlying t=some (.array n i.e)/\P.info? i.e=some b/\b.size=i.s/\b.bytes=i.bytes:=by unfold Hp at h;cases c:P.underlying t with
|none=>simp_all
|some d=>rw[c]at h;cases d with
 |array k e=>grind
 |slice e=>cases hi:P.info? e with
  |none=>simp_all
  |some b=>cases g:Nat.blt 0 b.size with
   |false=>simp_all
   |true=>simp_all
 |_=>cases h
def Afb{t}(h:Hp P t=.str):P.underlying t=some .string:=by
 unfold Hp at h;split at h<;>first|(cases h)|skip
 .grind
 .split at h;. rename_i b _;cases c:Nat.blt 0 b.size with
    |false=>simp_all
    |true=>simp_all
  grind
 grind
def Su(t:TypeId)(x i:Operand):Hm P G ⟨dst,.indexAddr t x i,ty,pos,af,gd⟩:=by intro σ nt f a h h' w v Z J De D C;simp[Op.operands]at De;have F:=Cj D C x De.1;have hi:=Cj D C i De.2;have d:iaX (Hp P t) (ev x f) (Vg (ev i f)) h=.ok v h':=J;generalize E:a.eval x=y at *;generalize hj:a.eval i=j at *;cases hn:Vg (ev i f)with
|none=>rw[hn]at d;cases g:Hp P t<;>rw[g]at d<;>cases d
|some n=>rw[hn]at d;obtain⟨k,I⟩:=Us hn;rw[I]at hi;cases hi;generalize ev x f=u at *;cases g:Hp P t with
 |bad=>rw[g]at d;cases d
 |str=>rw[g]at d;cases d
 |sl l=>
  rw[g]at d;obtain⟨A,q,k2,z,K⟩:=AiO g;have o:iaS u n l.s h=.ok v h':=d;cases F<;>first|(cases o;done)|skip;rename_i b off len cap sz ex e L B g1 g2 Q O;rcases Bl (show @Bool.rec (λ_=>OR) (.bad 88) (.ok (.ptr b (Nat.add off (Nat.mul n l.s))) h) (Nat.blt n len)=.ok v h' from o)with⟨r,m⟩|⟨_,m⟩
  .obtain⟨rfl,rfl⟩:=B4 m;have p:=Ec r;refine⟨.pointer (some ⟨e.c,off+n*l.s,none⟩),w,.inl ?_,.quiet _ _ (.ptr b _ e B)⟩;have M:(0:Int)<=Int.ofNat n:=bj n;have h1:(Int.ofNat n)<(len:Int):=by simpa using p
   simp[execOp,E,hj,Instr.indexAt,asIntOf,underlying,q,p,sizeOf,typeInfo,k2,z,G1]
  .exact(N0 m).elim
 |arr len l=>
  rw[g]at d;obtain⟨A,q,k2,z,K⟩:=Aat g;have o:iaA u len n l.s h=.ok v h':=d;cases F<;>first|(cases o;done)|skip;rename_i b off e B;rcases Bl (show @Bool.rec (λ_=>OR) (.bad 90) (.ok (.ptr b (Nat.add off (Nat.mul n l.s))) h) (Nat.blt n len)=.ok v h' from o)with⟨r,m⟩|⟨_,m⟩;. obtain⟨rfl,rfl⟩:=B4 m;have p:=Ec r;refine⟨.pointer (some ⟨e.c,off+n*l.s,none⟩),w,.inl ?_,.quiet _ _ (.ptr b _ e B)⟩;simp[execOp,E,hj,Instr.indexAt,asIntOf,underlying,q,p,sizeOf,typeInfo,k2,z,G1,Instr.sureAddr]
  .exact(N0 m).elim
def AuQ{s}{y}(h:Au σ (.str s) y):∃b,y=.string b/\s=bytesOf b:=by cases h;simp
def AgW s(n:Nat):(bytesOf s)[n]?=s[n]?.map UInt8.toNat:=by unfold bytesOf;simp[Rd];rfl
def Gv s:(bytesOf s).length=s.size:=by unfold bytesOf;simp
def Akz{x}(b:Uv x h=.ok v h'):∃n,x=some n/\v=.int .u8 (.ofNat n)/\h'=h:=by cases x<;>cases b;simp
def Acr(t:TypeId)(x i:Operand):Hm P G ⟨dst,.index t x i,ty,pos,af,gd⟩:=by
 intro σ nt f a h h' w v Z J De r q;simp[Op.operands]at De;have o:=Cj r q x De.1;have hi:=Cj r q i De.2;have c:Tj t x i ty P Z f h=.ok v h':=J;unfold Tj at c;generalize z:a.eval x=y at *;generalize hj:a.eval i=j at *;split at c;. rename_i n p hn;obtain⟨k,e⟩:=Us hn;rw[e]at hi;cases hi;generalize ev x f=u at *;cases o<;>first|(cases c;done)|skip;rename_i s;obtain⟨m,h1,rfl,rfl⟩:=Akz (show Uv (AuN (bytesOf s) n) h=.ok v h' from c);rw[AuO,AgW]at h1;cases d:s[n]? with
   |none=>simp[d]at h1
   |some b=>simp[d]at h1;subst h1;refine⟨.int .u8 b.toNat,w,.inl ?_,.quiet _ _ (.int .u8 _)⟩;simp[execOp,z,hj,Instr.index,asIntOf,underlying,Afb p,d]
 .rename_i len M n p hn;obtain⟨k,e⟩:=Us hn;rw[e]at hi;cases hi;split at c
  .rename_i cs l;rw[P0 l]at o;cases o;rename_i D7 E F;obtain⟨C,A,k2,B,O⟩:=Aat p;rcases Bl c with⟨d,g⟩|⟨_,g⟩;. obtain⟨D,rfl⟩:=AbA g;obtain⟨v',I,K⟩:=Mp (P:=P) (σ:=σ) D (D7:=D7) ⟨E,F⟩ w;have L:=Ec d;refine⟨v',w,.inl ?_,.quiet _ _ K⟩;simp[execOp,z,hj,Instr.index,asIntOf,underlying,A,L,sizeOf,typeInfo,k2,B,I]
   .exact(N0 g).elim
  .exact(N0 c).elim
 .exact(N0 c).elim
def Ud{t}{z} σ(h:Ps P t=some z):∃i b,P.info? t=some i/\i.zero=some b/\Au σ z b:=by unfold Ps at h;cases hi:P.info? t with
|none=>grind
|some i=>cases c:i.zero with
 |none=>grind
 |some b=>simp[hi,c]at h;subst h;exact⟨i,_,rfl,c,AbN _ 5 _⟩
def Ass{x y}{x' b}(h:Au σ x x')(h':Au σ y b):Au σ (.Bj [x,y]) (.tuple #[x',b]):=by have:=Bk.cons h (Bk.cons h' (Bk.nil _));exact .Bj _ _ this.1 this.2
def AaX{t}{z}(h:AkI P t=some z):∃d,P.underlying t=some d/\(∀m,d≠.interface m)/\Ps P t=some z:=by unfold AkI at h;grind
def Rp(x:Operand)(q t:TypeId)(ok:Bool):Hm P G ⟨dst,.typeAssert x q t ok,ty,pos,af,gd⟩:=by
 intro σ nt f a h h' w v Z C De B s;have m:=Cj B s x (by simpa[Op.operands]using De);have e:G0 x q t ok ty P Z f h=.ok v h':=C;unfold G0 at e;generalize l:a.eval x=y at *
 split at e
 .rename_i z b p;rw[Y4 p]at m;cases m;obtain⟨d,g,hd,b⟩:=AaX b;obtain⟨i,r,hi,c,o⟩:=Ud σ b;cases ok
  .exact(N0 e).elim
  .obtain⟨rfl,rfl⟩:=B4 e;refine⟨_,w,.inl ?_,.quiet _ _ (Ass o (.bool false))⟩;cases d<;>first|(exact absurd rfl (hd _))|simp[execOp,l,Instr.typeAssert,underlying,g,zeroValue,typeInfo,hi,c]
 .rename_i z u E b p;rw[Pq p]at m;cases m;rename_i D j;obtain⟨d,g,hd,b⟩:=AaX b;obtain⟨i,r,hi,c,o⟩:=Ud σ b;rcases Bl e with⟨n,k⟩|⟨n,k⟩
  .obtain⟨rfl,rfl⟩:=B4 k;have:=Ch n;subst this;cases ok
   .refine⟨D,w,.inl ?_,.quiet _ _ j⟩;cases d<;>first|(exact absurd rfl (hd _))|simp[execOp,l,Instr.typeAssert,underlying,g]
   .refine⟨_,w,.inl ?_,.quiet _ _ (Ass j (.bool true))⟩;cases d<;>first|(exact absurd rfl (hd _))|simp[execOp,l,Instr.typeAssert,underlying,g]
  .have A:=Ho n;cases ok
   .exact(N0 k).elim
   .obtain⟨rfl,rfl⟩:=B4 k;refine⟨_,w,.inl ?_,.quiet _ _ (Ass o (.bool false))⟩;cases d<;>first|(exact absurd rfl (hd _))|simp[execOp,l,Instr.typeAssert,underlying,g,zeroValue,typeInfo,hi,c,A]
 .exact(N0 e).elim
def Ae3 op t x:Hm P G ⟨dst,.unOp op t x,ty,pos,af,gd⟩:=by intro σ nt f a h h' w v Z j De i l;have e:=Cj i l x (by simpa[Op.operands]using De);have d:AaP _ t x ty P Z f h=.ok v _:=j;unfold AaP at d;generalize g:a.eval x=y at *;cases op with
|not=>cases c:vB (ev x f)with
 |no=>grind
 |yes b=>rw[c]at d;rw[Adn c]at e;cases e;obtain⟨rfl,rfl⟩:=B4 d;refine⟨.bool !b,w,.inl (by simp[execOp,g,Op.unary]),.quiet _ _ ?_⟩;rw[Kb];exact .bool _
|neg=>cases c:vI (ev x f)with
 |no=>grind
 |yes k n=>rw[c]at d;rw[P1 c]at e;cases e;obtain⟨rfl,rfl⟩:=B4 d;refine⟨.int k (k.wrap (0-n)),w,.inl (by simp[execOp,g,Op.unary,Op.intArith]),.quiet _ _ ?_⟩;rw[Ub];exact .int ..
|_=>grind
end ops
section ops
variable {dst:Option Tmp}{ty:TypeId}{pos:String}{af:Array Edge}{gd:Option (Nat × Bool)}
def toNat_inj{a b:UInt8}:a.toNat=b.toNat ↔ a=b:=UInt8.toNat_inj
def Aul(l m:List _):(l.map UInt8.toNat == m.map UInt8.toNat)=(l == m):=by
 rw[C7];simp[beq_iff_eq];constructor;. intro e;induction l generalizing m with
   |nil=>simp_all
   |cons a l c=>cases m with
    |nil=>grind
    |cons b m=>simp[Co,List.cons.injEq]at e;rw[toNat_inj.1 e.1,c m e.2]
 grind
def Rg x y a b:Gn (x::a) (y::b)=(decide (x<y)||x == y&&Gn a b):=by
 have:Gn (x::a) (y::b)=@Bool.rec (λ_=>Bool) _ ..:=rfl;rw[this];have e1:Nat.blt x y=decide (x<y):=by rw[C7];simp
 have c:Nat.beq x y=(x == y):=by rw[C7];simp
 rw[e1,c];cases decide (x<y)<;>cases x == y<;>rfl
def AaW:∀l m,Gn (l.map UInt8.toNat) (m.map UInt8.toNat)=Op.bytesLess l m
|[],[]=>rfl
|[],_::_=>rfl
|_::_,[]=>rfl
|a::l,b::m=>by simp[Co,Rg,Op.bytesLess,AaW l m];congr 1;congr 1;rw[C7];simp[beq_iff_eq];exact toNat_inj
def Pm:∀l m,(!Gn m l)=(Gn l m||l == m)
|[],[]=>rfl
|[],_::_=>rfl
|_::_,[]=>rfl
|x::l,y::m=>by rw[Rg,Rg,List.cons_beq_cons];have b:=Pm l m;grind
def U1 a b:Qh (bytesOf a) (bytesOf b)=(a.toList == b.toList):=by rw[Qi,ByteArray.toList_eq,ByteArray.toList_eq];exact Aul ..
def AbC a b:Gn (bytesOf a) (bytesOf b)=Op.bytesLess a.toList b.toList:=by rw[ByteArray.toList_eq,ByteArray.toList_eq];exact AaW ..
def AbU a b:bytesOf (a++b)=bytesOf a++bytesOf b:=by unfold bytesOf;simp
def Aft op t x y k k' m n w:(eqGuard op t x y (.int k m) (.int k' n)).run P w=.ok () w:=by unfold eqGuard;simp
def Afu op t x y m n w:(eqGuard op t x y (.string m) (.string n)).run P w=.ok () w:=by unfold eqGuard;simp
def AcS(a b:Int):(!decide (a<b))=decide (b<=a):=by grind
def AjX{g}{k k'}{m n}(b:iAr g k m k' n h=.ok v h'):k=k'/\v=.int k (k.wrap (g m n))/\h'=h:=by
 rcases Bl b with⟨c,b⟩|⟨_,b⟩;. obtain⟨rfl,rfl⟩:=B4 b;exact⟨(Q3 k _).1 c,by rw[Ub],rfl⟩
 grind
def Un{g}{k k'}{m n}(b:AjY g k m k' n h=.ok v h'):k=k'/\v=.bool (g m n)/\h'=h:=by
 rcases Bl b with⟨c,b⟩|⟨_,b⟩;. obtain⟨rfl,rfl⟩:=B4 b;exact⟨(Q3 k _).1 c,rfl,rfl⟩
 grind
def AtX{k k'}{m n}(b:A4x k m k' n h=.ok v h'):k=k'/\n≠0/\v=.int k (k.wrap (m.tdiv n))/\h'=h:=by
 rcases Bl b with⟨c,b⟩|⟨_,b⟩
 .rcases Bl b with⟨_,b⟩|⟨d,b⟩;. grind
  .obtain⟨rfl,rfl⟩:=B4 b;rw[Q1]at d;exact⟨(Q3 k _).1 c,by grind,by rw[Ub],rfl⟩
 grind
def AtY{k k'}{m n}(b:A4y k m k' n h=.ok v h'):k=k'/\n≠0/\v=.int k (m.tmod n)/\h'=h:=by
 rcases Bl b with⟨c,b⟩|⟨_,b⟩
 .rcases Bl b with⟨_,b⟩|⟨d,b⟩;. grind
  .obtain⟨rfl,rfl⟩:=B4 b;rw[Q1]at d;exact⟨(Q3 k _).1 c,by grind,rfl,rfl⟩
 grind
def AnX(op:BinOp)(t:TypeId)(k k':IntKind)(m n:Int)(w:World)(c:AqP op k m k' n h=.ok v h'):
 ∃v',(binOp op t (.int k m) (.int k' n)).run P w=.ok v' w/\Au σ v v'/\h'=h:=by
 cases op with
 |add=>obtain⟨rfl,rfl,rfl⟩:=AjX c;exact⟨.int k (k.wrap (m+n)),by simp[binOp,Op.intArith],.int _ _,rfl⟩
 |sub=>obtain⟨rfl,rfl,rfl⟩:=AjX c;exact⟨.int k (k.wrap (m-n)),by simp[binOp,Op.intArith],.int _ _,rfl⟩
 |mul=>obtain⟨rfl,rfl,rfl⟩:=AjX c;exact⟨.int k (k.wrap (m*n)),by simp[binOp,Op.intArith],.int _ _,rfl⟩
 |quo=>obtain⟨rfl,j,rfl,rfl⟩:=AtX c;exact⟨.int k (k.wrap (m.tdiv n)),by simp[binOp,Op.intDiv,j],.int _ _,rfl⟩
 |rem=>obtain⟨rfl,j,rfl,rfl⟩:=AtY c;exact⟨.int k (m.tmod n),by simp[binOp,Op.intDiv,j],.int _ _,rfl⟩
 |eql=>obtain⟨rfl,rfl,rfl⟩:=Un c;exact⟨.bool (m == n),by simp[binOp,Op.intCmp],by rw[Q1];exact .bool _,rfl⟩
 |neq=>obtain⟨rfl,rfl,rfl⟩:=Un (g:=λa b=>Ib (ieq a b)) c;exact⟨.bool (m != n),by simp[binOp,Op.intCmp],by rw[Kb,Q1];exact .bool _,rfl⟩
 |lss=>obtain⟨rfl,rfl,rfl⟩:=Un c;exact⟨.bool (decide (m<n)),by simp[binOp,Op.intCmp],by rw[Il];exact .bool _,rfl⟩
 |leq=>obtain⟨rfl,rfl,rfl⟩:=Un (g:=λa b=>Ib (ilt b a)) c;exact⟨.bool (decide (m<=n)),by simp[binOp,Op.intCmp],by rw[Kb,Il,AcS];exact .bool _,rfl⟩
 |gtr=>obtain⟨rfl,rfl,rfl⟩:=Un (g:=λa b=>ilt b a) c;exact⟨.bool (decide (m > n)),by simp[binOp,Op.intCmp],by rw[Il];exact .bool _,rfl⟩
 |geq=>obtain⟨rfl,rfl,rfl⟩:=Un (g:=λa b=>Ib (ilt a b)) c;exact⟨.bool (decide (m ≥ n)),by simp[binOp,Op.intCmp],by rw[Kb,Il,AcS];exact .bool _,rfl⟩
 |andNot=>cases c
 |and=>cases c
 |or=>cases c
 |xor=>cases c
 |shl=>
  have d:AtZ k m k' n h=.ok v h':=c;unfold AtZ at d;split at d
  .rename_i b i;obtain⟨rfl,rfl⟩:=B4 d;have e:=Qb i;subst e;refine⟨.int k (k.wrap (m*2^(min b k.bits))),?_,?_,rfl⟩
   .simp[binOp,Op.shift];intro o;omega
   .rw[Ub];have:Int.mul m (.ofNat (Nat.pow 2 (Nat.min b k.bits)))=m*2^(min b k.bits):=by show m*((2^(min b k.bits):Nat):Int)=_;simp
    rw[this];exact .int _ _
  .cases d
 |shr=>
  have d:Aua k m k' n h=.ok v h':=c;unfold Aua at d;split at d
  .rename_i a b l i;obtain⟨rfl,rfl⟩:=B4 d;have e:=Qb l;subst e;have e:=Qb i;subst e;refine⟨.int k ((a:Int).fdiv (2^(min b k.bits))),?_,?_,rfl⟩
   .simp[binOp,Op.shift];intro o;omega
   .have:(Int.ofNat (Nat.div a (Nat.pow 2 (Nat.min b k.bits))))=(a:Int).fdiv (2^(min b k.bits)):=by show((a/2^(min b k.bits):Nat):Int)=_;rw[Int.fdiv_eq_ediv_of_nonneg _ (by exact_mod_cast Wy _)];simp
    rw[this];exact .int _ _
  .cases d
def AnY(op:BinOp)(t:TypeId)(m n:ByteArray)(w:World)(b:AuB op (bytesOf m) (bytesOf n) h=.ok v h'):
 ∃v',(binOp op t (.string m) (.string n)).run P w=.ok v' w/\Au σ v v'/\h'=h:=by cases op with
 |add=>
  rcases Bl b with⟨c,b⟩|⟨_,b⟩
  .obtain⟨rfl,rfl⟩:=B4 b;have d:=Ec c;simp[Rf,Gv]at d;refine⟨.string (m++n),?_,?_,rfl⟩
   .have hn:¬ (m.size+n.size:Nat) > IntKind.i64.max:=by simp_all;omega
    have:binOp .add t (.string m) (.string n)=Op.stringOp .add m n:=rfl;rw[this];simp only[Op.stringOp,X2 hn];rfl
   .rw[AuL,<- AbU];exact .str _
  grind
 |eql=>cases b;exact⟨_,rfl,by rw[U1];exact .bool _,rfl⟩
 |neq=>cases b;exact⟨_,rfl,by simp[Kb,U1];exact .bool _,rfl⟩
 |lss=>cases b;exact⟨_,rfl,by rw[AbC];exact .bool _,rfl⟩
 |leq=>cases b;exact⟨_,rfl,by simp[Kb,Pm];rw[AbC,<- Qi,U1];exact .bool _,rfl⟩
 |gtr=>cases b;exact⟨_,rfl,by have:=Pm (bytesOf m) (bytesOf n);rw[AbC m n,<- Qi,U1]at this;rw[<- this,Bool.not_not];exact .bool _,rfl⟩
 |geq=>cases b;exact⟨_,rfl,by simp[Kb,AbC];exact .bool _,rfl⟩
 |_=>cases b
def Axh(P:Program)(t:TypeId):TK->Prop
|.bad=>True
|.bool=>P.underlying t=some .bool
|.int=>∃i,P.underlying t=some (.int i)
|.string=>P.underlying t=some .string
|.ptr=>∃e b,P.underlying t=some (.pointer e)/\P.info? e=some b/\b.size≠0
|.iface=>∃m,P.underlying t=some (.interface m)
|.struct c=>∃l,P.underlying t=some (.struct l)/\P.stoodInHeld t=false/\c=((l.toList.filter λf=>f.name != "_").map λf=>(f.type,f.offset))
|.array n e s=>∃b,P.underlying t=some (.array n e)/\P.info? e=some b/\b.size=s
|.slice=>∃e,P.underlying t=some (.slice e)
def AbD(P:Program)(t:TypeId):Axh P t (tk P t):=by
 unfold tk;cases b:P.underlying t with
 |none=>trivial
 |some d=>
  cases d with
  |pointer e=>
   dsimp only;cases g:F7 P e with
   |none=>trivial
   |some n=>
    obtain⟨c,h1,j⟩:=F3 g;cases n with
    |zero=>trivial
    |succ n=>exact⟨e,c,b,h1,by omega⟩
  |struct l=>
   dsimp only;cases g:P.stoodInHeld t
   .simp only[Mh,Fl];exact⟨l,b,g,rfl⟩
   .simp only[Jr];trivial
  |array n e=>
   dsimp only;cases g:F7 P e with
   |none=>trivial
   |some s=>obtain⟨c,h1,j⟩:=F3 g;exact⟨c,b,h1,j⟩
  |bool=>exact b
  |int i=>exact⟨i,b⟩
  |string=>exact b
  |interface m=>exact⟨m,b⟩
  |slice e=>exact⟨e,b⟩
  |_=>trivial
def Afe(P:Program)(σ:Dx)(d:Nat)(e:EqT):Prop:=
 ∀t x y b x' c,e t x y=some b->Au σ x x'->Au σ y c->∀(D:Nat) (w:World),d<=D->(Op.equalIn D t x' c).run P w=.ok b w
def Ajq{d:Nat}{l:EqT}(m:Afe P σ d l)(D:Nat)(o:d<=D) xs ys xs' ys'(s:Bk σ xs xs'.toList)(q:Bk σ ys ys'.toList) w:
 ∀i b,Amw P l ((i.filter λf=>f.name != "_").map λf=>(f.type,f.offset)) xs ys=some b->(Op.eqFields D xs' ys' i).run P w=.ok b w:=by intro i;induction i with
 |nil=>intro b c;cases c;rfl
 |cons f i t=>
  intro b c;by_cases hn:f.name = "_";. simp[Op.eqFields,hn,ne_eq,not_true_eq_false,Fl];grind
  .rw[List.filter_cons_of_pos (by grind)]at c;simp[Co,Amw]at c;split at c
   .rename_i u v r p;obtain⟨x,g,k⟩:=Mp r s w;obtain⟨v',e,n⟩:=Mp p q w;split at c;. rename_i j;have:=m _ _ _ _ _ _ j k n D w o;simp[Op.eqFields,ne_eq,hn,not_false_eq_true,Jr,Sem.run_bind,g,e,this,Result.andThen_ok,Bool.not_true,Mh,Fl];simp[*]
    .rename_i j;cases c;have:=m _ _ _ _ _ _ j k n D w o;simp[Op.eqFields,hn,g,e,this]
    grind
   simp_all
def Ajp{d}{m}(o:Afe P σ d m) D(q:d<=D) e s xs ys xs' ys'(y:Bk σ xs xs'.toList)(t:Bk σ ys ys'.toList) w:
 ∀n i b,Amv P m e s n i xs ys=some b->(Op.eqItems D e s xs' ys' (List.range' i n)).run P w=.ok b w:=by intro n;induction n with
 |zero=>intro i b c;cases c;rfl
 |succ n z=>
  intro i b c;simp[Amv]at c;split at c
  .rename_i u v x r;obtain⟨A,j,l⟩:=Mp x y w;obtain⟨v',g,p⟩:=Mp r t w;split at c;. rename_i k;have:=o _ _ _ _ _ _ k l p D w q;simp[eo,Op.eqItems,Sem.run_bind,j,g,this,Result.andThen_ok,Bool.not_true,Mh,Fl];grind
   .rename_i k;cases c;have:=o _ _ _ _ _ _ k l p D w q;simp[eo,Op.eqItems,j,g,this]
   grind
  grind
def Apr c o o':((⟨c,o,none⟩:Addr) == ⟨c,o',none⟩)=(o == o'):=by grind
set_option maxHeartbeats 2000000 in
def Zj(P:Program)(σ:Dx):∀d,Afe P σ d (aeq P d):=by
 intro d;induction d with
 |zero=>intro t x y b x' V h;cases h
 |succ d M=>
  intro t x y b x' V he j g D w hD;obtain⟨D,rfl⟩:∃k,D=k+1:=⟨D-1,by omega⟩;have c:Dy P (aeq P d) t x y=some b:=he;unfold Dy at c;have r:=AbD P t;split at c<;>rename_i hc<;>rw[hc]at r
  .cases c
  .split at c
   .rename_i A u h1 o;rw[Adn h1]at j;rw[Adn o]at g;cases j;cases g;cases c;have p:P.underlying t=some .bool:=r;exact run_equalIn_bool w D t _ _ p
   .cases c
  .obtain⟨i,p⟩:=r;split at c
   .rename_i k A k' u h1 o;rw[P1 h1]at j;rw[P1 o]at g;cases j;cases g;cases hq:kEq k k' with
    |false=>rw[hq]at c;cases c
    |true=>rw[hq]at c;cases c;have:=(Q3 k k').1 hq;subst this;rw[Q1];exact run_equalIn_int w D t k i _ _ p
   .cases c
  .split at c
   .rename_i A u h1 o;rw[Rj h1]at j;rw[Rj o]at g;cases j;cases g;cases c;rw[U1];exact run_equalIn_string w D t _ _ r
   .cases c
  .obtain⟨e,C,p,hi,F⟩:=r;split at c
   .rename_i h1 o;rw[Wv h1]at j;rw[Wv o]at g;cases j;cases g;cases c;simp[Op.equalIn,run_underlying p]
   .rename_i K I h1 o;rw[Wv h1]at j;rw[P2 o]at g;cases j;cases g;cases c;simp[Op.equalIn,run_underlying p]
   .rename_i K I h1 o;rw[P2 h1]at j;rw[Wv o]at g;cases j;cases g;cases c;simp[Op.equalIn,run_underlying p]
   .rename_i K I u R h1 o;rw[P2 h1]at j;rw[P2 o]at g;cases j;cases g;rename_i e0 U e1 S;cases hq:Nat.beq K u with
    |false=>rw[hq]at c;cases c
    |true=>
     rw[hq]at c;cases c;have:=Ch hq;subst this;rw[U]at S;cases S;have W:Nat.beq I R=(I == R):=by rw[C7];simp
     rw[W];simp[Op.equalIn,run_underlying p,sizeOf,typeInfo,hi,F,sameAddr,Apr]
   .cases c
  .obtain⟨m,p⟩:=r;split at c
   .rename_i h1 o;rw[Y4 h1]at j;rw[Y4 o]at g;cases j;cases g;cases c;simp[Op.equalIn,run_underlying p]
   .rename_i z J h1 o;rw[Y4 h1]at j;rw[Pq o]at g;cases j;cases g;cases c;simp[Op.equalIn,run_underlying p]
   .rename_i z J h1 o;rw[Pq h1]at j;rw[Y4 o]at g;cases j;cases g;cases c;simp[Op.equalIn,run_underlying p]
   .rename_i z J X Q h1 o;rw[Pq h1]at j;rw[Pq o]at g;cases j;cases g;rename_i u0 r0 u1 r1;cases hq:Nat.beq z X with
    |false=>rw[hq]at c;cases c;have T:=Ho hq;simp[Op.equalIn,run_underlying p,T]
    |true=>
     rw[hq]at c;have:=Ch hq;subst this;cases q:(P.info? z).any (·.comparable)with
     |false=>simp only[q]at c;cases c
     |true=>
      simp only[q]at c;have Y:aeq P d z J Q=some b:=c;cases hi:P.info? z with
      |none=>simp[hi]at q
      |some C=>simp[hi]at q;have:=M z J Q b _ _ Y r0 r1 D w om;simp[Op.equalIn,run_underlying p,typeInfo,hi,q,this]
   .cases c
  .rename_i fs;obtain⟨l,p,F,rfl⟩:=r;split at c
   .rename_i A u h1 o;rw[P0 h1]at j;rw[P0 o]at g;cases j;cases g;rename_i E l1 r1 c2 O L;have B:P.fieldsOf t=l:=by simp[Program.fieldsOf,p]
    rw[run_equalIn_struct w D t E c2 (by rw[B];exact p) F,B];exact Ajq M D om A u E c2 ⟨l1,r1⟩ ⟨O,L⟩ w l.toList b c
   .cases c
  .rename_i n e s;obtain⟨C,p,hi,F⟩:=r;split at c
   .rename_i A u h1 o;rw[P0 h1]at j;rw[P0 o]at g;cases j;cases g;rename_i E l1 r1 c2 O L;rw[run_equalIn_array w D E c2 p hi];have hc:P.cellsOf e=s:=by simp[Program.cellsOf,hi,F]
    rw[hc,Sb];exact Ajp M D om e s A u E c2 ⟨l1,r1⟩ ⟨O,L⟩ w n 0 b c
   .cases c
  .obtain⟨e,p⟩:=r;split at c
   .rename_i h1 o;rw[Ok h1]at j;rw[Ok o]at g;cases j;cases g;cases c;simp[Op.equalIn,run_underlying p]
   .rename_i h1 o;rw[Ok h1]at j;rw[Ri o]at g;cases j;cases c;cases g<;>simp[Op.equalIn,run_underlying p]
   .rename_i h1 o;rw[Ri h1]at j;rw[Ok o]at g;cases g;cases c;cases j<;>simp[Op.equalIn,run_underlying p]
   .cases c
def Tt(neg:Bool)(t:TypeId)(x y:Operand){u v:AV}{v':Value}(e:Au σ u j)(d:Au σ v v')(Sm:Bool)
 (hc:Sm=true->isConst x=true\/isConst y=true) (ha:Xm P t Sm (O6 u) (O6 v)=true) (w:World):(eqGuard (if neg then .neq else .eql) t x y j v').run P w=.ok () w:=by
 generalize (if neg then BinOp.neq else BinOp.eql)=op;cases e<;>cases d<;>first
  |(exfalso;revert ha;simp[Xm,O6];done)
  |(cases op<;>rfl)
  |skip
 .have:Sm=true:=by simpa[Xm,O6]using ha
  rcases hc this with h1|h1;. cases x<;>first|(cases h1;done)|(cases op<;>simp[eqGuard])
  .cases y<;>first|(cases h1;done)|(cases op<;>simp[eqGuard])
 .have b:Nq P t=true:=by simpa[Xm,O6]using ha
  unfold Nq at b;rw[Kb]at b;exact run_eqGuard_agg w op t x y _ _ (by simpa using b)
def AgT{neg}{t}{x y}{Sm}(c:Xe neg P t x y Sm h=.ok v h'):
 Xm P t Sm (O6 x) (O6 y)=true/\∃b,aeq P 20 t x y=some b/\v=.bool (neg != b)/\h'=h:=by
 rcases Bl c with⟨d,c⟩|⟨_,c⟩;. grind
 grind
def Yz(t:TypeId){u v:AV}{v':Value}(g:Au σ u j)(d:Au σ v v')(Sm:Bool)(e:Xm P t Sm (O6 u) (O6 v)=true)(w:World)(b:Bool)
 (hb:(Op.equal t j v').run P w=.ok b w):(binOp .eql t j v').run P w=.ok (.bool b) w/\(binOp .neq t j v').run P w=.ok (.bool (!b)) w:=by cases g<;>cases d<;>first
  |(exfalso;revert e;simp[Xm,O6];done)
  |(constructor<;>simp[binOp,hb])
def Apw{y}{k}{n}{op}(b:Apv y k n op h=.ok v h'):∃k' m,y=.int k' m/\AqP op k n k' m h=.ok v h':=by cases y<;>first|(cases b)|exact⟨_,_,rfl,b⟩
def Apy{y}{s}{op}(c:Apx y s op h=.ok v h'):∃b,y=.str b/\AuB op s b h=.ok v h':=by cases y<;>first|(cases c)|exact⟨_,rfl,c⟩
def Aco(op:BinOp)(t:TypeId)(x y:Operand)(C:TypeId):Hm P G ⟨dst,.binOp op t x y C,ty,pos,af,gd⟩:=by
 intro σ nt f a h h' w v Z E De D B;simp[Op.operands]at De;have d:=Cj D B x De.1;have c:=Cj D B y De.2;have l:Atc (ev x f) (ev x f) (ev y f) op t (Bool.rec (isConst y) true (isConst x)) P h=.ok v h':=E;have i:(Bool.rec (isConst y) true (isConst x))=true->isConst x=true\/isConst y=true:=by
  cases hc:isConst x;. simp_all
  simp
 generalize Bool.rec _ ..=Sm at *;generalize ev x f=u at *;generalize ev y f=u2 at *;have p:Ij u u2 op t Sm P h=.ok v h'->∃v' w',Ran P (execOp a.eval ⟨dst,.binOp op t x y C,ty,pos,af,gd⟩) w v' w'/\Ag4 σ h w v v' h' w':=by
  intro e;have r:op=.eql/\Xe false P t u u2 Sm h=.ok v h'\/op=.neq/\Xe true P t u u2 Sm h=.ok v h':=by cases op<;>first|(cases e)|exact .inl ⟨rfl,e⟩|exact .inr ⟨rfl,e⟩
  rcases r with⟨rfl,e⟩|⟨rfl,e⟩
  .obtain⟨j,b,hq,rfl,rfl⟩:=AgT e;have h1:=Tt false t x y d c _ i j w;have o:=Yz t d c _ j w b (Zj P _ _ t u _ b _ _ hq d c _ w fe);refine⟨.bool b,w,.inl ?_,.quiet _ _ ?_⟩;. simp[Mh,Fl]at h1;simp[execOp,h1,o.1]
   .cases b<;>exact .bool _
  .obtain⟨j,b,hq,rfl,rfl⟩:=AgT e;have h1:=Tt true t x y d c _ i j w;have o:=Yz t d c _ j w b (Zj P _ _ t u _ b _ _ hq d c _ w fe);refine⟨.bool !b,w,.inl ?_,.quiet _ _ ?_⟩;. simp[Jr]at h1;simp[execOp,h1,o.2]
   .cases b<;>exact .bool _
 cases u with
 |int k n=>obtain⟨k',m,rfl,hi⟩:=Apw (show Apv _ k n _ h=.ok v _ from l);generalize A:a.eval x=xx at *;generalize g:a.eval y=yy at *;cases d;cases c;obtain⟨v',q,z,rfl⟩:=AnX (P:=P) _ t k _ n m w hi;exact⟨_,w,.inl (by simp[execOp,A,g,Aft,q]),.quiet _ _ z⟩
 |str s=>obtain⟨F,rfl,hi⟩:=Apy (show Apx _ s _ h=.ok v _ from l);generalize A:a.eval x=xx at *;generalize g:a.eval y=yy at *;cases d;cases c;obtain⟨v',q,z,rfl⟩:=AnY (P:=P) _ t _ _ w hi;exact⟨_,w,.inl (by simp[execOp,A,g,Afu,q]),.quiet _ _ z⟩
 |top=>cases l
 |_=>exact p l
end ops
section ops
variable {dst:Option Tmp}{ty:TypeId}{pos:String}{af:Array Edge}{gd:Option (Nat × Bool)}
def Nt(d:Pt σ nt f a)(g:Vm G σ){x}(i:Es G x=true){n y}(hn:Vg (ev x f)=some n)(b:n<=y) code w:
 (Instr.sliceBound (a.eval x) y code).run P w=.ok n w:=by obtain⟨k,e⟩:=Us hn;have c:=Cj d g x i;rw[e]at c;generalize a.eval x=u at *;cases c;simp[Instr.sliceBound,asIntOf,b]
def Og(b:Pt σ nt f a)(c:Vm G σ){lo hi g}(h1:∀x,lo=some x->Es G x=true)(j:∀x,hi=some x->Es G x=true)(k:∀x,g=some x->Es G x=true)
 {l u m len cap} (hm:bnd f g cap=some m) (hl:bnd f lo 0=some l) (hu:bnd f hi len=some u) (hlu:l<=u) (hum:u<=m) (hmc:m<=cap) (P5:g≠none->hi≠none) is w:
 (Instr.sliceBounds is len cap (lo.map a.eval) (hi.map a.eval) (g.map a.eval)).run P w=.ok (l,u,m) w:=by cases g with
 |none=>
  have e:m=cap:=by cases hm;rfl
  subst e;cases hi with
  |none=>
   have e:u=len:=by cases hu;rfl
   subst e;cases lo with
   |none=>
    have e:l=0:=by cases hl;rfl
    subst e;rfl
   |some x=>simp[Instr.sliceBounds,Nt b c (h1 x _) hl hlu]
  |some y=>have d:=Nt (P:=P) b c (j y rfl) hu hum;cases lo with
   |none=>
    have e:l=0:=by cases hl;rfl
    subst e;simp[Instr.sliceBounds,d]
   |some x=>have r1:=Nt (P:=P) b c (h1 x rfl) hl hlu;simp[Instr.sliceBounds,r1,d]
 |some z=>have i:=Nt (P:=P) b c (k z rfl) hm hmc;cases hi with
  |none=>grind
  |some y=>have d:=Nt (P:=P) b c (j y rfl) hu hum;cases lo with
   |none=>
    have e:l=0:=by cases hl;rfl
    subst e;simp[Instr.sliceBounds,d,i]
   |some x=>have r1:=Nt (P:=P) b c (h1 x rfl) hl hlu;simp[Instr.sliceBounds,r1,d,i]
def Abf s l u:bytesOf (s.extract l u)=((bytesOf s).drop l).take (u-l):=by unfold bytesOf;simp
def Asd{s}{l u}(b:Ai9 s l u h=.ok v h'):
 ∃d c,l=some d/\u=some c/\d<=c/\c<=s.length/\v=.str ((s.drop d).take (c-d))/\h'=h:=by
 unfold Ai9 at b;split at b
 .rcases Bl b with⟨h1,b⟩|⟨_,b⟩
  .rcases Bl b with⟨e,b⟩|⟨_,b⟩;. obtain⟨rfl,rfl⟩:=B4 b;rw[Rf]at e;refine⟨_,_,rfl,rfl,G2 h1,G2 e,?_,rfl⟩;rw[Asg,Asc];rfl
   grind
  grind
 grind
def Y1{b off cap sz}{ex}{l u}(c:AkE b off cap sz ex l u h=.ok v h'):l<=u/\u<=cap/\h'=h /\
 (l<cap/\v=.sl b (off+l*sz) (u-l) (cap-l) sz ex\/l=cap/\ex=true/\v=.sl b off 0 0 sz true\/l=cap/\l=0/\v=.sl b off 0 0 sz ex\/l=cap/\l≠0/\ex=false/\v=.sl b (off+1) 0 0 0 false):=by
 rcases Bl c with⟨h1,c⟩|⟨_,c⟩
 .rcases Bl c with⟨g,c⟩|⟨_,c⟩
  .have g1:=G2 h1;have g2:=G2 g;rcases Bl c with⟨e,c⟩|⟨e,c⟩;. simp_all
   .have j:=Ap1 e;rcases Bl c with⟨i,c⟩|⟨i,c⟩;. grind
    .rcases Bl c with⟨d,c⟩|⟨d,c⟩;. simp_all
     .obtain⟨rfl,rfl⟩:=B4 c;refine⟨g1,g2,rfl,.inr (.inr (.inr ⟨by omega,Ho d,?_,rfl⟩))⟩;grind
  simp_all
 grind
def Ai8{b off cap sz l u c}(d:Amj b off cap sz l u c h=.ok v h'):l<=u/\u<=c/\c<=cap/\h'=h /\
 v=.sl b (if c=l then off else off+l*sz) (u-l) (c-l) sz true:=by
 rcases Bl d with⟨h1,d⟩|⟨_,d⟩
 .rcases Bl d with⟨e,d⟩|⟨_,d⟩
  .rcases Bl d with⟨g,d⟩|⟨_,d⟩;. obtain⟨rfl,rfl⟩:=B4 d;refine⟨G2 h1,G2 e,G2 g,rfl,?_⟩;cases hq:Nat.beq c l with
     |false=>rw[X2 (Ho hq)];rfl
     |true=>simp_all
   grind
  simp_all
 grind
def AsX{G}{lo hi b}{x}(h:(Op.slice ty x lo hi b).operands.toList.all (Es G)=true):
 Es G x=true/\(∀y,lo=some y->Es G y=true)/\(∀y,hi=some y->Es G y=true)/\∀y,b=some y->Es G y=true:=by simp[Op.operands,ad,List.all_append,Wx]at h;grind
def Acs(t:TypeId)(x:Operand)(lo hi O:Option Operand):Hm P G ⟨dst,.slice t x lo hi O,ty,pos,af,gd⟩:=by
 intro σ nt f a h h' w v Z U De F E;obtain⟨ox,R,Q,S⟩:=AsX De;have r:=Cj F E x ox;have d:G5 t x lo hi O ty P Z f h=.ok v h'/\A4a hi O=true:=by
  rcases Bl U with⟨h1,U⟩|⟨_,U⟩
  .exact⟨U,h1⟩
  .cases U
 obtain⟨d,hmo⟩:=d;have P5:O≠none->hi≠none:=by
  intro h1 h2;cases O with
  |none=>exact h1 rfl
  |some m=>subst h2;cases hmo
 unfold G5 at d;generalize T:a.eval x=y at *
 split at d
 .rename_i I;split at d
  .rename_i s hvs;rw[Rj hvs]at r;cases r;rename_i K;obtain⟨l,u,hl,hu,hlu,M,rfl,rfl⟩:=Asd d;rw[Gv]at M;have X:bnd f hi K.size=some u:=by rw[<- Gv,<- Rf];exact hu
   have j:=Og (P:=P) F E R Q S (cap:=K.size) (len:=K.size) (m:=K.size) rfl hl X hlu M (Ye _) (λg=>absurd rfl g) false w;refine⟨.string (K.extract l u),w,.inl ?_,.quiet _ _ ?_⟩
   .have hun:=Afb I;simp only[ey]at j;simp[execOp,T,Instr.sliceAt,Instr.slice,run_underlying hun,j]
   .rw[<- Abf];exact .str _
  .cases d
 .rename_i i I;obtain⟨Y,J,k2,V,k4⟩:=AiO I;split at d
  .rename_i z;rw[Ok z]at r;cases r;split at d
   .rename_i e1 B p;obtain⟨rfl,rfl⟩:=B4 d;have j:=Og (P:=P) F E R Q S (cap:=0) (len:=0) p e1 B (Ye _) (Ye _) (Ye _) P5 true w;refine⟨.slice none 0 0,w,.inl ?_,.quiet _ _ .Bv⟩;simp[execOp,T,Instr.sliceAt,Instr.slice,run_underlying J,j,sizeOf,typeInfo,k2]
   .cases d
  .rename_i b off len cap sz ex z;rw[Ri z]at r;have AhE:=Aox I;cases r;rotate_left
   .exfalso;split at d
    .rcases Bl d with⟨C,_⟩|⟨_,d⟩
     .have:=Ch C;omega
     .cases d
    .split at d
     .rcases Bl d with⟨C,_⟩|⟨_,d⟩
      .have:=Ch C;omega
      .cases d
     .cases d
    .cases d
   rename_i e q o g1 g2 g3 g4;split at d
   .rename_i l u e1 B;rcases Bl d with⟨C,d⟩|⟨_,d⟩
    .have D:=Ch C;obtain⟨L,W,rfl,Al8⟩:=Y1 d;have j:=Og (P:=P) F E R Q S (cap:=q) (len:=len) (m:=q) rfl e1 B L om (Ye _) (λg=>absurd rfl g) true w;simp only[ey]at j;have run:(execOp a.eval ⟨dst,.slice t x lo hi none,ty,pos,af,gd⟩).run P w=.ok (.value (.slice (if q=l then some ⟨e.c,off,none⟩else some ((⟨e.c,off,none⟩:Addr).add (l*i.s))) (u-l) (q-l))) w:=by simp[execOp,T,Instr.sliceAt,Instr.slice,run_underlying J,j,sizeOf,typeInfo,k2,V]
     rcases Al8 with⟨A,rfl⟩|⟨A,rfl,rfl⟩|⟨A,q4,rfl⟩|⟨A,q4,rfl,rfl⟩
     .refine⟨_,w,.inl run,.quiet _ _ ?_⟩;rw[X2 om,G1,<- D];refine .sl b _ _ _ _ _ e _ o om om (λg=>by rw[g3 g]) (λg=>?_);have:=g4 g;have p:l*sz+(q-l)*sz=q*sz:=by rw[<- ag];congr 1;omega
      omega
     .have:=g3 rfl;subst this;refine⟨_,w,.inl run,.quiet _ _ ?_⟩;have p:u=l:=by omega
      rw[Xo A.symm,p,<- A,Nat.sub_self];exact .sl b _ _ _ _ _ e _ o om om (λ_=>rfl) (λg=>by cases g)
     .subst q4;have p:u=0:=by omega
      refine⟨_,w,.inl run,.quiet _ _ ?_⟩;have e4:(if q=0 then some (⟨e.c,off,none⟩:Addr)else some ((⟨e.c,off,none⟩:Addr).add (0*i.s)))=some ⟨e.c,off,none⟩:=by rw[G1];simp
      rw[e4,p,ew,ew];exact .sl b _ _ _ _ _ e _ o om om (λg=>by rw[g3 g];omega) g4
     .have p:u=l:=by omega
      refine⟨_,w,.inl run,.quiet _ _ ?_⟩;rw[p,Nat.sub_self];by_cases k:q=l;. rw[Xo k];exact .slw b off e o _ _
      .rw[X2 k];exact .slw b off e o _ _
    .cases d
   .rename_i l u m e1 B;split at d
    .rename_i c p;rcases Bl d with⟨C,d⟩|⟨_,d⟩
     .have D:=Ch C;obtain⟨L,W,A,rfl,rfl⟩:=Ai8 d;have j:=Og (P:=P) F E R Q S (cap:=q) (len:=len) (m:=c) p e1 B L W om P5 true w;refine⟨.slice (if c=l then some ⟨e.c,off,none⟩else some ((⟨e.c,off,none⟩:Addr).add (l*i.s))) (u-l) (c-l),w,.inl ?_,.quiet _ _ ?_⟩;. simp only[dy]at j;simp[execOp,T,Instr.sliceAt,Instr.slice,run_underlying J,j,sizeOf,typeInfo,k2,V]
      .rw[G1,<- D];by_cases k:c=l;. rw[Xo k,Xo k];exact .sl b _ _ _ _ _ e _ o om om (λ_=>rfl) (λg=>by cases g)
       .rw[X2 k,X2 k];exact .sl b _ _ _ _ _ e _ o om om (λ_=>rfl) (λg=>by cases g)
     .cases d
    .cases d
   .cases d
  .cases d
 .rename_i n i I;obtain⟨Y,J,k2,V,k4⟩:=Aat I;split at d
  .rename_i b off l u hvp e1 B;rw[P2 hvp]at r;cases r;rename_i e o;obtain⟨L,W,A,rfl,rfl⟩:=Ai8 d;have j:=Og (P:=P) F E R Q S (cap:=n) (len:=n) (m:=n) rfl e1 B L W (Ye _) (λg=>absurd rfl g) false w;refine⟨.slice (some (if n=l then⟨e.c,off,none⟩else((⟨e.c,off,none⟩:Addr).add (l*i.s)))) (u-l) (n-l),w,.inl ?_,.quiet _ _ ?_⟩;. simp only[ey]at j;simp[execOp,T,Instr.sliceAt,run_underlying J,j,sizeOf,typeInfo,k2,V,Instr.sureAddr]
   .rw[G1];by_cases k:n=l;. rw[Xo k,Xo k];exact .sl b _ _ _ _ _ e _ o om om (λ_=>rfl) (λg=>by cases g)
    .rw[X2 k,X2 k];exact .sl b _ _ _ _ _ e _ o om om (λ_=>rfl) (λg=>by cases g)
  .cases d
 .cases d
end ops
section ops
variable {dst:Option Tmp}{ty:TypeId}{pos:String}{af:Array Edge}{gd:Option (Nat × Bool)}
def AmG(b:List (Value × Nat)) off(cells:Array _):(b.foldl (λcs p=>cs.setIfInBounds (off+p.2) p.1) cells).size=cells.size:=by induction b generalizing cells with
|nil=>rfl
|cons p b c=>grind
def ApW(b:List Value) off:∀k (cells:Array _) i,off+k+b.length<=cells.size ->
 ((b.zipIdx k).foldl (λcs p=>cs.setIfInBounds (off+p.2) p.1) cells)[i]?=if off+k<=i/\i<off+k+b.length then b[i-(off+k)]? else cells[i]?:=by induction b with
 |nil=>simp_all;omega
 |cons v b c=>simp[List.zipIdx_cons,du];grind
def Aci(E:Pt σ nt f a)(B:Vm G σ){place AcZ:Nat->Option (Nat × Nat)}(D:∀i q,place i=some q->AcZ i=some q):
 ∀(b:List (Nat × Operand)) (cs r:uw) (D7:Array Value),b.all (λp=>Es G p.2)=true->Xp place f b cs=some r->Bk σ cs D7.toList ->
  ∃m:Array Value,Instr.fill AcZ D7 (b.map λp=>(p.1,a.eval p.2))=some m/\Bk σ r m.toList:=by intro b;induction b with
 |nil=>intro cs r D7 _ d hc;cases d;exact⟨D7,rfl,hc⟩
 |cons p b K=>
  obtain⟨i,x⟩:=p;intro cs r D7 De d hc;simp only[List.all_cons,Wx]at De;simp only[Xp]at d;split at d
  .rename_i off size u C L;split at d;. rename_i e s;cases hq:Nat.beq (Q4 u) size with
     |false=>simp_all
     |true=>
      rw[hq]at d;have O:=Ch hq;rw[Gh]at O;have t:=O4 L (Cj E B x De.1);obtain⟨M,_⟩:=Ns s;have n:u.length=(a.eval x).cells.size:=by rw[t.1];simp
      have J:cs.length=D7.size:=by rw[hc.1];simp
      simp only[Co,Instr.fill,D i _ C];rw[X2 (by simp;omega)];refine K e r _ De.2 d ?_;have g:=λi=>ApW (a.eval x).cells.toList off 0 D7 i (by simp;omega);rw[<- Array.foldl_toList];rw[Array.toList_zipIdx];generalize o:((a.eval x).cells.toList.zipIdx 0).foldl (λcs (p:Value × Nat)=>cs.setIfInBounds (off+p.2) p.1) D7=F at g;have A:List.foldl (λcs x=>cs.setIfInBounds (off+x.2) x.1) D7 (a.eval x).cells.toList.zipIdx=F:=o;have Q:F.size=D7.size:=by rw[<- o];exact AmG _ _ _
      have l:Bk σ e F.toList:=by
       refine⟨?_,λj y z k I=>?_⟩;. grind
       .rw[AhU s]at k;have c:F[j]?=some z:=by simpa using I
        rw[g j]at c;simp only[Vw,Array.length_toList]at c;by_cases hj:off<=j/\j<off+u.length;. rw[Xo hj]at k;rw[Xo om]at c;exact t.2 (j-off) y z k c
        .rw[X2 hj]at k;rw[X2 om]at c;exact hc.2 j y z k (by grind)
      exact l
   .cases d
  .cases d
def AcV{t}{b}(h:(Op.build t b).operands.toList.all (Es G)=true):b.toList.all (λp=>Es G p.2)=true:=by simpa[Op.operands]using h
def Vi{t}{n}{b}(h:(Op.buildSlice t n b).operands.toList.all (Es G)=true):b.toList.all (λp=>Es G p.2)=true:=by simpa[Op.operands]using h
def AhY P w:∀(l:List _) pl,l.mapM (λf=>(F7 P f.type).map λs=>(f.offset,s))=some pl ->
 (l.mapM (λf=>do pure (f.offset,<- sizeOf f.type):Go.Field->Sem _)).run P w=.ok pl w:=by intro l;induction l with
 |nil=>simp
 |cons f l e=>
  intro pl h;rw[P9]at h;simp only[bind,X4,pure,ef,Sw]at h;obtain⟨q,⟨s,c,rfl⟩,b,g,rfl⟩:=h;obtain⟨i,hi,rfl⟩:=F3 c;have d:(sizeOf f.type).run P w=.ok i.size w:=by simp[sizeOf,typeInfo,hi]
  simp_all
def Afm{t}{pl}{z}(h:AgS P t=.struct pl z):∃b,P.underlying t=some (.struct b)/\I1 P t=some z/\b.toList.mapM (λf=>(F7 P f.type).map λs=>(f.offset,s))=some pl:=by
 unfold AgS at h;split at h
 .split at h;. rename_i d c;unfold places at c;simp_all
  grind
 .grind
 grind
def Am2{t}{s}{z}(h:AgS P t=.arr s z):∃n e b,P.underlying t=some (.array n e)/\I1 P t=some z/\P.info? e=some b/\b.size=s:=by
 unfold AgS at h;split at h;. grind
 .split at h;. rename_i g c;obtain⟨b,h1,d⟩:=F3 c;grind
  grind
 grind
def Acp t parts:Hm P G ⟨dst,.build t parts,ty,pos,af,gd⟩:=by
 intro σ nt f a h h' w v Z F De y x;have d:=AcV De;have j:Tg t _ ty P Z f h=.ok v _:=F;unfold Tg at j;have g:(parts.map λp=>(p.1,a.eval p.2)).toList=parts.toList.map λp=>(p.1,a.eval p.2):=by simp
 split at j
 .rename_i pl z l;obtain⟨cs,hc,rfl,rfl⟩:=Aaj j;obtain⟨D,r,m,C⟩:=Afm l;obtain⟨i,zz,hi,b,o⟩:=Kn _ m;obtain⟨A,h1,c⟩:=Aci y x (AcZ:=λi=>pl.toArray[i]?) λi q hq=>by grind _ z _ _ d hc o;refine⟨_,w,.inl ?_,.quiet _ _ (.agg _ _ c.1 c.2)⟩;have I:=AhY P w _ _ C;have k:(D.mapM (λf=>do pure (f.offset,<- sizeOf f.type):Go.Field->Sem _)).run P w=.ok pl.toArray w:=by rw[ed];simp_all
  simp only[execOp,Instr.build,zeroValue,typeInfo,Sem.run_bind,run_program,Result.andThen_ok,hi,Sem.run_pure,b,run_underlying r,k,g,h1]
 .rename_i s z l;obtain⟨cs,hc,rfl,rfl⟩:=Aaj j;obtain⟨n,e,B,r,m,u,E⟩:=Am2 l;obtain⟨i,zz,hi,b,o⟩:=Kn _ m;obtain⟨A,h1,c⟩:=Aci y x (AcZ:=λi=>some _) (λi q hq=>hq) _ z _ _ d hc o;refine⟨_,w,.inl ?_,.quiet _ _ (.agg _ _ c.1 c.2)⟩;simp[execOp,Instr.build,zeroValue,typeInfo,sizeOf,Sem.run_bind,run_program,Result.andThen_ok,hi,Sem.run_pure,b,run_underlying r,u,E,g,h1]
 simp_all
def AkD{t}{i}(h:Tw P t=some i):0<i.s:=by
 unfold Tw at h;split at h
 .split at h;. rename_i b z hi d;cases hq:Nat.beq (Q4 z) b.size with
    |false=>simp_all
    |true=>rw[hq]at h;have h':=h;cases c:Nat.blt 0 b.size with
     |false=>simp_all
     |true=>rw[c]at h';cases h';simp_all
  simp_all
 grind
def Pk{t}{i}(h:Tw P t=some i):∃b z zz,P.underlying t=some (.slice i.e)/\P.info? i.e=some b/\b.size=i.s/\b.bytes=i.bytes /\
 I1 P i.e=some z/\b.zero=some zz/\z.length=i.s/\zz.cells.size=i.s/\∀σ,Bk σ z zz.cells.toList:=by
 unfold Tw at h;split at h
 .split at h;. rename_i b z hi g;cases hq:Nat.beq (Q4 z) b.size with
    |false=>simp_all
    |true=>rw[hq]at h;have h':=h;cases c:Nat.blt 0 b.size with
     |false=>simp_all
     |true=>
     rw[c]at h';have e1:=Ch hq;rw[Gh]at e1;obtain⟨d,zz,h1,m,_⟩:=Kn (λ_=>none) g;have k:∀σ,Bk σ z zz.cells.toList:=by intro σ;obtain⟨d,j,g1,g2,n⟩:=Kn σ g;simp_all
     have l:=(k λ_=>none).1;grind
  simp_all
 grind
def ArN z:∀n j,j<n*z.length->(Ade z n)[j]?=z[j%z.length]?:=by intro n;induction n with
|zero=>simp
|succ n b=>
 intro j hj;simp[Ade,Dl];by_cases h1:j<z.length;. rw[ck h1,dm h1]
 .rw[bu om];have c:j-z.length<n*z.length:=by grind
  rw[b _ c,<- Nat.mod_eq_sub_mod om]
def Aix z:∀n,(Ade z n).length=n*z.length:=by intro n;induction n with
|zero=>simp[Ade]
|succ n b=>simp[Ade,Dl,Yl,b,ag];omega
def Aiy{zz:Array Value}(b:Bk σ o zz.toList) n:Bk σ (Ade o n) ((Array.range (n*o.length)).map λi=>zz[i%zz.size]!).toList:=by
 have d:o.length=zz.size:=by rw[b.1];rfl
 refine⟨by rw[Aix];simp,λi x y c e=>?_⟩;have hi:i<n*o.length:=by grind
 rw[ArN o n i hi]at c;refine b.2 _ x y c ?_;grind
def Ro t(n:Nat) parts:Hm P G ⟨dst,.buildSlice t n parts,ty,pos,af,gd⟩:=by
 intro σ nt f a h h' w v Z J De E A;have d:=Vi De;have b:Gz t n _ ty P Z f h=.ok v _:=J;unfold Gz at b;have c:(parts.map λp=>(p.1,a.eval p.2)).toList=parts.toList.map λp=>(p.1,a.eval p.2):=by simp
 split at b
 .rename_i i I;obtain⟨C,z,zz,o,hi,u,F,D,l,e,B,K⟩:=Pk I;rw[D]at b;dsimp at b;split at b
  .rename_i cs hc;rcases Bl b with⟨k,r⟩|⟨_,r⟩
   .obtain⟨rfl,rfl⟩:=B4 r;have M:=Ec k;obtain⟨L,h1,x⟩:=Aci E A (AcZ:=λj=>some _) (λj q hq=>hq) _ _ _ _ d hc (Aiy (K _) n);refine⟨_,_,.inl ?_,.sl _ _ _ n n _ (Ye _) x⟩;have hn:¬ n*i.s > 2^24:=by omega
    rw[e]at h1;by_cases y:n*i.s=0
    .have m:∀g:Nat->Value,(Array.range (n*i.s)).map g=#[]:=λg=>by simp_all
     rw[m]at h1;simp[execOp,Instr.buildSlice,typeInfo,sizeOf,Sem.run_bind,run_program,Result.andThen_ok,Sem.run_pure,run_underlying o,hi,u,X2 _,c,m,newRow,Dd];simp_all
    .simp[execOp,Instr.buildSlice,zeroValue,typeInfo,sizeOf,Sem.run_bind,run_program,Result.andThen_ok,Sem.run_pure,run_underlying o,hi,u,l,X2 hn,c,y,Fl,newRow,run_newObj,Dd,h1]
   grind
  grind
 grind
def Ta(P:Program)(t:TypeId):match Pw P t with
 |.bad=>True
 |.str=>P.underlying t=some .string
 |.sl=>∃e,P.underlying t=some (.slice e):=by
 unfold Pw;cases b:P.underlying t with
 |none=>trivial
 |some d=>cases d<;>first|trivial|exact⟨_,rfl⟩|exact⟨_,_,rfl⟩
def AeE{t:TypeId}{x:AV}(k:Au σ x j)(g:lnK (Pw P t) x h=.ok v h')(w:World)(ts:Array TypeId)(i:ts[0]?=some t):
 ∃v',(Builtin.len_ ts ty #[j]).run P w=.ok v' w/\Au σ v v'/\h'=h:=by
 have c:=Ta P t;cases y:Pw P t with
 |bad=>rw[y]at g;cases g
 |str=>
  rw[y]at g c;have d:lnS x h=.ok v h':=g;cases k<;>first|(cases d;done)|skip
  rename_i s;cases d;refine⟨.int .i64 s.size,?_,?_,rfl⟩
  .simp[Builtin.len_,i,run_underlying c,goInt]
  .rw[Rf,Gv];exact .int _ _
 |sl=>
  rw[y]at g c;obtain⟨e,c⟩:=c;have d:Fo x h=.ok v h':=g;cases k<;>first|(cases d;done)|skip
  .cases d;exact⟨.int .i64 0,by simp[Builtin.len_,i,run_underlying c,goInt],.int _ _,rfl⟩
  .rename_i b off len cap sz ex e1 l _ _ _ _ _;cases d;exact⟨.int .i64 len,by simp[Builtin.len_,i,run_underlying c,goInt],.int _ _,rfl⟩
  .cases d;exact⟨.int .i64 0,by simp[Builtin.len_,i,run_underlying c,goInt],.int _ _,rfl⟩
end ops
def Cc(w:World)(c:Nat)(o:Obj):World:={ w with heap:=w.heap.setIfInBounds c o }
def Da w c o j:(Cc w c o).heap[j]?=if j=c/\c<w.heap.size then some o else w.heap[j]?:=by unfold Cc;grind
def Mr w c o:(Cc w c o).heap.size=w.heap.size:=by simp[Cc]
def Dj{w:World}{c}{o}(hc:w.heap[c]?=some o):c<w.heap.size:=(Lp.1 hc).1
def Ak8{w}{c i}{v}{arr}{t}{fz}(hc:w.heap[c]?=some (.cells arr t fz)):
 w.setCell ⟨c,i,none⟩ v=Cc w c (.cells (arr.setIfInBounds i v) t fz):=by unfold World.setCell Cc;congr 1;grind
def J9(arr:Array Value)(o:Nat)(b:List Value):Array Value:=(arr.toList.take o++b++arr.toList.drop (o+b.length)).toArray
def Nz{arr}{o:Nat}{b:List _}(c:o+b.length<=arr.size)(i):
 (J9 arr o b)[i]?=if o<=i/\i<o+b.length then b[i-o]? else arr[i]?:=by
 unfold J9;have d:arr.toList.length=arr.size:=by rfl
 simp only[bl];by_cases e:i<o
 .grind
 grind
def O2{arr}{o}{b}(c:o+b.length<=arr.size):(J9 arr o b).size=arr.size:=by unfold J9;grind
def AgQ{arr}{o}{v}{b}(c:o+(b.length+1)<=arr.size):
 J9 (arr.setIfInBounds o v) (o+1) b=J9 arr o (v::b):=by apply Array.ext_getElem?;intro i;rw[Nz (by grind),Nz om];grind
def AdY w c o o':Cc (Cc w c o) c o'=Cc w c o':=by unfold Cc;simp
def Nl(P:Program)(c off:Nat)(t:TypeId)(lo hi:Nat):∀(b:List Value) (i:Nat) (arr:Array Value) (w:World),w.heap[c]?=some (.cells arr t (lo,hi)) ->
 off+i+b.length<=arr.size->(∀j,off+i<=j->j<off+i+b.length->¬ (lo<=j/\j<hi))->(∀v∈b,v.oneCell'=true) ->
 (storeCells ⟨c,off,none⟩ b i).run P w=.ok () (Cc w c (.cells (J9 arr (off+i) b) t (lo,hi)))
 |[],i,arr,w,hc,hle,_,_=>by
  have e:J9 arr (off+i) []=arr:=by unfold J9;simp
  rw[e];simp only[storeCells,Sem.run_pure];congr 1;unfold Cc;have s:=Dj hc;have:w.heap.setIfInBounds c (.cells arr t (lo,hi))=w.heap:=by grind
  simp[*]
 |v::b,i,arr,w,hc,hle,g,d=>by
  simp only[Y7]at hle g;have q:w.cell? ((⟨c,off,none⟩:Addr).add i)=some arr[off+i]:=by rw[G1];simp[World.cell?,hc]
  have l:w.frozen? ((⟨c,off,none⟩:Addr).add i)=false:=by rw[G1];simp only[World.frozen?,hc];simp_all
  have k:=run_store P w ((⟨c,off,none⟩:Addr).add i) v .plain (d v (by simp));rw[q,l]at k;simp only[Mh,Fl]at k;rw[G1,Ak8 hc]at k;have m:(Cc w c (.cells (arr.setIfInBounds (off+i) v) t (lo,hi))).heap[c]?=some (.cells (arr.setIfInBounds (off+i) v) t (lo,hi)):=by rw[Da,Xo ⟨rfl,Dj hc⟩]
  have n:=Nl P c off t lo hi b (i+1) _ _ m (by grind) (λj h1 r=>g j om om) (λu p=>d u (by simp[p]));have o:storeCells ⟨c,off,none⟩ (v::b) i=(do store ((⟨c,off,none⟩:Addr).add i) v;storeCells ⟨c,off,none⟩ b (i+1)):=by rfl
  rw[o,Sem.run_bind,G1,k,Result.andThen_ok,n,AdY];congr 3;have:off+(i+1)=off+i+1:=by omega
  rw[this];exact AgQ om
def AjZ{n}{o}(b:AlH n o=true):o=.Fb n:=by cases o<;>first|(cases b)|skip;rename_i m;have:=Ch (show Nat.beq m n=true from b);grind
def rd_some{b}{c}(i:h.rd b=some c):∃t k,h.m.get b=.cells c t k/\Adp h.m.get k:=by have d:rdO _ h=some c:=i;cases g:h.m.get b with
|cells l t k=>rw[g]at d;have e:=d;cases k with
 |Cf cl st=>have:ArJ _ _ l h=some c:=e;unfold ArJ at this;cases hq:AlH st (h.m.get cl)with
  |false=>simp_all
  |true=>rw[hq]at this;cases this;exact⟨t,_,rfl,AjZ hq⟩
 |exact=>cases e;exact⟨t,_,rfl,trivial⟩
 |fz cl=>cases e;exact⟨t,_,rfl,trivial⟩
 |Gt cl=>cases e;exact⟨t,_,rfl,trivial⟩
|_=>rw[g]at d;cases d
def No{b}{c}{e}(l:h.rd b=some c)(d:Gr G σ h.m.get e w (h.m.get b)):
 ∃(arr:Array _) (t:TypeId) (fz:Nat × Nat),w.heap[e.c]?=some (.cells arr t fz)/\arr.size=e.N/\c.length<=e.N/\∀(i:Nat) x y,c[i]?=some x->arr[i]?=some y->Au σ x y:=by obtain⟨t,k,g,j⟩:=rd_some l;rw[g]at d;obtain⟨arr,lo,hi,h1,n,p,o,_⟩:=d.2 j;grind
def Xj{c i}{arr}{t}{fz}(hc:w.heap[c]?=some (.cells arr t fz)):w.cell? ⟨c,i,none⟩=arr[i]?:=by simp[World.cell?,hc]
def Mo{c off n}{arr}{t}{fz}(hc:w.heap[c]?=some (.cells arr t fz))(b:off+n<=arr.size):
 (loadCells ⟨c,off,none⟩ n).run P w=.ok ((arr.toList.drop off).take n).toArray w:=by
 have:=run_loadCells_list (P:=P) w ⟨c,off,_⟩ ((arr.toList.drop off).take n) λj v hj=>by rw[G1,Xj hc];grind
 grind
def Uj{c}{arr:Array _}{off n}{r}(d:Nf c off n=some r)(j:∀(i:Nat) x y,c[i]?=some x->arr[i]?=some y->Au σ x y)(b:c.length<=arr.size):
 Bk σ r ((arr.toList.drop off).take n):=by obtain⟨h1,rfl,e⟩:=Js d;refine⟨by grind,λi x y k g=>?_⟩;grind
def AhN{t}{c}{off}{e:SE}{arr}{ty}{fz}(b:Tn (Ft P t) c off=some v)(hc:w.heap[e.c]?=some (.cells arr ty fz))
 (hle:c.length<=arr.size) (hr:∀(i:Nat) x y,c[i]?=some x->arr[i]?=some y->Au σ x y):
 ∃v',(loadVar t ⟨e.c,off,none⟩).run P w=.ok v' w/\Au σ v v':=by
 unfold Tn at b;split at b;. rename_i d;rw[Ab6]at b;have hi:=(Wp.1 b).1;have j:arr[off]?=some arr[off]:=S2 _;refine⟨_,?_,hr _ v _ b j⟩;simp[loadVar,Sem.run_bind,Vv d,Result.andThen_ok,Mh,Fl,run_load,Xj hc,j]
 .rename_i n d;cases g:Nf c off n with
  |none=>grind
  |some r=>simp[g]at b;subst b;have:=Uj g hr hle;refine⟨_,?_,.agg _ _ this.1 this.2⟩;obtain⟨h1,_,_⟩:=Js g;simp[loadVar,Sem.run_bind,(Kj d w).1,(Kj d w).2,Result.andThen_ok,Jr,Mo hc (show off+n<=arr.size by omega),Sem.run_pure]
 grind
def Ae0{dst}{ty}{pos}{af}{gd} t x{Z}
 (he:opD (.load t x) ty P Z f h=.ok v h') (De:Es G x=true) (hf:Pt σ nt f a) (hg:Vm G σ)
 (hm:∀b off e,ev x f=.ptr b off->σ b=some e->Gr G σ h.m.get e w (h.m.get b)):
 ∃v',Ran P (execOp a.eval ⟨dst,.load t x,ty,pos,af,gd⟩) w v' w/\Au σ v v'/\h'=h:=by have B:=Cj hf hg x De;have o:ldV _ _ h=.ok v _:=he;generalize ev x f=u at *;generalize s:a.eval x=y at *;cases B<;>first|(cases o)|skip;rename_i b off e A;have g:ldC _ _ _ h=.ok v _:=o;cases k:h.rd b with
 |none=>rw[k]at g;cases g
 |some c=>
  rw[k]at g;obtain⟨arr,tt,fz,h1,C,D,r⟩:=No k (hm b _ e rfl A);have j:Tn (Ft P t) c off=some v/\h'=h:=by have d:=g;cases l:Ft P t with
   |none=>rw[l]at d;cases d
   |some i=>rw[l]at d;cases i with
    |none=>obtain⟨g1,g2⟩:=AbA (show Py _ h=.ok v _ from d);exact⟨g1,g2⟩
    |some n=>obtain⟨cs,g1,rfl,g2⟩:=Aaj (show Ly _ h=.ok v _ from d);exact⟨by simp[Tn,g1],g2⟩
  obtain⟨p,rfl⟩:=j;obtain⟨v',z,q⟩:=AhN p h1 om r;refine⟨_,.inl ?_,q,rfl⟩;simp[execOp,s,Instr.loadAt,Instr.sureAddr,z]
def Ph(h:H) b o(c:b<Bq) j(hj:j<Bq):(h.put b o).m.get j=if j=b then o else h.m.get j:=KM.Dh _ b j o c hj
def Ni(h:H) o(b:h.nx<Bq) j(hj:j<Bq):(h.new o).m.get j=if j=h.nx then o else h.m.get j:=KM.Dh _ _ j o b hj
def Ab7(hi:Om h){b}(c:b<Bq)(hn:h.m.get b≠.none):b<h.nx:=by
 rcases Ui b _ with h1|h1;. omega
 .exact absurd (hi.Rm b h1 c) hn
def Hh{b:Nat}{e:SE}{s:AO}(hi:Om h)(o:SOk σ w)(T:V1 G σ h.m.get w)(D:σ b=some e)(K:h.m.get b=C)(F:C≠.none)(S:∀n,C≠.Fb n)
 (hc:Ej C=none) (Wh:Ej s=none) (hk:e.k=none) (A4d:∀n,s≠.Fb n) (hr:Gr G σ (h.put b s).m.get e (Cc w e.c I) s):
 Out G σ h w σ (h.put b s) (Cc w e.c I):=by
 have L:=o.low b e D;have E:=Ab7 hi L (by rw[K];exact F);have q:=λj hj=>Ph h b s L j hj;have r:M2 s=none:=by cases s with
  |cells l t k=>cases k<;>first|rfl|(cases Wh;done)
  |_=>rfl
 have M:∀l t k st,s≠.cells l t (.Cf k st):=by rintro l t k st rfl;cases Wh
 refine⟨[b],⟨rfl,Ye _,?_,?_,?_,?_,?_,⟨hi.top,?_,?_,?_,?_,?_⟩,λx i _ _=>by rw[W9]at i;subst i;rw[K];exact F⟩,⟨Qq.refl σ,?_,?_,?_,?_,?_,⟨rfl,rfl⟩⟩,?_⟩;. intro x i;rw[W9]at i;subst i;exact E
 .intro x h1 d g;rw[q x h1,X2 (λe=>g (by simp[e]))]
 .grind
 .intro x k h1 d;exact absurd d (by show ¬ x<h.nx;omega)
 .grind
 .intro x h1 d;rw[q x d,X2 (by have:h.nx<=x:=h1;omega)];exact hi.Rm x h1 d
 .intro x k h1 d;rw[q x h1]at d;split at d;. rw[Wh]at d;cases d
  .obtain⟨g,n,p⟩:=hi.N3 x k h1 d;refine⟨g,n,?_⟩;have z:k<Bq:=by have:=hi.top;omega
   grind
 .intro x y k h1 d g p;rw[q x h1]at g;rw[q y d]at p;split at g;. rw[r]at g;cases g
  .split at p;. rw[r]at p;cases p
   .exact hi.Gt x y k h1 d g p
 .intro x l t k st n h1 d g;rw[q x h1]at d;split at d;. exact absurd d (M _ _ _ _)
  .obtain⟨W,V,X⟩:=hi.N3 x k h1 (by rw[d];rfl);have z:k<Bq:=by have:=hi.top;omega
   rw[q k z]at g;split at g;. exact absurd g (A4d n)
   .exact hi.Tx x l t k st n h1 d g
 .intro x y l t k st U O h1 d g p;rw[q x h1]at g;rw[q y d]at p;split at g;. exact absurd g (M _ _ _ _)
  .split at p;. rw[p]at r;cases r
   .exact hi.len x y l t k st U O h1 d g p
 .intro x u h1 d;rw[h1]at d;cases d
 .exact⟨o.inj,λx u i=>by rw[Mr];exact o.rng x u i,o.low⟩
 .rw[Mr];exact Ye _
 .intro c h1 d;rw[Da,X2];rintro ⟨rfl,_⟩;exact d b (by simp) e D rfl
 .intro x u h1 d;rw[h1]at d;cases d
 .intro x u i;have J:=o.low x u i;rw[q x J];by_cases B:x=b;. subst B;rw[Xo rfl];rw[D]at i;cases i;exact hr
  .rw[X2 B];have A:u.c≠e.c:=by
    intro A;rcases o.inj x b u e i D A with h1|⟨h1,d⟩;. exact B h1
    .rw[h1,hk]at d;exact d rfl
   refine Gr.congr (Qq.refl σ) (by rw[Da,X2 (λR=>A R.1)]) ?_ (T x u i);intro l t k st Q Y;have z:k<Bq:=by have:=(hi.N3 x k J (by rw[Q];rfl)).1;have:=hi.top;omega
   grind
def AhV{c l d}{off}{arr}{b}(j:Ng c d off=some l)(m:c.length<=arr.size)(k:Bk σ d b)
 (hr:∀(i:Nat) x y,c[i]?=some x->arr[i]?=some y->Au σ x y):∀(i:Nat) x y,l[i]?=some x->(J9 arr off b)[i]?=some y->Au σ x y:=by
 intro i x y g e;obtain⟨h1,_⟩:=Ns j;have n:=k.1;rw[AhU j]at g;rw[Nz om]at e;by_cases hj:off<=i/\i<off+d.length;. rw[Xo hj]at g;rw[Xo om]at e;exact k.2 _ x y g e
 grind
def AiL{b off}{l}(p:h.wr b off l=.ok h'):
 (∃c t g,h.m.get b=cz c t/\Ng c l off=some g/\h'=h.put b (cz g t)) \/
 ∃c t k n g,h.m.get b=.cells c t (.Gt k)/\h.m.get k=.Fb n/\Ng c l off=some g/\h'=(h.put b (.cells g t (.Gt k))).put k (.Fb (n+1)):=by have e:wrO _ b _ _ h=.ok _:=p;cases o:h.m.get b with
 |cells c t k=>rw[o]at e;have i:=e;cases k with
  |exact=>have d:wrL _ b t h=.ok _:=i;cases j:Ng c .. with
   |none=>rw[j]at d;cases d
   |some g=>rw[j]at d;cases d;grind
  |Gt cl=>
   have d:wrT _ _ _ b t h=.ok _:=i;unfold wrT at d;split at d
   .rename_i g n j hn;have:h.m.get cl=.Fb n:=by cases hq:h.m.get _<;>rw[hq]at hn<;>cases hn;rfl
    grind
   grind
  |fz cl=>cases i
  |Cf cl st=>cases i
 |_=>rw[o]at e;cases e
def Ys{b k n A:Nat}{B:uw}{t:TypeId}{q:CK}{ob:Obj}(hi:Om h)(R:SOk σ w)(hm:V1 G σ h.m.get w)(U:σ b=some p)
 (ho:h.m.get b=.cells o t (.Gt k)) (S3:h.m.get k=.Fb n) (hkk:(q=.Gt k/\A=n+1)\/(q=.fz k/\A=n/\∀x y,σ x=some y->y.c=p.c->x≠b->∀o t st,h.m.get x=.cells o t (.Cf k st)->Gr G σ h.m.get y (Cc w p.c ob) (h.m.get x)))
 (S4:B.length=o.length) (hr:Gr G σ ((h.put b (.cells B t q)).put k (.Fb A)).m.get p (Cc w p.c ob) (.cells B t q)):
 Out G σ h w σ ((h.put b (.cells B t q)).put k (.Fb A)) (Cc w p.c ob):=by
 have Y:=R.low b p U;have hbn:=Ab7 hi Y (by rw[ho];simp);obtain⟨A3T,_⟩:=hi.N3 b k Y (by rw[ho];rfl);have K:k<Bq:=by have:=hi.top;omega
 have hkb:k≠b:=by rintro rfl;rw[ho]at S3;cases S3
 have Vb:Ahd q=some k:=by rcases hkk with⟨rfl,_⟩|⟨rfl,_⟩<;>rfl
 have X:M2 (.cells B t q)=some k:=by rcases hkk with⟨rfl,_⟩|⟨rfl,_⟩<;>rfl
 have T:∀u r k2 st,AO.cells B t q≠.cells u r (.Cf k2 st):=by rintro u r k2 st hh;rcases hkk with⟨rfl,_⟩|⟨rfl,_⟩<;>cases hh
 have Zo:n<=A:=by rcases hkk with⟨_,rfl⟩|⟨_,rfl,_⟩<;>omega
 have C:p.k=some k:=by have:=hm b p U;rw[ho]at this;exact this.1
 have s:∀j,j<Bq->((h.put b (.cells B t q)).put k (.Fb A)).m.get j=if j=k then .Fb A else if j=b then .cells B t q else h.m.get j:=by intro j hj;rw[Ph _ _ _ K j hj,Ph _ _ _ Y j hj]
 generalize hh':(h.put b (.cells B t q)).put k (.Fb A)=h' at *
 have hnx:h'.nx=h.nx:=by rw[<- hh'];rfl
 have hlg:h'.lg=[k,b]++h.lg:=by rw[<- hh'];rfl
 refine⟨[k,b],⟨hlg,by omega,?_,?_,?_,?_,?_,⟨by rw[hnx];exact hi.top,?_,?_,?_,?_,?_⟩,λx e _ _=>by simp at e;rcases e with rfl|rfl;(rw[S3];simp);(rw[ho];simp)⟩,⟨Qq.refl σ,?_,?_,?_,?_,?_,⟨rfl,rfl⟩⟩,?_⟩
 .intro x e;simp at e;rcases e with rfl|rfl<;>omega
 .intro x h1 d g;simp at g;rw[s x h1,X2 g.1,X2 g.2]
 .intro x e k2 h1 d;simp at e;rcases e with rfl|rfl
  .rw[S3]at d;cases d
  .rw[ho]at d;cases d;simp
 .intro x k2 h1 d;omega
 .intro x k2 h1 d g;rw[s x d]at g;split at g
  .cases g
  .split at g
   .rename_i _ l;subst l;rw[ho];rw[show Ej (.cells B t q)=Ahd q from rfl,Vb]at g
    exact g
   .exact g
 .intro x h1 d;rw[s x d,X2 om,X2 om];exact hi.Rm x om d
 .intro x k2 h1 d;rw[s x h1]at d;have key:k2=k\/Ej (h.m.get x)=some k2:=by
   split at d
   .cases d
   .split at d
    .rw[show Ej (.cells B t q)=Ahd q from rfl,Vb]at d
     cases d;exact .inl rfl
    .exact .inr d
  rcases key with rfl|g
  .exact⟨by omega,A,by rw[s _ K,Xo rfl]⟩
  .obtain⟨g1,m,g2⟩:=hi.N3 x k2 h1 g;refine⟨by omega,?_⟩;rw[s k2 (by have:=hi.top;omega)]
   by_cases hq:k2=k
   .exact⟨A,by rw[Xo hq]⟩
   .rw[X2 hq,X2 (λp=>by subst p;rw[ho]at g2;cases g2)];exact⟨m,g2⟩
 .intro x y k2 h1 d g I;rw[s x h1]at g;rw[s y d]at I;have tr:∀z,M2 (if z=k then .Fb A else if z=b then .cells B t q else h.m.get z)=some k2->M2 (h.m.get z)=some k2:=by
   intro z O;split at O
   .cases O
   .split at O
    .rename_i _ hzb;subst hzb;rw[X]at O;rw[ho];exact O
    .exact O
  exact hi.Gt x y k2 h1 d (tr x g) (tr y I)
 .intro x u r k2 st m h1 d g;rw[s x h1]at d;split at d
  .cases d
  .split at d
   .exact absurd d (T _ _ _ _)
   .obtain⟨g1,m2,g2⟩:=hi.N3 x k2 h1 (by rw[d];rfl);rw[s k2 (by have:=hi.top;omega)]at g
    split at g
    .rename_i hq;subst hq;cases g;have:=hi.Tx x u r k2 st n h1 d S3;omega
    .split at g
     .cases g
     .exact hi.Tx x u r k2 st m h1 d g
 .intro x y u r k2 st l3 t3 h1 d g I;rw[s x h1]at g;rw[s y d]at I;split at g
  .cases g
  .split at g
   .exact absurd g (T _ _ _ _)
   .split at I
    .cases I
    .split at I
     .rename_i _ hyb;subst hyb;cases I;have:k2=k:=by have:=X;simp[M2]at this;exact this
      subst this;rw[S4];exact hi.len x _ u r _ st o _ h1 d g ho
     .exact hi.len x y u r k2 st l3 t3 h1 d g I
 .intro x D h1 d;rw[h1]at d;cases d
 .exact⟨R.inj,λx D e=>by rw[Mr];exact R.rng x D e,R.low⟩
 .rw[Mr];exact Ye _
 .intro c h1 d;rw[Da,X2];rintro ⟨rfl,_⟩;exact d b (by simp) p U rfl
 .intro x D h1 d;rw[h1]at d;cases d
 .intro x D e;have Q:=R.low x D e;rw[s x Q];by_cases M:x=k
  .rw[Xo M];subst M;have W:=hm _ _ e;rw[S3]at W;exact W
  rw[X2 M];by_cases l:x=b
  .subst l;rw[Xo rfl];rw[U]at e;cases e;exact hr
  .rw[X2 l];have S7:∀u r k2 st,h.m.get x=.cells u r (.Cf k2 st)->h'.m.get k2=.Fb st->h.m.get k2=.Fb st:=by
    intro u r k2 st hl J;have S:k2<Bq:=by have:=(hi.N3 x k2 Q (by rw[hl];rfl)).1;have:=hi.top;omega
    rw[s k2 S]at J;split at J
    .rename_i hq;subst hq;cases J;have:=hi.Tx x u r k2 A n Q hl S3;have:A=n:=by omega
     rw[this];exact S3
    .split at J
     .cases J
     .exact J
   by_cases L:D.c=p.c
   .rcases R.inj x b D p e U L with h1|⟨h1,d⟩
    .exact absurd h1 l
    .have E:=hm x D e;cases i:h.m.get x with
     |none=>trivial
     |Fb m=>rw[i]at E;have F:D.k=none:=E;rw[h1,C]at F;cases F
     |map es=>rw[i]at E;have F:=E.1;rw[h1,C]at F;cases F
     |loop a1 a2 a3 a4 a5 a6=>rw[i]at E;have F:=E.1;rw[h1,C]at F;cases F
     |dfr tk=>rw[i]at E;have F:=E.1;rw[h1,C]at F;cases F
     |cells u r k2=>
      rw[i]at E;have S:Ahd k2=some k:=by rw[<- E.1,h1,C]
      cases k2 with
      |exact=>cases S
      |Gt kx=>cases S;exact absurd (hi.Gt x b k Q Y (by rw[i];rfl) (by rw[ho];rfl)) l
      |fz kx=>cases S;exact absurd (hi.Gt x b k Q Y (by rw[i];rfl) (by rw[ho];rfl)) l
      |Cf kx st=>
       cases S;rcases hkk with⟨_,rfl⟩|⟨_,rfl,hfz⟩
       .refine⟨E.1,λJ=>?_⟩;have V:h'.m.get k=.Fb st:=J;rw[s k K,Xo rfl]at V;cases V;have:=hi.Tx x u r k (n+1) n Q i S3;omega
       .have:=hfz x D e L l u r st i;rw[i]at this;exact Gr.congr (Qq.refl σ) rfl (λa1 a2 a3 a4 e5 e6=>S7 a1 a2 a3 a4 (by rw[i];exact e5) e6) this
   .refine Gr.congr (Qq.refl σ) (by rw[Da,X2 (λhh=>L hh.1)]) (λa1 a2 a3 a4 e5 e6=>S7 a1 a2 a3 a4 e5 e6) (hm x D e)
def Agp{b off:Nat}{d:List Value}(J:h.wr b off o=.ok h')(hi:Om h)(D:SOk σ w)(r:V1 G σ h.m.get w)(q:σ b=some p)(z:Bk σ o d)
 (AdM:∀u∈d,u.oneCell'=true):
 ∃w',(storeCells ⟨p.c,off,none⟩ d).run P w=.ok () w'/\Out G σ h w σ h' w':=by
 have M:=z.1;rcases AiL J with⟨c,t,F,A,l,rfl⟩|⟨c,t,k,n,F,A,I,l,rfl⟩
 .have i:=r b p q;rw[A]at i;obtain⟨arr,lo,g,h1,x,K,y,B,s⟩:=i.2 trivial;obtain⟨g1,_⟩:=Ns l;have C:=B rfl;have e:off+d.length<=arr.size:=by omega
  refine⟨_,Nl P p.c off t lo g d 0 arr w h1 (by simpa using e) (λj E L=>s trivial j om) AdM,?_⟩;refine Hh hi D r q A (by simp) (by simp) rfl rfl i.1 (by simp) ?_;refine⟨i.1,λ_=>⟨J9 arr (off+0) d,lo,g,?_,?_,?_,?_,?_,?_⟩⟩;. rw[Da,Xo ⟨rfl,Dj h1⟩]
  .rw[O2 (by simpa using e)];exact x
  .simp_all;omega
  .simp only[Vw];exact AhV l om z y
  .grind
  .exact s
 .have i:=r b p q;rw[A]at i;obtain⟨arr,lo,g,h1,x,K,y,B,s⟩:=i.2 trivial;obtain⟨g1,_⟩:=Ns l;have e:off+d.length<=arr.size:=by omega
  refine⟨_,Nl P p.c off t lo g d 0 arr w h1 (by simpa using e) (λj E L=>s trivial j om) AdM,?_⟩;refine Ys hi D r q A I (.inl ⟨rfl,rfl⟩) (Mi l) ?_;refine⟨i.1,λ_=>⟨J9 arr (off+0) d,lo,g,?_,?_,?_,?_,?_,?_⟩⟩;. rw[Da,Xo ⟨rfl,Dj h1⟩]
  .rw[O2 (by simpa using e)];exact x
  .grind
  .simp only[Vw];exact AhV l om z y
  simp_all;omega
def Gu(σ:Dx)(b:Nat)(e:SE):Dx:=λx=>if x=b then some e else σ x
def Ip{b}{e}(g:σ b=none):Qq σ (Gu σ b e):=by intro x d c;unfold Gu;grind
def Lq w o j(hj:j<w.heap.size):(Dd w o).heap[j]?=w.heap[j]?:=by show(w.heap.push o)[j]?=_;grind
def F1 w o:(Dd w o).heap[w.heap.size]?=some o:=by show(w.heap.push o)[w.heap.size]?=_;simp
def size_push w o:(Dd w o).heap.size=w.heap.size+1:=by show(w.heap.push o).size=_;simp
def SOk.push{b}{e}(g:SOk σ w) ob(k:b<Bq)(j:e.c=w.heap.size):SOk (Gu σ b e) (Dd w ob):=by
 refine⟨?_,?_,?_⟩
 .intro x y e1 l h1 d i;unfold Gu at h1 d;split at h1
  .cases h1;split at d;. grind
   .have:=g.rng y _ d;omega
  .split at d;. cases d;have:=g.rng x _ h1;omega
   .exact g.inj x y _ _ h1 d i
 .intro x e1 h1;rw[size_push];unfold Gu at h1;split at h1;. grind
  .have:=g.rng x _ h1;omega
 .intro x e1 h1;unfold Gu at h1;split at h1;. omega
  .exact g.low x _ h1
def Yf(hi:Om h)(o:SOk σ w)(O:V1 G σ h.m.get w)(B:h.nx<Bq)(F:σ h.nx=none)(hc:Ej C=none)(Q:p.c=w.heap.size)
 (hr:Gr G (Gu σ h.nx p) (h.new C).m.get p (Dd w I) C):Out G σ h w (Gu σ h.nx p) (h.new C) (Dd w I):=by
 have i:=λj hj=>Ni h C B j hj;have q:M2 C=none:=by cases C with
  |cells l t k=>cases k<;>first|rfl|(cases hc;done)
  |_=>rfl
 have J:∀l t k st,C≠.cells l t (.Cf k st):=by rintro l t k st rfl;cases hc
 have M:(h.new C).nx=h.nx+1:=rfl;have D:∀x k,x<Bq->Ej (h.m.get x)=some k->k<h.nx/\k≠h.nx/\k<Bq:=by intro x k h1 d;have:=(hi.N3 x k h1 d).1;omega
 refine⟨[],⟨rfl,by omega,λb u=>(by cases u),?_,λb u=>(by cases u),?_,?_,⟨by omega,?_,?_,?_,?_,?_⟩,λb u=>(by cases u)⟩,⟨Ip F,?_,o.push I B Q,?_,?_,?_,⟨rfl,rfl⟩⟩,?_⟩;. intro x h1 d _;rw[i x h1,X2 om]
 .grind
 .intro x k h1 d g;rw[i x d,X2 om]at g;exact g
 .intro x h1 d;rw[i x d,X2 om];exact hi.Rm x om d
 .intro x k h1 d;rw[i x h1]at d;split at d;. rw[hc]at d;cases d
  .obtain⟨g,n,z⟩:=hi.N3 x k h1 d;grind
 .intro x y k h1 d g z;rw[i x h1]at g;rw[i y d]at z;split at g;. rw[q]at g;cases g
  .split at z;. rw[q]at z;cases z
   .exact hi.Gt x y k h1 d g z
 .intro x l t k st n h1 d g;rw[i x h1]at d;split at d;. exact absurd d (J _ _ _ _)
  .have:=D x k h1 (by rw[d];rfl);rw[i k this.2.2,X2 this.2.1]at g;exact hi.Tx x l t k st n h1 d g
 .intro x y l t k st R K h1 d g z;rw[i x h1]at g;rw[i y d]at z;split at g;. exact absurd g (J _ _ _ _)
  .split at z;. rw[z]at q;cases q
   .exact hi.len x y l t k st R K h1 d g z
 .intro x A h1 d;unfold Gu at d;split at d;. omega
  .rw[h1]at d;cases d
 .rw[size_push];omega
 .intro c h1 _;exact Lq w I c h1
 .intro x A h1 d;unfold Gu at d;split at d;. cases d;left;omega
  .rw[h1]at d;cases d
 .intro x A s;unfold Gu at s;split at s;. rename_i r;cases s;subst r;rw[i _ B,Xo rfl];exact hr
  .rename_i r;have E:=o.low x A s;rw[i x E,X2 r];refine Gr.congr (Ip F) (Lq w I _ (o.rng x A s)) ?_ (O x A s);intro l t k st L e;have:=D x k E (by rw[L];rfl);rw[i k this.2.2,X2 this.2.1]at e;exact e
def Bk.Zm{cs}{D7:Array _}(hc:Bk σ cs D7.toList):∀(i:Nat) x y,cs[i]?=some x->D7[i]?=some y->Au σ x y:=
 λi x y b c=>hc.2 i x y b (by grind)
def Tc{cs}{D7}{t}(hi:Om h)(j:SOk σ w)(d:V1 G σ h.m.get w)(e:h.nx<Bq)(b:σ h.nx=none)(hc:Bk σ cs D7.toList):
 Out G σ h w (Gu σ h.nx ⟨w.heap.size,cs.length,none⟩) (h.new (cz cs t)) (Dd w (.cells D7 t)):=by
 have c:cs.length=D7.size:=by rw[hc.1];rfl
 refine Yf hi j d e b rfl rfl ⟨rfl,λ_=>⟨_,0,0,F1 w _,by grind,Ye _,λi x y k g=>(hc.Zm i x y k g).mono (Ip b),λ_=>rfl,λ_ i _=>by simp⟩⟩
variable {w':World}
def Ae4{cs:uw}{t:TypeId}{arr:Array Value}{fz:Nat × Nat}(hi:Om h)(K:SOk σ w)(W:V1 G σ h.m.get w)(J:h.nx+1<Bq)(E:σ h.nx=none)(I:σ (h.nx+1)=none)
 (hle:cs.length<=arr.size) (hr:∀(i:Nat) (x:AV) (y:Value),cs[i]?=some x->arr[i]?=some y->Au σ x y) (hfz:∀i,i<arr.size->¬ (fz.1<=i/\i<fz.2)):
 Out G σ h w (Gu σ (h.nx+1) ⟨w.heap.size,arr.size,some h.nx⟩) ((h.new (.Fb 0)).new (.cells cs t (.Gt h.nx))) (Dd w (.cells arr t fz)):=by
 have o:∀j,j<Bq->((h.new (.Fb 0)).new (.cells cs t (.Gt h.nx))).m.get j=if j=h.nx+1 then .cells cs t (.Gt h.nx)else if j=h.nx then .Fb 0 else h.m.get j:=by intro j hj;rw[Ni _ _ (show(h.new (.Fb 0)).nx<Bq from J) j hj,Ni _ _ om j hj];rfl
 generalize D:(h.new (.Fb 0)).new (.cells cs t (.Gt h.nx))=h' at *;have T:h'.nx=h.nx+2:=by rw[<- D];rfl
 have F:h'.lg=[]++h.lg:=by rw[<- D];rfl
 have L:∀x k,x<Bq->Ej (h.m.get x)=some k->k<h.nx:=λx k h1 d=>(hi.N3 x k h1 d).1;have u:∀x l t k st,x<Bq->h.m.get x=.cells l t (.Cf k st)->k<h.nx:=λx l t k st h1 d=>L x k h1 (by rw[d];rfl);refine⟨[],⟨F,by omega,λb B=>(by cases B),?_,λb B=>(by cases B),?_,?_,⟨by omega,?_,?_,?_,?_,?_⟩,λb B=>(by cases B)⟩,⟨Ip I,?_,K.push _ J rfl,?_,?_,?_,⟨rfl,rfl⟩⟩,?_⟩;. intro x h1 d _;rw[o x h1,X2 om,X2 om]
 .intro x k h1 d g e;rw[o x g]at e;split at e;. cases e;exact .inr (Ye _)
  .split at e;. cases e
   .omega
 .intro x k h1 d g;rw[o x d,X2 om,X2 om]at g;exact g
 .intro x h1 d;rw[o x d,X2 om,X2 om];exact hi.Rm x om d
 .intro x k h1 d;rw[o x h1]at d;split at d;. cases d;exact⟨by omega,0,by rw[o _ om,X2 om,Xo rfl]⟩
  .split at d;. cases d
   .obtain⟨g,n,e⟩:=hi.N3 x k h1 d;refine⟨by omega,n,?_⟩;rw[o k om,X2 om,X2 om];exact e
 .intro x y k h1 d g e;rw[o x h1]at g;rw[o y d]at e;have Cf:∀z,z<Bq->M2 (h.m.get z)=some k->k<h.nx:=by intro z S q;refine L z k S ?_;cases hq:h.m.get z with
   |cells s r k2=>rw[hq]at q;cases k2<;>cases q<;>rfl
   |_=>rw[hq]at q;cases q
  split at g
  .cases g;split at e;. omega
   .split at e;. cases e
    .have:=Cf y d e;omega
  .split at g;. cases g
   .split at e;. cases e;have:=Cf x h1 g;omega
    .split at e;. cases e
     .exact hi.Gt x y k h1 d g e
 .intro x s r k st n h1 d g;rw[o x h1]at d;split at d;. cases d
  .split at d;. cases d
   .have:=u x s r k st h1 d;rw[o k om,X2 om,X2 om]at g;exact hi.Tx x s r k st n h1 d g
 .intro x y s r k st R t3 h1 d g e;rw[o x h1]at g;rw[o y d]at e;split at g;. cases g
  .split at g;. cases g
   .have:=u x s r k st h1 g;split at e;. cases e;omega
    .split at e;. cases e
     .exact hi.len x y s r k st R t3 h1 d g e
 .intro x C h1 d;unfold Gu at d;split at d;. omega
  .rw[h1]at d;cases d
 .rw[size_push];omega
 .intro c h1 _;exact Lq w _ c h1
 .intro x C h1 d;unfold Gu at d;split at d;. cases d;left;exact Ye _
  .rw[h1]at d;cases d
 .intro x C p;unfold Gu at p;split at p;. rename_i A;cases p;subst A;rw[o _ J,Xo rfl];exact⟨rfl,λ_=>⟨arr,fz.1,fz.2,F1 w _,rfl,hle,λi x y p U=>(hr i x y p U).mono (Ip I),λV=>(by cases V),λ_ i X=>hfz i X⟩⟩
  .rename_i A;have M:=K.low x C p;rw[o x M,X2 A];split;. rename_i Y;rw[Y,E]at p;cases p
   .refine Gr.congr (Ip I) (Lq w _ _ (K.rng x C p)) ?_ (W x C p);intro s r k st Q O;have:=u x s r k st M Q;rw[o k om,X2 om,X2 om]at O;exact O
def AiI{b k st:Nat}{Q:SE}{cs:uw}{t:TypeId}(hi:Om h)(hs:SOk σ w)(hm:V1 G σ h.m.get w)(T:σ b=some p)(B:h.m.get b=.cells o t (.Gt k))(X:h.m.get k=.Fb st)
 (hl:h.nx<Bq) (hf:σ h.nx=none) (X3:o.length<=cs.length) (Bem:Q.k=some k) (hs':SOk (Gu σ h.nx Q) w') (Ae9:w.heap.size<=w'.heap.size) (hio:w'.os=w.os/\w'.output=w.output)
 (Aqv:∀j,j<w.heap.size->j≠p.c->w'.heap[j]?=w.heap[j]?) (AyM:w.heap.size<=Q.c\/Q.c=p.c)
 (hold:∃(arr I:Array Value) (fz:Nat × Nat),w.heap[p.c]?=some (.cells arr t fz)/\w'.heap[p.c]?=some (.cells I t fz)/\I.size=arr.size/\∀i,i<o.length->I[i]?=arr[i]?)
 (Na:Gr G (Gu σ h.nx Q) (((h.put b (.cells o t (.Cf k st))).put k (.Fb st)).new (.cells cs t (.Gt k))).m.get Q w' (.cells cs t (.Gt k))):
 Out G σ h w (Gu σ h.nx Q) (((h.put b (.cells o t (.Cf k st))).put k (.Fb st)).new (.cells cs t (.Gt k))) w':=by
 have O:=hs.low b p T;have hbn:=Ab7 hi O (by rw[B];simp);obtain⟨A3T,_⟩:=hi.N3 b k O (by rw[B];rfl);have hkl:k<Bq:=by omega
 have hkb:k≠b:=by rintro rfl;rw[B]at X;cases X
 have J:p.k=some k:=by have:=hm b p T;rw[B]at this;exact this.1
 have F:∀j,j<Bq->(((h.put b (.cells o t (.Cf k st))).put k (.Fb st)).new (.cells cs t (.Gt k))).m.get j=if j=h.nx then .cells cs t (.Gt k)else if j=b then .cells o t (.Cf k st)else h.m.get j:=by
  intro j hj;rw[Ni _ _ (show((h.put b (.cells o t (.Cf k st))).put k (.Fb st)).nx<Bq from hl) j hj,Ph _ _ _ hkl j hj,Ph _ _ _ O j hj]
  show(if j=h.nx then _ else _)=_;by_cases hjk:j=k
  .subst hjk;rw[X2 om,Xo rfl,X2 om,X2 hkb,X]
  .rw[X2 hjk]
 generalize hh':(((h.put b (.cells o t (.Cf k st))).put k (.Fb st)).new (.cells cs t (.Gt k)))=h' at *
 have hnx:h'.nx=h.nx+1:=by rw[<- hh'];rfl
 have hlg:h'.lg=[k,b]++h.lg:=by rw[<- hh'];rfl
 have hct:∀x l t k st,x<Bq->h.m.get x=.cells l t (.Cf k st)->k<h.nx:=λx l t k st h1 d=>(hi.N3 x k h1 (by rw[d];rfl)).1;have K:∀j,j<h.nx->j≠b->h'.m.get j=h.m.get j:=by intro j h1 d;rw[F j om,X2 om,X2 d]
 have A3O:h'.m.get k=.Fb st:=by rw[K k A3T hkb];exact X
 have W:∀k2 n,h.m.get k2=.Fb n->k2≠b:=by rintro k2 n h1 rfl;rw[B]at h1;cases h1
 refine⟨[k,b],⟨hlg,by omega,?_,?_,?_,?_,?_,⟨by omega,?_,?_,?_,?_,?_⟩,λx e _ _=>by simp at e;rcases e with rfl|rfl;(rw[X];simp);(rw[B];simp)⟩,⟨Ip hf,?_,hs',Ae9,?_,?_,hio⟩,?_⟩
 .intro x e;simp at e;rcases e with rfl|rfl<;>omega
 .intro x h1 d g;simp at g;exact K x d g.2
 .intro x e k2 h1 d;simp at e;rcases e with rfl|rfl
  .rw[X]at d;cases d
  .rw[B]at d;cases d;simp
 .intro x k2 h1 d g D;have:x=h.nx:=by omega
  subst this;rw[F _ g,Xo rfl]at D;cases D;simp
 .intro x k2 h1 d g;rw[F x d,X2 om]at g;split at g
  .rename_i C;subst C;rw[B];exact g
  .exact g
 .intro x h1 d;rw[F x d,X2 om,X2 om];exact hi.Rm x om d
 .intro x k2 h1 d;rw[F x h1]at d;have key:k2=k\/Ej (h.m.get x)=some k2:=by
   split at d
   .cases d;exact .inl rfl
   .split at d
    .cases d;exact .inl rfl
    .exact .inr d
  rcases key with rfl|g
  .exact⟨by omega,st,A3O⟩
  .obtain⟨g1,n,g2⟩:=hi.N3 x k2 h1 g;exact⟨by omega,n,by rw[K k2 g1 (W k2 n g2)];exact g2⟩
 .intro x y k2 h1 d g D;rw[F x h1]at g;rw[F y d]at D;have tr:∀z,z<Bq->M2 (if z=h.nx then .cells cs t (.Gt k)else if z=b then .cells o t (.Cf k st)else h.m.get z)=some k2->(z=h.nx/\k2=k)\/(z≠b/\M2 (h.m.get z)=some k2):=by
   intro z hz L;split at L
   .cases L;exact .inl ⟨by assumption,rfl⟩
   .split at L
    .cases L
    .exact .inr ⟨by assumption,L⟩
  have un:∀z,z<Bq->z≠b->M2 (h.m.get z)=some k->False:=λz hz h5 h6=>h5 (hi.Gt z b k hz O h6 (by rw[B];rfl));rcases tr x h1 g with⟨q1,R⟩|⟨q1,R⟩<;>rcases tr y d D with⟨r1,r2⟩|⟨r1,r2⟩
  .omega
  .subst R;exact(un y d r1 r2).elim
  .subst r2;exact(un x h1 q1 R).elim
  .exact hi.Gt x y k2 h1 d R r2
 .intro x s A k2 s2 n h1 d g;rw[F x h1]at d;split at d
  .cases d
  .split at d
   .cases d;rw[A3O]at g;cases g;exact Ye _
   .have q:=hct x s A k2 s2 h1 d;obtain⟨_,n0,R⟩:=hi.N3 x k2 h1 (by rw[d];rfl);rw[K k2 q (W k2 n0 R)]at g;exact hi.Tx x s A k2 s2 n h1 d g
 .intro x y s A k2 s2 l3 t3 h1 d g D;rw[F x h1]at g;rw[F y d]at D;split at D
  .cases D;split at g;. cases g
   .split at g;. cases g;exact X3
    .have:=hi.len x b s A k s2 o t h1 O g B;omega
  .split at D;. cases D
   .split at g;. cases g
    .split at g;. cases g;rename_i q _ _;exact absurd (hi.Gt y b k d O (by rw[D];rfl) (by rw[B];rfl)) q
     .exact hi.len x y s A k2 s2 l3 t3 h1 d g D
 .intro x e1 h1 d;unfold Gu at d;split at d;. omega
  .rw[h1]at d;cases d
 .intro j h1 d;exact Aqv j h1 (λE=>d b (by simp) p T E.symm)
 .intro x e1 h1 d;unfold Gu at d;split at d
  .cases d;rcases AyM with g|g;. exact .inl g
   .exact .inr ⟨b,by simp,p,T,g.symm⟩
  .rw[h1]at d;cases d
 .intro x e1 e;unfold Gu at e;split at e;. rename_i V;cases e;subst V;rw[F _ hl,Xo rfl];exact Na
  .rename_i V;have Y:=hs.low x e1 e;rw[F x Y,X2 V];obtain⟨arr,I,fz,a1,a2,a3,a4⟩:=hold;have AlJ:∀(y:SE) (s:uw) (A:TypeId) (k2:CK),y.c=p.c->s.length<=o.length->(∀q,k2≠.exact/\(A5v k2->q))->Gr G σ h.m.get y w (.cells s A k2)->(Adp h'.m.get k2->Adp h.m.get k2)->Gr G (Gu σ h.nx Q) h'.m.get y w' (.cells s A k2):=by intro y s A k2 hy hlen hkk r S7;refine⟨r.1,λhv=>?_⟩;obtain⟨ar,lo,U,c1,c2,c3,c4,c5,c6⟩:=r.2 (S7 hv);rw[hy,a1]at c1;cases c1;refine⟨I,lo,U,by rw[hy];exact a2,by omega,c3,?_,λE=>absurd E (hkk False).1,λE=>((hkk False).2 E).elim⟩;intro i u z hu hz;have B6:=(Wp.1 hu).1;rw[a4 i om]at hz;exact(c4 i u z hu hz).mono (Ip hf)
   by_cases C:x=b
   .subst C;rw[Xo rfl];rw[T]at e;cases e;have r:=hm x p T;rw[B]at r;have A8r:Gr G σ h.m.get p w (.cells o t (.Cf k st)):=by obtain⟨ar,lo,U,c1,c2,c3,c4,c5,c6⟩:=r.2 trivial;exact⟨r.1,λ_=>⟨ar,lo,U,c1,c2,c3,c4,λE=>(by cases E),λE=>E.elim⟩⟩
    exact AlJ p o t _ rfl (Ye _) (λq=>⟨by simp,λE=>E.elim⟩) A8r (λ_=>X)
   .rw[X2 C];have S7:∀s A k2 s2,h.m.get x=.cells s A (.Cf k2 s2)->h'.m.get k2=.Fb s2->h.m.get k2=.Fb s2:=by intro s A k2 s2 P4 hv;have q:=hct x s A k2 s2 Y P4;obtain⟨_,n0,R⟩:=hi.N3 x k2 Y (by rw[P4];rfl);rw[K k2 q (W k2 n0 R)]at hv;exact hv
    by_cases S:e1.c=p.c
    .rcases hs.inj x b e1 p e T S with h1|⟨h1,d⟩;. exact absurd h1 C
     .have r:=hm x e1 e;cases c:h.m.get x with
      |none=>trivial
      |Fb m=>rw[c]at r;have M:e1.k=none:=r;rw[h1,J]at M;cases M
      |map es=>rw[c]at r;have M:=r.1;rw[h1,J]at M;cases M
      |loop a1 a2 a3 a4 a5 a6=>rw[c]at r;have M:=r.1;rw[h1,J]at M;cases M
      |dfr tk=>rw[c]at r;have M:=r.1;rw[h1,J]at M;cases M
      |cells s A k2=>
       rw[c]at r;have Z0:Ahd k2=some k:=by rw[<- r.1,h1,J]
       cases k2 with
       |exact=>cases Z0
       |Gt kx=>cases Z0;exact absurd (hi.Gt x b k Y O (by rw[c];rfl) (by rw[B];rfl)) C
       |fz kx=>cases Z0;exact absurd (hi.Gt x b k Y O (by rw[c];rfl) (by rw[B];rfl)) C
       |Cf kx s2=>cases Z0;exact AlJ e1 s A _ S (hi.len x b s A k s2 o t Y O c B) (λq=>⟨by simp,λE=>E.elim⟩) r (λhv=>S7 s A k s2 c hv)
    .exact Gr.congr (Ip hf) (Aqv _ (hs.rng x e1 e) S) (λa1 a2 a3 a4 e5 e6=>S7 a1 a2 a3 a4 e5 e6) (hm x e1 e)
end Go.Ev
