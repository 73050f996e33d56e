/- A new array whose capacity is open; a new version of one. -/
import Derived.Test.YtecikbfimlolcaaGreatDoorEvA
import Derived.Laws.Sem
import Derived.Laws.Entries
import Derived.Laws.Strings
import Derived.Laws.StructEq
import Derived.ChangeKeysEq
import Derived.Laws.Cells
set_option linter.all false
noncomputable section
namespace Go.Ev
variable [Ii]
variable {P:Program} {G:Nat} {σ:Dx} {nt:Nat} {f:L2} {a:Act} {h h':H} {w:World} {v:AV} {ctx:Ac}
theorem Ec {a b} (h:Nat.blt a b=true):a<b:=by simp_all
theorem G2 {a b:Nat} (h:Nat.ble a b=true):a<=b:=by simp_all
theorem Ch {a b:Nat} (h:Nat.beq a b=true):a=b:=by simp_all
theorem Ap1 {a b} (h:Nat.blt a b=false):b<=a:=by
 have:¬ Nat.blt a b=true:=by grind
 simp_all
theorem Axo {a b:Nat} (h:Nat.ble a b=false):b<a:=by
 have:¬ Nat.ble a b=true:=by grind
 simp_all
theorem Ho {a b:Nat} (h:Nat.beq a b=false):a≠b:=by intro e;simp_all
theorem AbN σ:∀d v,Au σ (App d v) v:=by intro d;induction d with
 |zero=>intro v;exact .top v
 |succ d ih=>intro v;unfold App;split;all_goals first|exact .bool _|exact .int ..|exact .str _|exact .Ob|exact .Bv|exact .Td|exact .Iy|exact .B3|exact .I6 _ _ _ (ih _)|exact .top _|skip;refine .agg _ _ (by simp) λi x y hx hy=>?_;grind
theorem Cj (hf:Pt σ nt f a) (hg:Vm G σ) x (hx:Es G x=true):Au σ (ev x f) (a.eval x):=by cases x with
 |tmp t=>exact hf.slot t (Ec hx)
 |const v=>exact AbN _ 5 v
 |global g=>obtain ⟨e,h1,h2⟩:=hg g (Ec hx);have:=Au.ptr g 0 e h1;rw [h2] at this;exact this
 |func g=>exact .fn _ _ _ _ _ λl=>by simp rfl λi x y hx _=>by grind rfl λi x y hx _=>by grind
theorem Abw (hf:Pt σ nt f a) (hg:Vm G σ) l (hl:l.all (Es G)=true):Bk σ (W1 l f) (l.map a.eval):=by induction l with
 |nil=>exact Bk.nil _
 |cons x l ih=>simp only [List.all_cons,Bool.and_eq_true] at hl;exact .cons (Cj hf hg x hl.1) (ih hl.2)
theorem Adn {x} {b} (h:vB x=.yes b):x=.bool b:=by cases x<;>cases h;rfl
theorem P1 {x} {k} {n} (h:vI x=.yes k n):x=.int k n:=by cases x<;>cases h;rfl
theorem Rj {x} {s} (h:vS x=.yes s):x=.str s:=by cases x<;>cases h;rfl
theorem P2 {x} {b o} (h:vP x=.yes b o):x=.ptr b o:=by cases x<;>cases h;rfl
theorem Wv {x} (h:vP x=.nil):x=.Ob:=by cases x<;>cases h;rfl
theorem Ri {x} {b o l c z} {e} (h:vL x=.yes b o l c z e):x=.sl b o l c z e:=by cases x<;>cases h;rfl
theorem Ok {x} (h:vL x=.nil):x=.Bv:=by cases x<;>cases h;rfl
theorem P0 {x} {cs} (h:vA x=.yes cs):x=.agg cs:=by cases x<;>cases h;rfl
theorem Aar {x} {cs} (h:vT x=.yes cs):x=.Bj cs:=by cases x<;>cases h;rfl
theorem Ago {x} {r} (h:vM x=.yes r):x=.map r:=by cases x<;>cases h;rfl
theorem Ado {x} (h:vM x=.nil):x=.Td:=by cases x<;>cases h;rfl
theorem Aaq {x} {g} {a c} (h:vF x=.yes g a c):x=.fn g a c:=by cases x<;>cases h;rfl
theorem Pq {x} {t} {v} (h:vIf x=.yes t v):x=.I6 t v:=by cases x<;>cases h;rfl
theorem Y4 {x} (h:vIf x=.nil):x=.B3:=by cases x<;>cases h;rfl
theorem O4 {x} {y} {cs} (h:cellsOf x=some cs) (hv:Au σ x y):Bk σ cs y.cells.toList:=by cases hv with
 |top v=>cases h
 |Bj cs D7 hl hh=>cases h
 |agg cs D7 hl hh=>cases h;exact ⟨hl,hh⟩
 |_=>cases h;exact .cons (by constructor<;>assumption) (.nil _)
theorem Arz {x} {y} (h:Ge x=true) (hv:Au σ x y):y.oneCell'=true:=by cases hv<;>first|rfl|cases h
def Ran (P:Program) (s:Sem Next) (w:World) (v':Value) (w':World):Prop:=
 s.run P w=.ok (.value v') w'\/(s.run P w=.ok .skip w'/\v'=undef)
def Dd (w:World) (o:Obj):World:={ w with heap:=w.heap.push o }
inductive Ag4 (σ:Dx) (h:H) (w:World):AV->Value->H->World->Prop where
 |quiet (v:AV) (v':Value) (hv:Au σ v v'):Ag4 σ h w v v' h w
 |ptr (cs:List AV) (D7:Array Value) (t:TypeId) (hc:Bk σ cs D7.toList):
  Ag4 σ h w (.ptr h.nx 0) (.pointer (some ⟨w.heap.size,0,none⟩)) (h.new (.cells cs t .exact)) (Dd w (.cells D7 t))
 |sl (cs:List AV) (D7:Array Value) (t:TypeId) (len cap sz:Nat) (hle:len<=cap) (hc:Bk σ cs D7.toList):
  Ag4 σ h w (.sl h.nx 0 len cap sz true) (.slice (some ⟨w.heap.size,0,none⟩) len cap) (h.new (.cells cs t .exact)) (Dd w (.cells D7 t))
def Hm (P:Program) (G:Nat) (o:Oper):Prop:=∀(σ:Dx) (nt:Nat) (f:L2) (a:Act) (h h':H) (w:World) (v:AV) (ctx:Ac),
 opD o.op o.type P ctx f h=.ok v h'->o.op.operands.toList.all (Es G)=true->Pt σ nt f a->Vm G σ ->
 ∃v' w',Ran P (execOp a.eval o) w v' w'/\Ag4 σ h w v v' h' w'
section ops
variable {dst:Option Tmp} {ty:TypeId} {pos:String} {af:Array Edge} {gd:Option (Nat × Bool)}
theorem B4 {v v'} {h h'} (e:OR.ok v h=.ok v' h'):v=v'/\h=h':=by grind
theorem Ae1 x:Hm P G ⟨dst,.move x,ty,pos,af,gd⟩:=by intro σ nt f a h h' w v ctx he De hf hg;obtain ⟨rfl,rfl⟩:=B4 he;exact ⟨_,w,.inl rfl,.quiet _ _ (Cj hf hg x (by simpa [Op.operands] using De))⟩
theorem AaD x:Hm P G ⟨dst,.assign x,ty,pos,af,gd⟩:=by intro σ nt f a h h' w v ctx he De hf hg;obtain ⟨rfl,rfl⟩:=B4 he;exact ⟨_,w,.inl rfl,.quiet _ _ (Cj hf hg x (by simpa [Op.operands] using De))⟩
theorem ArE {x y z} {h} (he:Bo x y z h=.ok v h'):∃b,x=.bool b/\v=(if b then y else z)/\h'=h:=by cases x<;>first|(cases he)|skip;rename_i b;cases b<;>cases he<;>exact ⟨_,rfl,rfl,rfl⟩
theorem Ae2 c x y:Hm P G ⟨dst,.pick c x y,ty,pos,af,gd⟩:=by
 intro σ nt f a h h' w v ctx he De hf hg;simp [Op.operands] at De;obtain ⟨b,hb,rfl,rfl⟩:=ArE he;have hc:=Cj hf hg c De.1;rw [hb] at hc;generalize hcv:a.eval c=cv at hc;cases hc;refine ⟨if b then a.eval x else a.eval y,w,.inl (by simp [execOp,hcv,asBool]),.quiet _ _ ?_⟩;cases b;. exact Cj hf hg y De.2.2
 . exact Cj hf hg x De.2.1
theorem Kn {t} {cs} σ (h:I1 P t=some cs):∃i z,P.info? t=some i/\i.zero=some z/\Bk σ cs z.cells.toList:=by unfold I1 Ps at h;cases hi:P.info? t with
 |none=>grind
 |some i=>cases hz:i.zero with
  |none=>grind
  |some z=>simp [hi,hz] at h;exact ⟨i,z,rfl,hz,O4 h (AbN _ 5 z)⟩
theorem AlX {cs} {e} (he:AdR cs e h=.ok v h'):∃c,cs=some c/\v=.ptr h.nx 0/\h'=h.new (.cells c e .exact):=by cases cs<;>cases he;simp
theorem Acn e:Hm P G ⟨dst,.alloc e,ty,pos,af,gd⟩:=by intro σ nt f a h h' w v ctx he De hf hg;obtain ⟨c,hc,rfl,rfl⟩:=AlX he;obtain ⟨i,z,hi,hz,hr⟩:=Kn _ hc;refine ⟨_,_,.inl ?_,.ptr c _ e hr⟩;simp [execOp,Instr.alloc,zeroValue,typeInfo,hi,hz,newVar,newRow,Dd]
theorem Ah4 e x:Hm P G ⟨dst,.box e x,ty,pos,af,gd⟩:=by intro σ nt f a h h' w v ctx he De hf hg;obtain ⟨c,hc,rfl,rfl⟩:=AlX he;have hr:=O4 hc (Cj hf hg x (by simpa [Op.operands] using De));refine ⟨_,_,.inl ?_,.ptr c _ e hr⟩;rfl
theorem AbA {x} (he:Py x h=.ok v h'):x=some v/\h'=h:=by cases x<;>cases he;simp
theorem Aaj {x} (he:Ly x h=.ok v h'):∃cs,x=some cs/\v=.agg cs/\h'=h:=by cases x<;>cases he;simp
theorem Bl {c:Bool} {x y:OR} {r:OR} (he:Bool.rec (motive:=λ_=>OR) y x c=r):(c=true/\x=r)\/(c=false/\y=r):=by
 cases c
 . exact .inr ⟨rfl,he⟩
 . exact .inl ⟨rfl,he⟩
theorem N0 {n} (he:OR.bad n=.ok v h'):False:=by grind
theorem Vq x:Hm P G ⟨dst,.nilCheck x,ty,pos,af,gd⟩:=by
 intro σ nt f a h h' w v ctx he De hf hg;have hx:=Cj hf hg x (by simpa [Op.operands] using De);rcases Bl he with ⟨hn,he⟩|⟨_,he⟩;. obtain ⟨rfl,rfl⟩:=B4 he;refine ⟨_,w,.inl ?_,.quiet _ _ hx⟩;simp [execOp];generalize ev x f=u at *;generalize a.eval x=y at *;cases hx with
   |fn g as cs as' D7 hf' _ _ _ _=>cases g<;>first|rfl|(cases hn)
   |_=>first|rfl|(cases hn)
 grind
theorem Xz x i:Hm P G ⟨dst,.extract x i,ty,pos,af,gd⟩:=by
 intro σ nt f a h h' w v ctx he De hf hg;have hx:=Cj hf hg x (by simpa [Op.operands] using De);have Ak:L9 _ i h=.ok v _:=he;generalize ev x f=u at *;generalize hy:a.eval x=y at *;cases hx<;>first|(cases Ak)|skip;rename_i cs D7 hl hh;obtain ⟨h1,rfl⟩:=AbA (show Py _ h=.ok v _ from Ak);rw [Ab6] at h1;obtain ⟨y,hy',hr⟩:=Bk.get ⟨hl,hh⟩ h1;refine ⟨y,w,.inl ?_,.quiet _ _ hr⟩;have:D7[i]?=some y:=by grind
 simp [execOp,hy,Instr.extract,this]
theorem Sv (t:TypeId) (x:Operand):Hm P G ⟨dst,.makeInterface t x,ty,pos,af,gd⟩:=by
 intro σ nt f a h h' w v ctx he De hf hg;have hx:=Cj hf hg x (by simpa [Op.operands] using De);rcases Bl he with ⟨hn,he⟩|⟨_,he⟩;. obtain ⟨rfl,rfl⟩:=B4 he;refine ⟨_,w,.inl ?_,.quiet _ _ (.I6 t _ _ hx)⟩;unfold Arb at hn;cases hu:P.underlying t with
   |none=>simp_all
   |some d=>rw [hu] at hn;cases d<;>first|grind|simp [execOp,Instr.makeInterface,underlying,hu]
 grind
theorem Vp (fn:Fn) (x y:Array Operand):Hm P G ⟨dst,.makeFunc fn x y,ty,pos,af,gd⟩:=by
 intro σ nt f a h h' w v ctx he De hf hg;simp only [Op.operands,Array.toList_append,List.all_append,Bool.and_eq_true] at De;have hx:=Abw hf hg x.toList De.1;have hy:=Abw hf hg y.toList De.2;have key:(∀l,fn≠.yield l)/\v=.fn fn (W1 x.toList f) (W1 y.toList f)/\h=h':=by have Ak:Jt fn x y ty P ctx f h=.ok v h':=he;unfold Jt at Ak;grind
 obtain ⟨hk,rfl,rfl⟩:=key;refine ⟨.func fn (x.map a.eval) (y.map a.eval),w,.inl (by rfl),.quiet _ _ (.fn fn _ _ _ _ hk ?_ ?_ ?_ ?_)⟩;. simpa using hx.1
 . intro i u v hu hv;exact hx.2 i u v hu (by grind)
 . simpa using hy.1
 . intro i u v hu hv;exact hy.2 i u v hu (by grind)
theorem F3 {t} {n} (h:F7 P t=some n):∃i,P.info? t=some i/\i.size=n:=by unfold F7 at h;simp_all
theorem Xv {t u} {i o} (h:Xu P t i=some (u,o)):∃fs fd,P.underlying t=some (.struct fs)/\fs[i]?=some fd/\fd.type=u/\fd.offset=o:=by unfold Xu at h;grind
theorem Ahw {t} {i o} (h:Wa P t i=some o):∃fs fd inf,P.underlying t=some (.struct fs)/\fs[i]?=some fd/\P.info? fd.type=some inf/\inf.size≠0/\fd.offset=o:=by
 unfold Wa at h;split at h
 . rename_i u o' hf;split at h;. rename_i n hs;obtain ⟨fs,fd,h1,h2,h3,h4⟩:=Xv hf;obtain ⟨inf,h5,h6⟩:=F3 hs;simp_all
   grind
 grind
theorem G1 c off n:(⟨c,off,none⟩:Addr).add n=⟨c,off+n,none⟩:=by unfold Addr.add;simp
theorem Ss t x i:Hm P G ⟨dst,.fieldAddr t x i,ty,pos,af,gd⟩:=by intro σ nt f a h h' w v ctx he De hf hg;have hx:=Cj hf hg x (by simpa [Op.operands] using De);have Ak:Option.rec (motive:=λ_=>AV->H->OR) _ _ _ _ h=.ok v _:=he;cases ho:Wa P t i with
 |none=>simp_all
 |some d=>rw [ho] at Ak;obtain ⟨fs,fd,inf,h1,h2,h3,h4,rfl⟩:=Ahw ho;have Cs:=Ak;generalize ev x f=u at *;generalize hy:a.eval x=y at *;cases hx<;>first|(cases Cs;done)|skip;rename_i b off e hs;cases Cs;refine ⟨_,w,.inl ?_,.quiet _ _ (.ptr b _ e hs)⟩;simp [execOp,hy,Instr.fieldAt,underlying,h1,h2,Instr.sureAddr,fieldPlace,sizeOf,typeInfo,h3,h4,G1]
theorem Akc {t} (h:Ft P t=some none):∃d i,P.underlying t=some d/\P.info? t=some i/\(∀fs,d≠.struct fs)/\∀n e,d≠.array n e:=by unfold Ft at h;grind
theorem AhO {t} {n} (h:Ft P t=some (some n)):∃d i,P.underlying t=some d/\P.info? t=some i/\i.size=n/\((∃fs,d=.struct fs)\/∃k e,d=.array k e):=by unfold Ft at h;grind
theorem Vv {t} (h:Ft P t=some none) w:(isAgg t).run P w=.ok false w:=by obtain ⟨d,i,hu,hi,h1,h2⟩:=Akc h;simp only [isAgg,Sem.run_bind,run_underlying hu,Result.andThen_ok];rfl
theorem Kj {t} {n} (h:Ft P t=some (some n)) w:(isAgg t).run P w=.ok true w/\(sizeOf t).run P w=.ok n w:=by
 obtain ⟨d,i,hu,hi,rfl,h1⟩:=AhO h;constructor;. simp [isAgg,Sem.run_bind,run_underlying hu,Result.andThen_ok];rcases h1 with ⟨fs,rfl⟩|⟨k,e,rfl⟩<;>rfl
 . simp [sizeOf,typeInfo,hi]
theorem Mp {t:TypeId} {cs:List AV} {off:Nat} {v:AV} {D7:Array Value} (hp:Hc P t cs off=some v) (hc:Bk σ cs D7.toList) w:
 ∃v',(part t D7 off).run P w=.ok v' w/\Au σ v v':=by
 unfold Hc Tn at hp;split at hp
 . rename_i hl;rw [Ab6] at hp;obtain ⟨y,hy,hr⟩:=hc.get hp;refine ⟨y,?_,hr⟩;have:D7[off]?=some y:=by simp_all
   simp [part,Vv hl,this]
 . rename_i n hl;cases Ik:Nf cs off n with
   |none=>grind
   |some r=>
    simp [Ik] at hp;subst hp;obtain ⟨h1,rfl,_⟩:=Js Ik;refine ⟨.agg (D7.extract off (off+n)),?_,?_⟩;. simp [part,(Kj hl w).1,(Kj hl w).2]
    . have:=(hc.drop off).take n;refine .agg _ _ ?_ ?_;. rw [this.1];simp
      . intro i x y hx hy;refine this.2 i x y hx ?_;simp_all
 grind
theorem Acq t x i:Hm P G ⟨dst,.field t x i,ty,pos,af,gd⟩:=by
 intro σ nt f a h h' w v ctx he De hf hg;have hx:=Cj hf hg x (by simpa [Op.operands] using De);have Ak:Ti t x i ty P ctx f h=.ok v _:=he;unfold Ti at Ak;split at Ak;. rename_i cs inf o hva hfp;obtain ⟨h1,rfl⟩:=AbA Ak;rw [P0 hva] at hx;generalize hy:a.eval x=y at *;cases hx;rename_i D7 hl hh;unfold Al4 at hfp;cases hfi:Xu P t i with
   |none=>simp_all
   |some p=>obtain ⟨u,o'⟩:=p;simp [hfi] at hfp;obtain ⟨rfl,rfl⟩:=hfp;obtain ⟨fs,fd,k1,k2,rfl,rfl⟩:=Xv hfi;obtain ⟨v',hr,hv⟩:=Mp h1 ⟨hl,hh⟩ w;refine ⟨_,w,.inl ?_,.quiet _ _ hv⟩;simp [execOp,hy,Instr.field,underlying,k1,k2,asAgg,hr]
 grind
theorem Us {x} {n} (h:Vg x=some n):∃k,x=.int k (.ofNat n):=by cases x<;>first|(cases h)|skip;rename_i k m;cases m<;>cases h;simp
theorem Qb {m} {n} (h:Akn m=some n):m=.ofNat n:=by cases m<;>cases h;rfl
theorem AiO {t} {i} (h:Hp P t=.sl i):∃inf,P.underlying t=some (.slice i.e)/\P.info? i.e=some inf/\inf.size=i.s/\inf.bytes=i.bytes:=by
 unfold Hp at h;split at h<;>first|simp_all
 . split at h;. rename_i e hu _ inf hi;cases hz:Nat.blt 0 inf.size with
     |false=>simp_all
     |true=>rw [hz] at h;grind
   simp_all
 grind
theorem Aox {t} {i} (h:Hp P t=.sl i):0<i.s:=by
 unfold Hp at h;split at h<;>first|simp_all|skip
 . split at h;. rename_i e hu _ inf hi;cases hz:Nat.blt 0 inf.size with
     |false=>simp_all
     |true=>rw [hz] at h;cases h;simp_all
   grind
 grind
theorem Aat {t} {n} {i} (h:Hp P t=.arr n i):∃inf,P.underlying t=some (.array n i.e)/\P.info? i.e=some inf/\inf.size=i.s/\inf.bytes=i.bytes:=by unfold Hp at h;cases hu:P.underlying t with
 |none=>simp_all
 |some d=>rw [hu] at h;cases d with
  |array k e=>grind
  |slice e=>cases hi:P.info? e with
   |none=>simp_all
   |some inf=>cases hz:Nat.blt 0 inf.size with
    |false=>simp_all
    |true=>simp_all
  |_=>cases h
theorem Afb {t} (h:Hp P t=.str):P.underlying t=some .string:=by
 unfold Hp at h;split at h<;>first|(cases h)|skip
 . grind
 . split at h;. rename_i inf _;cases hz:Nat.blt 0 inf.size with
     |false=>simp_all
     |true=>simp_all
   grind
 grind
theorem Su (t:TypeId) (x i:Operand):Hm P G ⟨dst,.indexAddr t x i,ty,pos,af,gd⟩:=by intro σ nt f a h h' w v ctx he De hf hg;simp [Op.operands] at De;have hx:=Cj hf hg x De.1;have hi:=Cj hf hg i De.2;have Ak:iaX (Hp P t) (ev x f) (Vg (ev i f)) h=.ok v h':=he;generalize hy:a.eval x=y at *;generalize hj:a.eval i=j at *;cases hn:Vg (ev i f) with
 |none=>rw [hn] at Ak;cases Gb:Hp P t<;>rw [Gb] at Ak<;>cases Ak
 |some n=>rw [hn] at Ak;obtain ⟨k,hk⟩:=Us hn;rw [hk] at hi;cases hi;generalize ev x f=u at *;cases Gb:Hp P t with
  |bad=>rw [Gb] at Ak;cases Ak
  |str=>rw [Gb] at Ak;cases Ak
  |sl si=>
   rw [Gb] at Ak;obtain ⟨inf,k1,k2,k3,k4⟩:=AiO Gb;have Cs:iaS u n si.s h=.ok v h':=Ak;cases hx<;>first|(cases Cs;done)|skip;rename_i b off len cap sz ex e cc hs g1 g2 g3 g4;rcases Bl (show Bool.rec (motive:=λ_=>OR) (.bad 88) (.ok (.ptr b (Nat.add off (Nat.mul n si.s))) h) (Nat.blt n len)=.ok v h' from Cs) with ⟨hb,Fv⟩|⟨_,Fv⟩
   . obtain ⟨rfl,rfl⟩:=B4 Fv;have B6:=Ec hb;refine ⟨.pointer (some ⟨e.c,off+n * si.s,none⟩),w,.inl ?_,.quiet _ _ (.ptr b _ e hs)⟩;have h0:(0:Int)<=Int.ofNat n:=Int.natCast_nonneg n;have h1:(Int.ofNat n)<(len:Int):=by simpa using B6
     simp [execOp,hy,hj,Instr.indexAt,asIntOf,underlying,k1,B6,sizeOf,typeInfo,k2,k3,G1]
   . exact (N0 Fv).elim
  |arr len si=>
   rw [Gb] at Ak;obtain ⟨inf,k1,k2,k3,k4⟩:=Aat Gb;have Cs:iaA u len n si.s h=.ok v h':=Ak;cases hx<;>first|(cases Cs;done)|skip;rename_i b off e hs;rcases Bl (show Bool.rec (motive:=λ_=>OR) (.bad 90) (.ok (.ptr b (Nat.add off (Nat.mul n si.s))) h) (Nat.blt n len)=.ok v h' from Cs) with ⟨hb,Fv⟩|⟨_,Fv⟩;. obtain ⟨rfl,rfl⟩:=B4 Fv;have B6:=Ec hb;refine ⟨.pointer (some ⟨e.c,off+n * si.s,none⟩),w,.inl ?_,.quiet _ _ (.ptr b _ e hs)⟩;simp [execOp,hy,hj,Instr.indexAt,asIntOf,underlying,k1,B6,sizeOf,typeInfo,k2,k3,G1,Instr.sureAddr]
   . exact (N0 Fv).elim
theorem AuQ {s} {y} (h:Au σ (.str s) y):∃bs,y=.string bs/\s=bytesOf bs:=by cases h;simp
theorem AgW s (n:Nat):(bytesOf s)[n]?=s[n]?.map UInt8.toNat:=by unfold bytesOf;simp [Array.getElem?_toList];rfl
theorem Gv s:(bytesOf s).length=s.size:=by unfold bytesOf;simp
theorem Akz {x} (he:Uv x h=.ok v h'):∃n,x=some n/\v=.int .u8 (.ofNat n)/\h'=h:=by cases x<;>cases he;simp
theorem Acr (t:TypeId) (x i:Operand):Hm P G ⟨dst,.index t x i,ty,pos,af,gd⟩:=by
 intro σ nt f a h h' w v ctx he De hf hg;simp [Op.operands] at De;have hx:=Cj hf hg x De.1;have hi:=Cj hf hg i De.2;have Ak:Tj t x i ty P ctx f h=.ok v h':=he;unfold Tj at Ak;generalize hy:a.eval x=y at *;generalize hj:a.eval i=j at *;split at Ak;. rename_i n Gb hn;obtain ⟨k,hk⟩:=Us hn;rw [hk] at hi;cases hi;generalize ev x f=u at *;cases hx<;>first|(cases Ak;done)|skip;rename_i s;obtain ⟨m,h1,rfl,rfl⟩:=Akz (show Uv (AuN (bytesOf s) n) h=.ok v h' from Ak);rw [AuO,AgW] at h1;cases hb:s[n]? with
   |none=>simp [hb] at h1
   |some b=>simp [hb] at h1;subst h1;refine ⟨.int .u8 b.toNat,w,.inl ?_,.quiet _ _ (.int .u8 _)⟩;simp [execOp,hy,hj,Instr.index,asIntOf,underlying,Afb Gb,hb]
 . rename_i len si n Gb hn;obtain ⟨k,hk⟩:=Us hn;rw [hk] at hi;cases hi;split at Ak
   . rename_i cs hva;rw [P0 hva] at hx;cases hx;rename_i D7 hl hh;obtain ⟨inf,k1,k2,k3,k4⟩:=Aat Gb;rcases Bl Ak with ⟨hb,Fv⟩|⟨_,Fv⟩;. obtain ⟨hp,rfl⟩:=AbA Fv;obtain ⟨v',hr,hv⟩:=Mp (P:=P) (σ:=σ) hp (D7:=D7) ⟨hl,hh⟩ w;have B6:=Ec hb;refine ⟨v',w,.inl ?_,.quiet _ _ hv⟩;simp [execOp,hy,hj,Instr.index,asIntOf,underlying,k1,B6,sizeOf,typeInfo,k2,k3,hr]
     . exact (N0 Fv).elim
   . exact (N0 Ak).elim
 . exact (N0 Ak).elim
theorem Ud {t} {z} σ (h:Ps P t=some z):∃i z',P.info? t=some i/\i.zero=some z'/\Au σ z z':=by unfold Ps at h;cases hi:P.info? t with
 |none=>grind
 |some i=>cases hz:i.zero with
  |none=>grind
  |some z'=>simp [hi,hz] at h;subst h;exact ⟨i,_,rfl,hz,AbN _ 5 _⟩
theorem Ass {x y} {x' y'} (h:Au σ x x') (h':Au σ y y'):Au σ (.Bj [x,y]) (.tuple #[x',y']):=by have:=Bk.cons h (Bk.cons h' (Bk.nil _));exact .Bj _ _ this.1 this.2
theorem AaX {t} {z} (h:AkI P t=some z):∃d,P.underlying t=some d/\(∀m,d≠.interface m)/\Ps P t=some z:=by unfold AkI at h;grind
theorem Rp (x:Operand) (xt t:TypeId) (ok:Bool):Hm P G ⟨dst,.typeAssert x xt t ok,ty,pos,af,gd⟩:=by
 intro σ nt f a h h' w v ctx he De hf hg
 have hx:=Cj hf hg x (by simpa [Op.operands] using De)
 have Ak:G0 x xt t ok ty P ctx f h=.ok v h':=he
 unfold G0 at Ak
 generalize hy:a.eval x=y at *
 split at Ak
 . rename_i z hz hv
   rw [Y4 hv] at hx
   cases hx
   obtain ⟨d,hu,hd,hz⟩:=AaX hz
   obtain ⟨i,z',hi,hzz,hr⟩:=Ud σ hz
   cases ok
   . exact (N0 Ak).elim
   . obtain ⟨rfl,rfl⟩:=B4 Ak
     refine ⟨_,w,.inl ?_,.quiet _ _ (Ass hr (.bool false))⟩
     cases d<;>first|(exact absurd rfl (hd _))|simp [execOp,hy,Instr.typeAssert,underlying,hu,zeroValue,typeInfo,hi,hzz]
 . rename_i z u vv hz hv
   rw [Pq hv] at hx
   cases hx
   rename_i v0 hvv
   obtain ⟨d,hu,hd,hz⟩:=AaX hz
   obtain ⟨i,z',hi,hzz,hr⟩:=Ud σ hz
   rcases Bl Ak with ⟨hb,Fv⟩|⟨hb,Fv⟩
   . obtain ⟨rfl,rfl⟩:=B4 Fv
     have:=Ch hb
     subst this
     cases ok
     . refine ⟨v0,w,.inl ?_,.quiet _ _ hvv⟩
       cases d<;>first|(exact absurd rfl (hd _))|simp [execOp,hy,Instr.typeAssert,underlying,hu]
     . refine ⟨_,w,.inl ?_,.quiet _ _ (Ass hvv (.bool true))⟩
       cases d<;>first|(exact absurd rfl (hd _))|simp [execOp,hy,Instr.typeAssert,underlying,hu]
   . have Hr:=Ho hb
     cases ok
     . exact (N0 Fv).elim
     . obtain ⟨rfl,rfl⟩:=B4 Fv
       refine ⟨_,w,.inl ?_,.quiet _ _ (Ass hr (.bool false))⟩
       cases d<;>first|(exact absurd rfl (hd _))|simp [execOp,hy,Instr.typeAssert,underlying,hu,zeroValue,typeInfo,hi,hzz,Hr]
 . exact (N0 Ak).elim
theorem Ae3 op t x:Hm P G ⟨dst,.unOp op t x,ty,pos,af,gd⟩:=by intro σ nt f a h h' w v ctx he De hf hg;have hx:=Cj hf hg x (by simpa [Op.operands] using De);have Ak:AaP _ t x ty P ctx f h=.ok v _:=he;unfold AaP at Ak;generalize hy:a.eval x=y at *;cases op with
 |not=>cases hv:vB (ev x f) with
  |no=>grind
  |yes b=>rw [hv] at Ak;rw [Adn hv] at hx;cases hx;obtain ⟨rfl,rfl⟩:=B4 Ak;refine ⟨.bool !b,w,.inl (by simp [execOp,hy,Op.unary]),.quiet _ _ ?_⟩;rw [Kb];exact .bool _
 |neg=>cases hv:vI (ev x f) with
  |no=>grind
  |yes k n=>rw [hv] at Ak;rw [P1 hv] at hx;cases hx;obtain ⟨rfl,rfl⟩:=B4 Ak;refine ⟨.int k (k.wrap (0 - n)),w,.inl (by simp [execOp,hy,Op.unary,Op.intArith]),.quiet _ _ ?_⟩;rw [Ub];exact .int ..
 |_=>grind
end ops
end Go.Ev
namespace Go.Ev
variable [Ii]
variable {P:Program} {G:Nat} {σ:Dx} {h h':H} {w:World} {v:AV}
section ops
variable {dst:Option Tmp} {ty:TypeId} {pos:String} {af:Array Edge} {gd:Option (Nat × Bool)}
theorem toNat_inj {a b:UInt8}:a.toNat=b.toNat ↔ a=b:=UInt8.toNat_inj
theorem Aul (l m:List _):(l.map UInt8.toNat == m.map UInt8.toNat)=(l == m):=by
 rw [Bool.eq_iff_iff];simp [beq_iff_eq];constructor;. intro e;induction l generalizing m with
   |nil=>simp_all
   |cons a l ih=>cases m with
    |nil=>grind
    |cons b m=>simp [List.map_cons,List.cons.injEq] at e;rw [toNat_inj.1 e.1,ih m e.2]
 grind
theorem Rg x y a b:Gn (x::a) (y::b)=(decide (x<y)||x == y&&Gn a b):=by
 have:Gn (x::a) (y::b)=Bool.rec (motive:=λ_=>Bool) _ ..:=rfl;rw [this];have e1:Nat.blt x y=decide (x<y):=by rw [Bool.eq_iff_iff];simp
 have e2:Nat.beq x y=(x == y):=by rw [Bool.eq_iff_iff];simp
 rw [e1,e2];cases decide (x<y)<;>cases x == y<;>rfl
theorem AaW:∀l m,Gn (l.map UInt8.toNat) (m.map UInt8.toNat)=Op.bytesLess l m
 |[],[]=>rfl
 |[],_::_=>rfl
 |_::_,[]=>rfl
 |a::l,b::m=>by simp [List.map_cons,Rg,Op.bytesLess,AaW l m];congr 1;congr 1;rw [Bool.eq_iff_iff];simp [beq_iff_eq];exact toNat_inj
theorem Pm:∀l m,(!Gn m l)=(Gn l m||l == m)
 |[],[]=>rfl
 |[],_::_=>rfl
 |_::_,[]=>rfl
 |x::l,y::m=>by rw [Rg,Rg,List.cons_beq_cons];have ih:=Pm l m;grind
theorem U1 a b:Qh (bytesOf a) (bytesOf b)=(a.toList == b.toList):=by rw [Qi,ByteArray.toList_eq,ByteArray.toList_eq];exact Aul ..
theorem AbC a b:Gn (bytesOf a) (bytesOf b)=Op.bytesLess a.toList b.toList:=by rw [ByteArray.toList_eq,ByteArray.toList_eq];exact AaW ..
theorem AbU a b:bytesOf (a++b)=bytesOf a++bytesOf b:=by unfold bytesOf;simp
theorem Aft op t x y k k' m n w:(eqGuard op t x y (.int k m) (.int k' n)).run P w=.ok () w:=by unfold eqGuard;simp
theorem Afu op t x y m n w:(eqGuard op t x y (.string m) (.string n)).run P w=.ok () w:=by unfold eqGuard;simp
theorem AcS (a b:Int):(!decide (a<b))=decide (b<=a):=by grind
theorem AjX {g} {k k'} {m n} (he:iAr g k m k' n h=.ok v h'):k=k'/\v=.int k (k.wrap (g m n))/\h'=h:=by
 rcases Bl he with ⟨hk,he⟩|⟨_,he⟩;. obtain ⟨rfl,rfl⟩:=B4 he;exact ⟨(Q3 k _).1 hk,by rw [Ub],rfl⟩
 grind
theorem Un {g} {k k'} {m n} (he:AjY g k m k' n h=.ok v h'):k=k'/\v=.bool (g m n)/\h'=h:=by
 rcases Bl he with ⟨hk,he⟩|⟨_,he⟩;. obtain ⟨rfl,rfl⟩:=B4 he;exact ⟨(Q3 k _).1 hk,rfl,rfl⟩
 grind
theorem AtX {k k'} {m n} (he:A4x k m k' n h=.ok v h'):k=k'/\n≠0/\v=.int k (k.wrap (m.tdiv n))/\h'=h:=by
 rcases Bl he with ⟨hk,he⟩|⟨_,he⟩
 . rcases Bl he with ⟨_,he⟩|⟨hz,he⟩;. grind
   . obtain ⟨rfl,rfl⟩:=B4 he;rw [Q1] at hz;exact ⟨(Q3 k _).1 hk,by grind,by rw [Ub],rfl⟩
 grind
theorem AtY {k k'} {m n} (he:A4y k m k' n h=.ok v h'):k=k'/\n≠0/\v=.int k (m.tmod n)/\h'=h:=by
 rcases Bl he with ⟨hk,he⟩|⟨_,he⟩
 . rcases Bl he with ⟨_,he⟩|⟨hz,he⟩;. grind
   . obtain ⟨rfl,rfl⟩:=B4 he;rw [Q1] at hz;exact ⟨(Q3 k _).1 hk,by grind,rfl,rfl⟩
 grind
theorem AfD {g} {k k'} {m n} (he:Anl g k m k' n h=.ok v h'):
 ∃a b:Nat,k=k'/\m=a/\n=b/\a<=k.max/\b<=k.max/\v=.int k (g a b)/\h'=h:=by
 unfold Anl at he;split at he
 . rename_i a b ha hb;rcases Bl he with ⟨hk,he⟩|⟨_,he⟩
   . rcases Bl he with ⟨h1,he⟩|⟨_,he⟩
     . rcases Bl he with ⟨h2,he⟩|⟨_,he⟩;. obtain ⟨rfl,rfl⟩:=B4 he;have e1:=Qb ha;have e2:=Qb hb;subst e1 e2;exact ⟨a,b,(Q3 k _).1 hk,rfl,rfl,(Zu h1).2,(Zu h2).2,rfl,rfl⟩
       grind
     grind
   grind
 . cases he
theorem max_lt (k:IntKind) (a:Nat) (h:a<=k.max):a<2 ^ k.bits:=by cases k<;>simp [IntKind.max,IntKind.bits,IntKind.signed] at *<;>omega
theorem Ju (k:IntKind) (a:Nat) (h:a<=k.max):(BitVec.ofInt k.bits a).toNat=a:=by have:=max_lt k a h;grind
theorem Adr (k:IntKind) (a:Nat) (h:a<=k.max):k.wrap a=a:=by apply Agq;refine ⟨?_,h⟩;cases k<;>simp [IntKind.min,IntKind.bits,IntKind.signed]
theorem Yr (k:IntKind) (a:Nat) (h:a<=k.max):a<2 ^ if k.signed then k.bits - 1 else k.bits:=by cases k<;>simp [IntKind.max,IntKind.bits,IntKind.signed] at *<;>omega
theorem AfN (k:IntKind) (a:Nat) (h:a<2 ^ if k.signed then k.bits - 1 else k.bits):a<=k.max:=by cases k<;>simp [IntKind.max,IntKind.bits,IntKind.signed] at *<;>omega
theorem AnX (op:BinOp) (t:TypeId) (k k':IntKind) (m n:Int) (w:World) (he:AqP op k m k' n h=.ok v h'):
 ∃v',(binOp op t (.int k m) (.int k' n)).run P w=.ok v' w/\Au σ v v'/\h'=h:=by cases op with
 |add=>obtain ⟨rfl,rfl,rfl⟩:=AjX he;exact ⟨.int k (k.wrap (m+n)),by simp [binOp,Op.intArith],.int _ _,rfl⟩
 |sub=>obtain ⟨rfl,rfl,rfl⟩:=AjX he;exact ⟨.int k (k.wrap (m - n)),by simp [binOp,Op.intArith],.int _ _,rfl⟩
 |mul=>obtain ⟨rfl,rfl,rfl⟩:=AjX he;exact ⟨.int k (k.wrap (m * n)),by simp [binOp,Op.intArith],.int _ _,rfl⟩
 |quo=>obtain ⟨rfl,hz,rfl,rfl⟩:=AtX he;exact ⟨.int k (k.wrap (m.tdiv n)),by simp [binOp,Op.intDiv,hz],.int _ _,rfl⟩
 |rem=>obtain ⟨rfl,hz,rfl,rfl⟩:=AtY he;exact ⟨.int k (m.tmod n),by simp [binOp,Op.intDiv,hz],.int _ _,rfl⟩
 |eql=>obtain ⟨rfl,rfl,rfl⟩:=Un he;exact ⟨.bool (m == n),by simp [binOp,Op.intCmp],by rw [Q1];exact .bool _,rfl⟩
 |neq=>obtain ⟨rfl,rfl,rfl⟩:=Un (g:=λa b=>Ib (ieq a b)) he;exact ⟨.bool (m != n),by simp [binOp,Op.intCmp],by rw [Kb,Q1];exact .bool _,rfl⟩
 |lss=>obtain ⟨rfl,rfl,rfl⟩:=Un he;exact ⟨.bool (decide (m<n)),by simp [binOp,Op.intCmp],by rw [Il];exact .bool _,rfl⟩
 |leq=>obtain ⟨rfl,rfl,rfl⟩:=Un (g:=λa b=>Ib (ilt b a)) he;exact ⟨.bool (decide (m<=n)),by simp [binOp,Op.intCmp],by rw [Kb,Il,AcS];exact .bool _,rfl⟩
 |gtr=>obtain ⟨rfl,rfl,rfl⟩:=Un (g:=λa b=>ilt b a) he;exact ⟨.bool (decide (m > n)),by simp [binOp,Op.intCmp],by rw [Il];exact .bool _,rfl⟩
 |geq=>obtain ⟨rfl,rfl,rfl⟩:=Un (g:=λa b=>Ib (ilt a b)) he;exact ⟨.bool (decide (m ≥ n)),by simp [binOp,Op.intCmp],by rw [Kb,Il,AcS];exact .bool _,rfl⟩
 |andNot=>cases he
 |and=>obtain ⟨a,b,rfl,rfl,rfl,ha,hb,rfl,rfl⟩:=AfD he;refine ⟨.int k (a &&& b:Nat),?_,.int _ _,rfl⟩;have hle:((a &&& b:Nat):Int)<=k.max:=AfN k _ (Nat.and_lt_two_pow _ (Yr k b hb));have e:=Adr k _ hle;simp only [binOp,Op.intBits,ne_eq,not_true_eq_false,if_false,BitVec.toNat_and,Ju k a ha,Ju k b hb,e];rfl
 |or=>obtain ⟨a,b,rfl,rfl,rfl,ha,hb,rfl,rfl⟩:=AfD he;refine ⟨.int k (a ||| b:Nat),?_,.int _ _,rfl⟩;have hle:((a ||| b:Nat):Int)<=k.max:=AfN k _ (Nat.or_lt_two_pow (Yr k a ha) (Yr k b hb));have e:=Adr k _ hle;simp only [binOp,Op.intBits,ne_eq,not_true_eq_false,if_false,BitVec.toNat_or,Ju k a ha,Ju k b hb,e];rfl
 |xor=>obtain ⟨a,b,rfl,rfl,rfl,ha,hb,rfl,rfl⟩:=AfD he;refine ⟨.int k (a ^^^ b:Nat),?_,.int _ _,rfl⟩;have hle:((a ^^^ b:Nat):Int)<=k.max:=AfN k _ (Nat.xor_lt_two_pow (Yr k a ha) (Yr k b hb));have e:=Adr k _ hle;simp only [binOp,Op.intBits,ne_eq,not_true_eq_false,if_false,BitVec.toNat_xor,Ju k a ha,Ju k b hb,e];rfl
 |shl=>
  have Ak:AtZ k m k' n h=.ok v h':=he;unfold AtZ at Ak;split at Ak
  . rename_i b hb;obtain ⟨rfl,rfl⟩:=B4 Ak;have e:=Qb hb;subst e;refine ⟨.int k (k.wrap (m * 2 ^ (min b k.bits))),?_,?_,rfl⟩;. simp [binOp,Op.shift];intro B6;omega
    . rw [Ub];have:Int.mul m (.ofNat (Nat.pow 2 (Nat.min b k.bits)))=m * 2 ^ (min b k.bits):=by show m * ((2 ^ (min b k.bits):Nat):Int)=_;simp
      rw [this];exact .int _ _
  . cases Ak
 |shr=>
  have Ak:Aua k m k' n h=.ok v h':=he;unfold Aua at Ak;split at Ak
  . rename_i a b ha hb;obtain ⟨rfl,rfl⟩:=B4 Ak;have e:=Qb ha;subst e;have e:=Qb hb;subst e;refine ⟨.int k ((a:Int).fdiv (2 ^ (min b k.bits))),?_,?_,rfl⟩;. simp [binOp,Op.shift];intro B6;omega
    . have:(Int.ofNat (Nat.div a (Nat.pow 2 (Nat.min b k.bits))))=(a:Int).fdiv (2 ^ (min b k.bits)):=by show ((a / 2 ^ (min b k.bits):Nat):Int)=_;grind
      rw [this];exact .int _ _
  . cases Ak
theorem AnY (op:BinOp) (t:TypeId) (m n:ByteArray) (w:World) (he:AuB op (bytesOf m) (bytesOf n) h=.ok v h'):
 ∃v',(binOp op t (.string m) (.string n)).run P w=.ok v' w/\Au σ v v'/\h'=h:=by cases op with
 |add=>
  rcases Bl he with ⟨hs,he⟩|⟨_,he⟩
  . obtain ⟨rfl,rfl⟩:=B4 he;have B6:=Ec hs;simp [Rf,Gv] at B6;refine ⟨.string (m++n),?_,?_,rfl⟩
    . have hn:¬ (m.size+n.size:Nat) > IntKind.i64.max:=by simp_all;omega
      have:binOp .add t (.string m) (.string n)=Op.stringOp .add m n:=rfl;rw [this];simp only [Op.stringOp,if_neg hn];rfl
    . rw [AuL,<- AbU];exact .str _
  grind
 |eql=>cases he;exact ⟨_,rfl,by rw [U1];exact .bool _,rfl⟩
 |neq=>cases he;exact ⟨_,rfl,by simp [Kb,U1];exact .bool _,rfl⟩
 |lss=>cases he;exact ⟨_,rfl,by rw [AbC];exact .bool _,rfl⟩
 |leq=>cases he;exact ⟨_,rfl,by simp [Kb,Pm];rw [AbC,<- Qi,U1];exact .bool _,rfl⟩
 |gtr=>cases he;exact ⟨_,rfl,by have:=Pm (bytesOf m) (bytesOf n);rw [AbC m n,<- Qi,U1] at this;rw [<- this,Bool.not_not];exact .bool _,rfl⟩
 |geq=>cases he;exact ⟨_,rfl,by simp [Kb,AbC];exact .bool _,rfl⟩
 |_=>cases he
def Axh (P:Program) (t:TypeId):TK->Prop
 |.bad=>True
 |.bool=>P.underlying t=some .bool
 |.int=>∃i,P.underlying t=some (.int i)
 |.string=>P.underlying t=some .string
 |.ptr=>∃e inf,P.underlying t=some (.pointer e)/\P.info? e=some inf/\inf.size≠0
 |.iface=>∃m,P.underlying t=some (.interface m)
 |.struct fs=>∃l,P.underlying t=some (.struct l)/\P.stoodInHeld t=false/\fs=((l.toList.filter λf=>f.name != "_").map λf=>(f.type,f.offset))
 |.array n e s=>∃inf,P.underlying t=some (.array n e)/\P.info? e=some inf/\inf.size=s
 |.slice=>∃e,P.underlying t=some (.slice e)
 |.map=>∃x e,P.underlying t=some (.map x e)
 |.func=>∃x y z,P.underlying t=some (.func x y z)
theorem AbD P t:Axh P t (tk P t):=by unfold tk;cases hu:P.underlying t with
 |none=>trivial
 |some d=>cases d with
  |pointer e=>dsimp;cases hs:F7 P e with
   |none=>trivial
   |some n=>obtain ⟨inf,h1,h2⟩:=F3 hs;cases n with
    |zero=>trivial
    |succ n=>exact ⟨e,_,hu,h1,by omega⟩
  |struct l=>
   cases hs:P.stoodInHeld t;. exact ⟨l,hu,hs,rfl⟩
   . trivial
  |array n e=>dsimp;cases hs:F7 P e with
   |none=>trivial
   |some s=>obtain ⟨inf,h1,h2⟩:=F3 hs;exact ⟨_,hu,h1,h2⟩
  |bool=>exact hu
  |int i=>exact ⟨i,hu⟩
  |string=>exact hu
  |interface m=>exact ⟨m,hu⟩
  |slice e=>exact ⟨e,hu⟩
  |map x e=>exact ⟨x,e,hu⟩
  |func x y z=>exact ⟨x,y,z,hu⟩
  |_=>trivial
def Afe (P:Program) (σ:Dx) (d:Nat) (eq:EqT):Prop:=
 ∀t x y b x' y',eq t x y=some b->Au σ x x'->Au σ y y'->∀(D:Nat) (w:World),d<=D->(Op.equalIn D t x' y').run P w=.ok b w
theorem Ajq {d:Nat} {eq:EqT} (hs:Afe P σ d eq) (D:Nat) (hD:d<=D) xs ys xs' ys' (hx:Bk σ xs xs'.toList) (hy:Bk σ ys ys'.toList) w:
 ∀fs b,Amw P eq ((fs.filter λf=>f.name != "_").map λf=>(f.type,f.offset)) xs ys=some b->(Op.eqFields D xs' ys' fs).run P w=.ok b w:=by intro fs;induction fs with
 |nil=>intro b hb;cases hb;rfl
 |cons f fs ih=>
  intro b hb;by_cases hn:f.name = "_";. simp [Op.eqFields,hn,ne_eq,not_true_eq_false,if_false];grind
  . rw [List.filter_cons_of_pos (by grind)] at hb;simp [List.map_cons,Amw] at hb;split at hb
    . rename_i u v hu hv;obtain ⟨u',hu',ru⟩:=Mp hu hx w;obtain ⟨v',hv',rv⟩:=Mp hv hy w;split at hb;. rename_i he;have:=hs _ _ _ _ _ _ he ru rv D w hD;simp [Op.eqFields,ne_eq,hn,not_false_eq_true,if_true,Sem.run_bind,hu',hv',this,Result.andThen_ok,Bool.not_true,Bool.false_eq_true,if_false];simp [*]
      . rename_i he;cases hb;have:=hs _ _ _ _ _ _ he ru rv D w hD;simp [Op.eqFields,hn,hu',hv',this]
      grind
    simp_all
theorem Ajp {d} {eq} (hs:Afe P σ d eq) D (hD:d<=D) e s xs ys xs' ys' (hx:Bk σ xs xs'.toList) (hy:Bk σ ys ys'.toList) w:
 ∀n i b,Amv P eq e s n i xs ys=some b->(Op.eqItems D e s xs' ys' (List.range' i n)).run P w=.ok b w:=by intro n;induction n with
 |zero=>intro i b hb;cases hb;rfl
 |succ n ih=>
  intro i b hb;simp [Amv] at hb;split at hb
  . rename_i u v hu hv;obtain ⟨u',hu',ru⟩:=Mp hu hx w;obtain ⟨v',hv',rv⟩:=Mp hv hy w;split at hb;. rename_i he;have:=hs _ _ _ _ _ _ he ru rv D w hD;simp [List.range'_succ,Op.eqItems,Sem.run_bind,hu',hv',this,Result.andThen_ok,Bool.not_true,Bool.false_eq_true,if_false];grind
    . rename_i he;cases hb;have:=hs _ _ _ _ _ _ he ru rv D w hD;simp [List.range'_succ,Op.eqItems,hu',hv',this]
    grind
  grind
theorem Apr c o o':((⟨c,o,none⟩:Addr) == ⟨c,o',none⟩)=(o == o'):=by grind
set_option maxHeartbeats 2000000 in
theorem Zj (P:Program) (σ:Dx):∀d,Afe P σ d (aeq P d):=by
 intro d
 induction d with
 |zero=>intro t x y b x' y' h;cases h
 |succ d ih=>
  intro t x y b x' y' he hx hy D w hD
  obtain ⟨D,rfl⟩:∃k,D=k+1:=⟨D - 1,by omega⟩
  have Ak:Dy P (aeq P d) t x y=some b:=he
  unfold Dy at Ak
  have hk:=AbD P t
  split at Ak<;>rename_i hc<;>rw [hc] at hk
  . cases Ak
  . split at Ak
    . rename_i a1 b1 h1 h2
      rw [Adn h1] at hx;rw [Adn h2] at hy
      cases hx;cases hy;cases Ak
      have hu:P.underlying t=some .bool:=hk
      exact run_equalIn_bool w D t _ _ hu
    . cases Ak
  . obtain ⟨i,hu⟩:=hk
    split at Ak
    . rename_i k a1 k' b1 h1 h2
      rw [P1 h1] at hx;rw [P1 h2] at hy
      cases hx;cases hy
      cases hq:kEq k k' with
      |false=>rw [hq] at Ak;cases Ak
      |true=>
       rw [hq] at Ak;cases Ak
       have:=(Q3 k k').1 hq
       subst this
       rw [Q1]
       exact run_equalIn_int w D t k i _ _ hu
    . cases Ak
  . split at Ak
    . rename_i a1 b1 h1 h2
      rw [Rj h1] at hx;rw [Rj h2] at hy
      cases hx;cases hy;cases Ak
      rw [U1]
      exact run_equalIn_string w D t _ _ hk
    . cases Ak
  . obtain ⟨e,inf,hu,hi,hs⟩:=hk
    split at Ak
    . rename_i h1 h2
      rw [Wv h1] at hx;rw [Wv h2] at hy
      cases hx;cases hy;cases Ak
      simp [Op.equalIn,run_underlying hu]
    . rename_i b0 o0 h1 h2
      rw [Wv h1] at hx;rw [P2 h2] at hy
      cases hx;cases hy;cases Ak
      simp [Op.equalIn,run_underlying hu]
    . rename_i b0 o0 h1 h2
      rw [P2 h1] at hx;rw [Wv h2] at hy
      cases hx;cases hy;cases Ak
      simp [Op.equalIn,run_underlying hu]
    . rename_i b0 o0 b1 o1 h1 h2
      rw [P2 h1] at hx;rw [P2 h2] at hy
      cases hx;cases hy
      rename_i e0 s0 e1 s1
      cases hq:Nat.beq b0 b1 with
      |false=>rw [hq] at Ak;cases Ak
      |true=>
       rw [hq] at Ak;cases Ak
       have:=Ch hq
       subst this
       rw [s0] at s1
       cases s1
       have e2:Nat.beq o0 o1=(o0 == o1):=by rw [Bool.eq_iff_iff];simp
       rw [e2]
       simp [Op.equalIn,run_underlying hu,sizeOf,typeInfo,hi,hs,sameAddr,Apr]
    . cases Ak
  . obtain ⟨m,hu⟩:=hk
    split at Ak
    . rename_i h1 h2
      rw [Y4 h1] at hx;rw [Y4 h2] at hy
      cases hx;cases hy;cases Ak
      simp [Op.equalIn,run_underlying hu]
    . rename_i t0 v0 h1 h2
      rw [Y4 h1] at hx;rw [Pq h2] at hy
      cases hx;cases hy;cases Ak
      simp [Op.equalIn,run_underlying hu]
    . rename_i t0 v0 h1 h2
      rw [Pq h1] at hx;rw [Y4 h2] at hy
      cases hx;cases hy;cases Ak
      simp [Op.equalIn,run_underlying hu]
    . rename_i t0 v0 t1 v1 h1 h2
      rw [Pq h1] at hx;rw [Pq h2] at hy
      cases hx;cases hy
      rename_i u0 r0 u1 r1
      cases hq:Nat.beq t0 t1 with
      |false=>
       rw [hq] at Ak;cases Ak
       have Hr:=Ho hq
       simp [Op.equalIn,run_underlying hu,Hr]
      |true=>
       rw [hq] at Ak
       have:=Ch hq
       subst this
       cases Aqr:(P.info? t0).any (·.comparable) with
       |false=>simp only [Aqr] at Ak;cases Ak
       |true=>
        simp only [Aqr] at Ak
        have Cs:aeq P d t0 v0 v1=some b:=Ak
        cases hi:P.info? t0 with
        |none=>simp [hi] at Aqr
        |some inf=>
         simp [hi] at Aqr
         have:=ih t0 v0 v1 b _ _ Cs r0 r1 D w om
         simp [Op.equalIn,run_underlying hu,typeInfo,hi,Aqr,this]
    . cases Ak
  . rename_i fs
    obtain ⟨l,hu,hs,rfl⟩:=hk
    split at Ak
    . rename_i a1 b1 h1 h2
      rw [P0 h1] at hx;rw [P0 h2] at hy
      cases hx;cases hy
      rename_i c1 l1 r1 c2 l2 r2
      have hfo:P.fieldsOf t=l:=by simp [Program.fieldsOf,hu]
      rw [run_equalIn_struct w D t c1 c2 (by rw [hfo];exact hu) hs,hfo]
      exact Ajq ih D om a1 b1 c1 c2 ⟨l1,r1⟩ ⟨l2,r2⟩ w l.toList b Ak
    . cases Ak
  . rename_i n e s
    obtain ⟨inf,hu,hi,hs⟩:=hk
    split at Ak
    . rename_i a1 b1 h1 h2
      rw [P0 h1] at hx;rw [P0 h2] at hy
      cases hx;cases hy
      rename_i c1 l1 r1 c2 l2 r2
      rw [run_equalIn_array w D c1 c2 hu hi]
      have hc:P.cellsOf e=s:=by simp [Program.cellsOf,hi,hs]
      rw [hc,List.range_eq_range']
      exact Ajp ih D om e s a1 b1 c1 c2 ⟨l1,r1⟩ ⟨l2,r2⟩ w n 0 b Ak
    . cases Ak
  . obtain ⟨e,hu⟩:=hk
    split at Ak
    . rename_i h1 h2
      rw [Ok h1] at hx;rw [Ok h2] at hy
      cases hx;cases hy;cases Ak
      simp [Op.equalIn,run_underlying hu]
    . rename_i h1 h2
      rw [Ok h1] at hx;rw [Ri h2] at hy
      cases hx;cases Ak
      cases hy<;>simp [Op.equalIn,run_underlying hu]
    . rename_i h1 h2
      rw [Ri h1] at hx;rw [Ok h2] at hy
      cases hy;cases Ak
      cases hx<;>simp [Op.equalIn,run_underlying hu]
    . cases Ak
  . obtain ⟨x0,e,hu⟩:=hk
    split at Ak
    . rename_i h1 h2
      rw [Ado h1] at hx;rw [Ado h2] at hy
      cases hx;cases hy;cases Ak
      simp [Op.equalIn,run_underlying hu]
    . rename_i h1 h2
      rw [Ado h1] at hx;rw [Ago h2] at hy
      cases hx;cases hy;cases Ak
      simp [Op.equalIn,run_underlying hu]
    . rename_i h1 h2
      rw [Ago h1] at hx;rw [Ado h2] at hy
      cases hx;cases hy;cases Ak
      simp [Op.equalIn,run_underlying hu]
    . cases Ak
  . obtain ⟨x0,y0,z0,hu⟩:=hk
    split at Ak
    . rename_i h1 h2
      have e1:x=.Iy:=by cases x<;>cases h1;rfl
      have e2:y=.Iy:=by cases y<;>cases h2;rfl
      subst e1;subst e2
      cases hx;cases hy;cases Ak
      simp [Op.equalIn,run_underlying hu]
    . rename_i h1 h2
      have e1:x=.Iy:=by cases x<;>cases h1;rfl
      subst e1
      rw [Aaq h2] at hy
      cases hx;cases Ak
      cases hy<;>simp [Op.equalIn,run_underlying hu]
    . rename_i h1 h2
      have e1:y=.Iy:=by cases y<;>cases h2;rfl
      subst e1
      rw [Aaq h1] at hx
      cases hy;cases Ak
      cases hx<;>simp [Op.equalIn,run_underlying hu]
    . cases Ak
theorem Tt (neg:Bool) (t:TypeId) (x y:Operand) {u v:AV} {u' v':Value} (hu:Au σ u u') (hv:Au σ v v') (Sm:Bool)
 (hc:Sm=true->isConst x=true\/isConst y=true) (ha:Xm P t Sm (O6 u) (O6 v)=true) (w:World):(eqGuard (if neg then .neq else .eql) t x y u' v').run P w=.ok () w:=by
 generalize (if neg then BinOp.neq else BinOp.eql)=op;cases hu<;>cases hv<;>first
  |(exfalso;revert ha;simp [Xm,O6];done)
  |(cases op<;>rfl)
  |skip
 . have:Sm=true:=by simpa [Xm,O6] using ha
   rcases hc this with h1|h1;. cases x<;>first|(cases h1;done)|(cases op<;>simp [eqGuard])
   . cases y<;>first|(cases h1;done)|(cases op<;>simp [eqGuard])
 . have hg:Nq P t=true:=by simpa [Xm,O6] using ha
   unfold Nq at hg;rw [Kb] at hg;exact run_eqGuard_agg w op t x y _ _ (by simpa using hg)
theorem AgT {neg} {t} {x y} {Sm} (he:Xe neg P t x y Sm h=.ok v h'):
 Xm P t Sm (O6 x) (O6 y)=true/\∃b,aeq P 20 t x y=some b/\v=.bool (neg != b)/\h'=h:=by
 rcases Bl he with ⟨hk,he⟩|⟨_,he⟩;. grind
 grind
theorem Yz (t:TypeId) {u v:AV} {u' v':Value} (hu:Au σ u u') (hv:Au σ v v') (Sm:Bool) (ha:Xm P t Sm (O6 u) (O6 v)=true) (w:World) (b:Bool)
 (hb:(Op.equal t u' v').run P w=.ok b w):(binOp .eql t u' v').run P w=.ok (.bool b) w/\(binOp .neq t u' v').run P w=.ok (.bool (!b)) w:=by cases hu<;>cases hv<;>first
  |(exfalso;revert ha;simp [Xm,O6];done)
  |(constructor<;>simp [binOp,hb])
theorem Apw {y} {k} {n} {op} (he:Apv y k n op h=.ok v h'):∃k' m,y=.int k' m/\AqP op k n k' m h=.ok v h':=by cases y<;>first|(cases he)|exact ⟨_,_,rfl,he⟩
theorem Apy {y} {s} {op} (he:Apx y s op h=.ok v h'):∃s',y=.str s'/\AuB op s s' h=.ok v h':=by cases y<;>first|(cases he)|exact ⟨_,rfl,he⟩
theorem Aco (op:BinOp) (t:TypeId) (x y:Operand) (yt:TypeId):Hm P G ⟨dst,.binOp op t x y yt,ty,pos,af,gd⟩:=by
 intro σ nt f a h h' w v ctx he De hf hg;simp [Op.operands] at De;have hx:=Cj hf hg x De.1;have hy:=Cj hf hg y De.2;have Ak:Atc (ev x f) (ev x f) (ev y f) op t (Bool.rec (motive:=λ_=>Bool) (isConst y) true (isConst x)) P h=.ok v h':=he;have Abk:(Bool.rec (motive:=λ_=>Bool) (isConst y) true (isConst x))=true->isConst x=true\/isConst y=true:=by
  cases hc:isConst x;. simp_all
  simp
 generalize Bool.rec (motive:=λ_=>Bool) _ ..=Sm at *;generalize ev x f=u at *;generalize ev y f=u2 at *;have gen:Ij u u2 op t Sm P h=.ok v h'->∃v' w',Ran P (execOp a.eval ⟨dst,.binOp op t x y yt,ty,pos,af,gd⟩) w v' w'/\Ag4 σ h w v v' h' w':=by
  intro hb;have hb':op=.eql/\Xe false P t u u2 Sm h=.ok v h'\/op=.neq/\Xe true P t u u2 Sm h=.ok v h':=by cases op<;>first|(cases hb)|exact .inl ⟨rfl,hb⟩|exact .inr ⟨rfl,hb⟩
  rcases hb' with ⟨rfl,hb⟩|⟨rfl,hb⟩
  . obtain ⟨ha,b,hq,rfl,rfl⟩:=AgT hb;have h1:=Tt false t x y hx hy _ Abk ha w;have h2:=Yz t hx hy _ ha w b (Zj P _ _ t u _ b _ _ hq hx hy _ w (by decide));refine ⟨.bool b,w,.inl ?_,.quiet _ _ ?_⟩;. simp [Bool.false_eq_true,if_false] at h1;simp [execOp,h1,h2.1]
    . cases b<;>exact .bool _
  . obtain ⟨ha,b,hq,rfl,rfl⟩:=AgT hb;have h1:=Tt true t x y hx hy _ Abk ha w;have h2:=Yz t hx hy _ ha w b (Zj P _ _ t u _ b _ _ hq hx hy _ w (by decide));refine ⟨.bool !b,w,.inl ?_,.quiet _ _ ?_⟩;. simp [if_true] at h1;simp [execOp,h1,h2.2]
    . cases b<;>exact .bool _
 cases u with
 |int k n=>obtain ⟨k',m,rfl,hi⟩:=Apw (show Apv _ k n _ h=.ok v _ from Ak);generalize Rr:a.eval x=xx at *;generalize hyy:a.eval y=yy at *;cases hx;cases hy;obtain ⟨v',hr,hv,rfl⟩:=AnX (P:=P) _ t k _ n m w hi;exact ⟨_,w,.inl (by simp [execOp,Rr,hyy,Aft,hr]),.quiet _ _ hv⟩
 |str s=>obtain ⟨s',rfl,hi⟩:=Apy (show Apx _ s _ h=.ok v _ from Ak);generalize Rr:a.eval x=xx at *;generalize hyy:a.eval y=yy at *;cases hx;cases hy;obtain ⟨v',hr,hv,rfl⟩:=AnY (P:=P) _ t _ _ w hi;exact ⟨_,w,.inl (by simp [execOp,Rr,hyy,Afu,hr]),.quiet _ _ hv⟩
 |top=>cases Ak
 |_=>exact gen Ak
end ops
end Go.Ev
namespace Go.Ev
variable [Ii]
variable {P:Program} {G:Nat} {σ:Dx} {h h':H} {w:World} {v:AV} {nt:Nat} {f:L2} {a:Act}
section ops
variable {dst:Option Tmp} {ty:TypeId} {pos:String} {af:Array Edge} {gd:Option (Nat × Bool)}
theorem Nt (hf:Pt σ nt f a) (hg:Vm G σ) {x} (hx:Es G x=true) {n y} (hn:Vg (ev x f)=some n) (hle:n<=y) code w:
 (Instr.sliceBound (a.eval x) y code).run P w=.ok n w:=by obtain ⟨k,hk⟩:=Us hn;have hr:=Cj hf hg x hx;rw [hk] at hr;generalize a.eval x=u at *;cases hr;simp [Instr.sliceBound,asIntOf,hle]
theorem Og (hf:Pt σ nt f a) (hg:Vm G σ) {lo hi mx} (h1:∀x,lo=some x->Es G x=true) (h2:∀x,hi=some x->Es G x=true) (h3:∀x,mx=some x->Es G x=true)
 {l u m len cap} (hm:bnd f mx cap=some m) (hl:bnd f lo 0=some l) (hu:bnd f hi len=some u) (hlu:l<=u) (hum:u<=m) (hmc:m<=cap) (P5:mx≠none->hi≠none) is w:
 (Instr.sliceBounds is len cap (lo.map a.eval) (hi.map a.eval) (mx.map a.eval)).run P w=.ok (l,u,m) w:=by cases mx with
 |none=>
  have e:m=cap:=by cases hm;rfl
  subst e;cases hi with
  |none=>
   have e:u=len:=by cases hu;rfl
   subst e;cases lo with
   |none=>
    have e:l=0:=by cases hl;rfl
    subst e;rfl
   |some x=>simp [Instr.sliceBounds,Nt hf hg (h1 x _) hl hlu]
  |some y=>have r2:=Nt (P:=P) hf hg (h2 y rfl) hu hum;cases lo with
   |none=>
    have e:l=0:=by cases hl;rfl
    subst e;simp [Instr.sliceBounds,r2]
   |some x=>have r1:=Nt (P:=P) hf hg (h1 x rfl) hl hlu;simp [Instr.sliceBounds,r1,r2]
 |some z=>have r3:=Nt (P:=P) hf hg (h3 z rfl) hm hmc;cases hi with
  |none=>grind
  |some y=>have r2:=Nt (P:=P) hf hg (h2 y rfl) hu hum;cases lo with
   |none=>
    have e:l=0:=by cases hl;rfl
    subst e;simp [Instr.sliceBounds,r2,r3]
   |some x=>have r1:=Nt (P:=P) hf hg (h1 x rfl) hl hlu;simp [Instr.sliceBounds,r1,r2,r3]
theorem Abf s l u:bytesOf (s.extract l u)=((bytesOf s).drop l).take (u - l):=by unfold bytesOf;simp
theorem Asd {s} {l u} (he:Ai9 s l u h=.ok v h'):
 ∃l' u',l=some l'/\u=some u'/\l'<=u'/\u'<=s.length/\v=.str ((s.drop l').take (u' - l'))/\h'=h:=by
 unfold Ai9 at he;split at he
 . rcases Bl he with ⟨h1,he⟩|⟨_,he⟩
   . rcases Bl he with ⟨h2,he⟩|⟨_,he⟩;. obtain ⟨rfl,rfl⟩:=B4 he;rw [Rf] at h2;refine ⟨_,_,rfl,rfl,G2 h1,G2 h2,?_,rfl⟩;rw [Asg,Asc];rfl
     grind
   grind
 grind
theorem Y1 {b off cap sz} {ex} {l u} (he:AkE b off cap sz ex l u h=.ok v h'):l<=u/\u<=cap/\h'=h /\
 (l<cap/\v=.sl b (off+l * sz) (u - l) (cap - l) sz ex\/l=cap/\ex=true/\v=.sl b off 0 0 sz true\/l=cap/\l=0/\v=.sl b off 0 0 sz ex\/l=cap/\l≠0/\ex=false/\v=.sl b (off+1) 0 0 0 false):=by
 rcases Bl he with ⟨h1,he⟩|⟨_,he⟩
 . rcases Bl he with ⟨h2,he⟩|⟨_,he⟩
   . have g1:=G2 h1;have g2:=G2 h2;rcases Bl he with ⟨h3,he⟩|⟨h3,he⟩;. simp_all
     . have g3:=Ap1 h3;rcases Bl he with ⟨h4,he⟩|⟨h4,he⟩;. grind
       . rcases Bl he with ⟨h5,he⟩|⟨h5,he⟩;. simp_all
         . obtain ⟨rfl,rfl⟩:=B4 he;refine ⟨g1,g2,rfl,.inr (.inr (.inr ⟨by omega,Ho h5,?_,rfl⟩))⟩;grind
   simp_all
 grind
theorem Ai8 {b off cap sz l u c} (he:Amj b off cap sz l u c h=.ok v h'):l<=u/\u<=c/\c<=cap/\h'=h /\
 v=.sl b (if c=l then off else off+l * sz) (u - l) (c - l) sz true:=by
 rcases Bl he with ⟨h1,he⟩|⟨_,he⟩
 . rcases Bl he with ⟨h2,he⟩|⟨_,he⟩
   . rcases Bl he with ⟨h3,he⟩|⟨_,he⟩;. obtain ⟨rfl,rfl⟩:=B4 he;refine ⟨G2 h1,G2 h2,G2 h3,rfl,?_⟩;cases hq:Nat.beq c l with
       |false=>rw [if_neg (Ho hq)];rfl
       |true=>simp_all
     grind
   simp_all
 grind
theorem AsX {G} {lo hi mx} {x} (h:(Op.slice ty x lo hi mx).operands.toList.all (Es G)=true):
 Es G x=true/\(∀y,lo=some y->Es G y=true)/\(∀y,hi=some y->Es G y=true)/\∀y,mx=some y->Es G y=true:=by simp [Op.operands,Array.toList_append,List.all_append,Bool.and_eq_true] at h;grind
theorem Acs (t:TypeId) (x:Operand) (lo hi mx:Option Operand):Hm P G ⟨dst,.slice t x lo hi mx,ty,pos,af,gd⟩:=by
 intro σ nt f a h h' w v ctx he De hf hg
 obtain ⟨ox,o1,o2,o3⟩:=AsX De
 have hx:=Cj hf hg x ox
 have Ak:G5 t x lo hi mx ty P ctx f h=.ok v h'/\A4a hi mx=true:=by
  rcases Bl he with ⟨h1,he⟩|⟨_,he⟩
  . exact ⟨he,h1⟩
  . cases he
 obtain ⟨Ak,hmo⟩:=Ak
 have P5:mx≠none->hi≠none:=by
  intro h1 h2
  cases mx with
  |none=>exact h1 rfl
  |some m=>subst h2;cases hmo
 unfold G5 at Ak
 generalize hy:a.eval x=y at *
 split at Ak
 . rename_i Gb
   split at Ak
   . rename_i s hvs
     rw [Rj hvs] at hx
     cases hx
     rename_i bs
     obtain ⟨l,u,hl,hu,hlu,hus,rfl,rfl⟩:=Asd Ak
     rw [Gv] at hus
     have hu':bnd f hi bs.size=some u:=by rw [<- Gv,<- Rf];exact hu
     have hb:=Og (P:=P) hf hg o1 o2 o3 (cap:=bs.size) (len:=bs.size) (m:=bs.size) rfl hl hu' hlu hus (Nat.le_refl _) (λhh=>absurd rfl hh) false w
     refine ⟨.string (bs.extract l u),w,.inl ?_,.quiet _ _ ?_⟩
     . have hun:=Afb Gb
       simp only [Option.map_none] at hb
       simp [execOp,hy,Instr.sliceAt,Instr.slice,run_underlying hun,hb]
     . rw [<- Abf];exact .str _
   . cases Ak
 . rename_i i Gb
   obtain ⟨inf,k1,k2,k3,k4⟩:=AiO Gb
   split at Ak
   . rename_i hvl
     rw [Ok hvl] at hx
     cases hx
     split at Ak
     . rename_i e1 e2 e3
       obtain ⟨rfl,rfl⟩:=B4 Ak
       have hb:=Og (P:=P) hf hg o1 o2 o3 (cap:=0) (len:=0) e3 e1 e2 (Nat.le_refl _) (Nat.le_refl _) (Nat.le_refl _) P5 true w
       refine ⟨.slice none 0 0,w,.inl ?_,.quiet _ _ .Bv⟩
       simp [execOp,hy,Instr.sliceAt,Instr.slice,run_underlying k1,hb,sizeOf,typeInfo,k2]
     . cases Ak
   . rename_i b off len cap sz ex hvl
     rw [Ri hvl] at hx
     have AhE:=Aox Gb
     cases hx
     rotate_left
     . exfalso
       split at Ak
       . rcases Bl Ak with ⟨hz,_⟩|⟨_,Ak⟩
         . have:=Ch hz
           omega
         . cases Ak
       . split at Ak
         . rcases Bl Ak with ⟨hz,_⟩|⟨_,Ak⟩
           . have:=Ch hz
             omega
           . cases Ak
         . cases Ak
       . cases Ak
     rename_i e cc hs g1 g2 g3 g4
     split at Ak
     . rename_i l u e1 e2
       rcases Bl Ak with ⟨hz,Ak⟩|⟨_,Ak⟩
       . have hz':=Ch hz
         obtain ⟨q1,q2,rfl,Al8⟩:=Y1 Ak
         have hb:=Og (P:=P) hf hg o1 o2 o3 (cap:=cc) (len:=len) (m:=cc) rfl e1 e2 q1 om (Nat.le_refl _) (λhh=>absurd rfl hh) true w
         simp only [Option.map_none] at hb
         have run:(execOp a.eval ⟨dst,.slice t x lo hi none,ty,pos,af,gd⟩).run P w=.ok (.value (.slice (if cc=l then some ⟨e.c,off,none⟩ else some ((⟨e.c,off,none⟩:Addr).add (l * i.s))) (u - l) (cc - l))) w:=by
          simp [execOp,hy,Instr.sliceAt,Instr.slice,run_underlying k1,hb,sizeOf,typeInfo,k2,k3]
         rcases Al8 with ⟨q3,rfl⟩|⟨q3,rfl,rfl⟩|⟨q3,q4,rfl⟩|⟨q3,q4,rfl,rfl⟩
         . refine ⟨_,w,.inl run,.quiet _ _ ?_⟩
           rw [if_neg om,G1,<- hz']
           refine .sl b _ _ _ _ _ e _ hs om om (λhh=>by rw [g3 hh]) (λhh=>?_)
           have:=g4 hh
           have e3:l * sz+(cc - l) * sz=cc * sz:=by rw [<- Nat.add_mul];congr 1;omega
           omega
         . have:=g3 rfl
           subst this
           refine ⟨_,w,.inl run,.quiet _ _ ?_⟩
           have e3:u=l:=by omega
           rw [if_pos q3.symm,e3,<- q3,Nat.sub_self]
           exact .sl b _ _ _ _ _ e _ hs om om (λ_=>rfl) (λhh=>by cases hh)
         . subst q4
           have e3:u=0:=by omega
           refine ⟨_,w,.inl run,.quiet _ _ ?_⟩
           have e4:(if cc=0 then some (⟨e.c,off,none⟩:Addr) else some ((⟨e.c,off,none⟩:Addr).add (0 * i.s)))=some ⟨e.c,off,none⟩:=by
            rw [G1];simp
           rw [e4,e3,Nat.sub_zero,Nat.sub_zero]
           exact .sl b _ _ _ _ _ e _ hs om om (λhh=>by rw [g3 hh];omega) g4
         . have e3:u=l:=by omega
           refine ⟨_,w,.inl run,.quiet _ _ ?_⟩
           rw [e3,Nat.sub_self]
           by_cases Ox:cc=l;. rw [if_pos Ox];exact .slw b off e hs _ _
           . rw [if_neg Ox];exact .slw b off e hs _ _
       . cases Ak
     . rename_i l u m e1 e2;split at Ak
       . rename_i c e3;rcases Bl Ak with ⟨hz,Ak⟩|⟨_,Ak⟩
         . have hz':=Ch hz;obtain ⟨q1,q2,q3,rfl,rfl⟩:=Ai8 Ak;have hb:=Og (P:=P) hf hg o1 o2 o3 (cap:=cc) (len:=len) (m:=c) e3 e1 e2 q1 q2 om P5 true w;refine ⟨.slice (if c=l then some ⟨e.c,off,none⟩ else some ((⟨e.c,off,none⟩:Addr).add (l * i.s))) (u - l) (c - l),w,.inl ?_,.quiet _ _ ?_⟩;. simp only [Option.map_some] at hb;simp [execOp,hy,Instr.sliceAt,Instr.slice,run_underlying k1,hb,sizeOf,typeInfo,k2,k3]
           . rw [G1,<- hz'];by_cases Ox:c=l;. rw [if_pos Ox,if_pos Ox];exact .sl b _ _ _ _ _ e _ hs om om (λ_=>rfl) (λhh=>by cases hh)
             . rw [if_neg Ox,if_neg Ox];exact .sl b _ _ _ _ _ e _ hs om om (λ_=>rfl) (λhh=>by cases hh)
         . cases Ak
       . cases Ak
     . cases Ak
   . cases Ak
 . rename_i n i Gb;obtain ⟨inf,k1,k2,k3,k4⟩:=Aat Gb;split at Ak
   . rename_i b off l u hvp e1 e2;rw [P2 hvp] at hx;cases hx;rename_i e hs;obtain ⟨q1,q2,q3,rfl,rfl⟩:=Ai8 Ak;have hb:=Og (P:=P) hf hg o1 o2 o3 (cap:=n) (len:=n) (m:=n) rfl e1 e2 q1 q2 (Nat.le_refl _) (λhh=>absurd rfl hh) false w;refine ⟨.slice (some (if n=l then ⟨e.c,off,none⟩ else ((⟨e.c,off,none⟩:Addr).add (l * i.s)))) (u - l) (n - l),w,.inl ?_,.quiet _ _ ?_⟩;. simp only [Option.map_none] at hb;simp [execOp,hy,Instr.sliceAt,run_underlying k1,hb,sizeOf,typeInfo,k2,k3,Instr.sureAddr]
     . rw [G1];by_cases Ox:n=l;. rw [if_pos Ox,if_pos Ox];exact .sl b _ _ _ _ _ e _ hs om om (λ_=>rfl) (λhh=>by cases hh)
       . rw [if_neg Ox,if_neg Ox];exact .sl b _ _ _ _ _ e _ hs om om (λ_=>rfl) (λhh=>by cases hh)
   . cases Ak
 . cases Ak
end ops
end Go.Ev
namespace Go.Ev
variable [Ii]
variable {P:Program} {G:Nat} {σ:Dx} {h h':H} {w:World} {v:AV} {nt:Nat} {f:L2} {a:Act}
section ops
variable {dst:Option Tmp} {ty:TypeId} {pos:String} {af:Array Edge} {gd:Option (Nat × Bool)}
theorem AmG (vs:List (Value × Nat)) off (cells:Array _):(vs.foldl (λcs p=>cs.setIfInBounds (off+p.2) p.1) cells).size=cells.size:=by induction vs generalizing cells with
 |nil=>rfl
 |cons p vs ih=>grind
theorem ApW (vs:List Value) off:∀k (cells:Array _) i,off+k+vs.length<=cells.size ->
 ((vs.zipIdx k).foldl (λcs p=>cs.setIfInBounds (off+p.2) p.1) cells)[i]?=if off+k<=i/\i<off+k+vs.length then vs[i - (off+k)]? else cells[i]?:=by induction vs with
 |nil=>simp_all;omega
 |cons v vs ih=>simp [List.zipIdx_cons,List.foldl_cons];grind
theorem Aci (hf:Pt σ nt f a) (hg:Vm G σ) {place AcZ:Nat->Option (Nat × Nat)} (hp:∀i q,place i=some q->AcZ i=some q):
 ∀(parts:List (Nat × Operand)) (cs r:List AV) (D7:Array Value),parts.all (λp=>Es G p.2)=true->Xp place f parts cs=some r->Bk σ cs D7.toList ->
  ∃r':Array Value,Instr.fill AcZ D7 (parts.map λp=>(p.1,a.eval p.2))=some r'/\Bk σ r r'.toList:=by intro parts;induction parts with
 |nil=>intro cs r D7 _ he hc;cases he;exact ⟨D7,rfl,hc⟩
 |cons p parts ih=>
  obtain ⟨i,x⟩:=p;intro cs r D7 De he hc;simp only [List.all_cons,Bool.and_eq_true] at De;simp only [Xp] at he;split at he
  . rename_i off size u Z1 Ox;split at he;. rename_i cs2 S6;cases hq:Nat.beq (Q4 u) size with
      |false=>simp_all
      |true=>
       rw [hq] at he;have Fc:=Ch hq;rw [Gh] at Fc;have hv:=O4 Ox (Cj hf hg x De.1);obtain ⟨hle,_⟩:=Ns S6;have hlen:u.length=(a.eval x).cells.size:=by rw [hv.1];simp
       have hlc:cs.length=D7.size:=by rw [hc.1];simp
       simp only [List.map_cons,Instr.fill,hp i _ Z1];rw [if_neg (by simp;omega)];refine ih cs2 r _ De.2 he ?_;have key:=λi=>ApW (a.eval x).cells.toList off 0 D7 i (by simp;omega);rw [<- Array.foldl_toList];rw [Array.toList_zipIdx];generalize hF:((a.eval x).cells.toList.zipIdx 0).foldl (λcs (p:Value × Nat)=>cs.setIfInBounds (off+p.2) p.1) D7=F at key;have hF':List.foldl (λcs x=>cs.setIfInBounds (off+x.2) x.1) D7 (a.eval x).cells.toList.zipIdx=F:=hF;have AdN:F.size=D7.size:=by rw [<- hF];exact AmG _ _ _
       have A8c:Bk σ cs2 F.toList:=by
        refine ⟨?_,λj y z hy hz=>?_⟩;. grind
        . rw [AhU S6] at hy;have hz':F[j]?=some z:=by simpa using hz
          rw [key j] at hz';simp only [Nat.add_zero,Array.length_toList] at hz';by_cases hj:off<=j/\j<off+u.length;. rw [if_pos hj] at hy;rw [if_pos om] at hz';exact hv.2 (j - off) y z hy hz'
          . rw [if_neg hj] at hy;rw [if_neg om] at hz';exact hc.2 j y z hy (by grind)
       exact A8c
    . cases he
  . cases he
theorem AcV {t} {parts} (h:(Op.build t parts).operands.toList.all (Es G)=true):parts.toList.all (λp=>Es G p.2)=true:=by simpa [Op.operands] using h
theorem Vi {t} {n} {parts} (h:(Op.buildSlice t n parts).operands.toList.all (Es G)=true):parts.toList.all (λp=>Es G p.2)=true:=by simpa [Op.operands] using h
theorem AhY P w:∀(l:List _) pl,l.mapM (λf=>(F7 P f.type).map λs=>(f.offset,s))=some pl ->
 (l.mapM (λf=>do pure (f.offset,<- sizeOf f.type):Go.Field->Sem _)).run P w=.ok pl w:=by intro l;induction l with
 |nil=>simp
 |cons f l ih=>
  intro pl h;rw [List.mapM_cons] at h;simp only [bind,Option.bind_eq_some_iff,pure,Option.some.injEq,Option.map_eq_some_iff] at h;obtain ⟨q,⟨s,hs,rfl⟩,pl',h2,rfl⟩:=h;obtain ⟨i,hi,rfl⟩:=F3 hs;have hso:(sizeOf f.type).run P w=.ok i.size w:=by simp [sizeOf,typeInfo,hi]
  simp_all
theorem Afm {t} {pl} {z} (h:AgS P t=.struct pl z):∃fs,P.underlying t=some (.struct fs)/\I1 P t=some z/\fs.toList.mapM (λf=>(F7 P f.type).map λs=>(f.offset,s))=some pl:=by
 unfold AgS at h;split at h
 . split at h;. rename_i pl' hp;unfold places at hp;simp_all
   grind
 . grind
 grind
theorem Am2 {t} {s} {z} (h:AgS P t=.arr s z):∃n e inf,P.underlying t=some (.array n e)/\I1 P t=some z/\P.info? e=some inf/\inf.size=s:=by
 unfold AgS at h;split at h;. grind
 . split at h;. rename_i s' hs;obtain ⟨inf,h1,h2⟩:=F3 hs;grind
   grind
 grind
theorem Acp t parts:Hm P G ⟨dst,.build t parts,ty,pos,af,gd⟩:=by
 intro σ nt f a h h' w v ctx he De hf hg;have AtO:=AcV De;have Ak:Tg t _ ty P ctx f h=.ok v _:=he;unfold Tg at Ak;have Ac7:(parts.map λp=>(p.1,a.eval p.2)).toList=parts.toList.map λp=>(p.1,a.eval p.2):=by simp
 split at Ak
 . rename_i pl z hb;obtain ⟨cs,hc,rfl,rfl⟩:=Aaj Ak;obtain ⟨fs,hu,hz,Z1⟩:=Afm hb;obtain ⟨i,zz,hi,hzz,hr⟩:=Kn _ hz;obtain ⟨r',h1,h2⟩:=Aci hf hg (AcZ:=λi=>pl.toArray[i]?) λi q hq=>by grind _ z _ _ AtO hc hr;refine ⟨_,w,.inl ?_,.quiet _ _ (.agg _ _ h2.1 h2.2)⟩;have hm:=AhY P w _ _ Z1;have hm':(fs.mapM (λf=>do pure (f.offset,<- sizeOf f.type):Go.Field->Sem _)).run P w=.ok pl.toArray w:=by rw [Array.mapM_eq_mapM_toList];simp_all
   simp only [execOp,Instr.build,zeroValue,typeInfo,Sem.run_bind,run_program,Result.andThen_ok,hi,Sem.run_pure,hzz,run_underlying hu,hm',Ac7,h1]
 . rename_i s z hb;obtain ⟨cs,hc,rfl,rfl⟩:=Aaj Ak;obtain ⟨n,e,inf,hu,hz,hie,hs⟩:=Am2 hb;obtain ⟨i,zz,hi,hzz,hr⟩:=Kn _ hz;obtain ⟨r',h1,h2⟩:=Aci hf hg (AcZ:=λi=>some _) (λi q hq=>hq) _ z _ _ AtO hc hr;refine ⟨_,w,.inl ?_,.quiet _ _ (.agg _ _ h2.1 h2.2)⟩;simp [execOp,Instr.build,zeroValue,typeInfo,sizeOf,Sem.run_bind,run_program,Result.andThen_ok,hi,Sem.run_pure,hzz,run_underlying hu,hie,hs,Ac7,h1]
 simp_all
theorem AkD {t} {i} (h:Tw P t=some i):0<i.s:=by
 unfold Tw at h;split at h
 . split at h;. rename_i inf z hi hz;cases hq:Nat.beq (Q4 z) inf.size with
     |false=>simp_all
     |true=>rw [hq] at h;have h':=h;cases hz0:Nat.blt 0 inf.size with
      |false=>simp_all
      |true=>rw [hz0] at h';cases h';simp_all
   simp_all
 grind
theorem Pk {t} {i} (h:Tw P t=some i):∃inf z zz,P.underlying t=some (.slice i.e)/\P.info? i.e=some inf/\inf.size=i.s/\inf.bytes=i.bytes /\
 I1 P i.e=some z/\inf.zero=some zz/\z.length=i.s/\zz.cells.size=i.s/\∀σ,Bk σ z zz.cells.toList:=by
 unfold Tw at h;split at h
 . split at h;. rename_i inf z hi hz;cases hq:Nat.beq (Q4 z) inf.size with
     |false=>simp_all
     |true=>rw [hq] at h;have h':=h;cases hz0:Nat.blt 0 inf.size with
      |false=>simp_all
      |true=>
      rw [hz0] at h';have e1:=Ch hq;rw [Gh] at e1;obtain ⟨A9q,zz,h1,h2,_⟩:=Kn (λ_=>none) hz;have Q0:∀σ,Bk σ z zz.cells.toList:=by intro σ;obtain ⟨A9q,zz',g1,g2,g3⟩:=Kn σ hz;simp_all
      have h9:=(Q0 λ_=>none).1;grind
   simp_all
 grind
theorem ArN z:∀n j,j<n * z.length->(Ade z n)[j]?=z[j % z.length]?:=by intro n;induction n with
 |zero=>simp
 |succ n ih=>
  intro j hj;simp [Ade,Dl];by_cases h1:j<z.length;. rw [List.getElem?_append_left h1,Nat.mod_eq_of_lt h1]
  . rw [List.getElem?_append_right om];have h2:j - z.length<n * z.length:=by grind
    rw [ih _ h2,<- Nat.mod_eq_sub_mod om]
theorem Aix z:∀n,(Ade z n).length=n * z.length:=by intro n;induction n with
 |zero=>simp [Ade]
 |succ n ih=>simp [Ade,Dl,List.length_append,ih,Nat.add_mul];omega
theorem Aiy {z:List AV} {zz:Array Value} (hr:Bk σ z zz.toList) n:Bk σ (Ade z n) ((Array.range (n * z.length)).map λi=>zz[i % zz.size]!).toList:=by
 have hl:z.length=zz.size:=by rw [hr.1];rfl
 refine ⟨by rw [Aix];simp,λi x y hx hy=>?_⟩;have hi:i<n * z.length:=by grind
 rw [ArN z n i hi] at hx;refine hr.2 _ x y hx ?_;grind
theorem Ro t (n:Nat) parts:Hm P G ⟨dst,.buildSlice t n parts,ty,pos,af,gd⟩:=by
 intro σ nt f a h h' w v ctx he De hf hg;have AtO:=Vi De
 have Ak:Gz t n _ ty P ctx f h=.ok v _:=he;unfold Gz at Ak;have Ac7:(parts.map λp=>(p.1,a.eval p.2)).toList=parts.toList.map λp=>(p.1,a.eval p.2):=by simp
 split at Ak
 . rename_i i hs;obtain ⟨inf,z,zz,hu,hi,Fc,hby,hz,hzz,hlz,AdK,Q0⟩:=Pk hs;rw [hz] at Ak;dsimp at Ak;split at Ak
   . rename_i cs hc;rcases Bl Ak with ⟨hsm,Cs⟩|⟨_,Cs⟩
     . obtain ⟨rfl,rfl⟩:=B4 Cs;have B6:=Ec hsm;obtain ⟨r',h1,h2⟩:=Aci hf hg (AcZ:=λj=>some _) (λj q hq=>hq) _ _ _ _ AtO hc (Aiy (Q0 _) n);refine ⟨_,_,.inl ?_,.sl _ _ _ n n _ (Nat.le_refl _) h2⟩;have hn:¬ n * i.s > 2 ^ 24:=by omega
       rw [hlz] at h1;by_cases h0:n * i.s=0
       . have e0:∀g:Nat->Value,(Array.range (n * i.s)).map g=#[]:=λg=>by simp_all
         rw [e0] at h1;simp [execOp,Instr.buildSlice,typeInfo,sizeOf,Sem.run_bind,run_program,Result.andThen_ok,Sem.run_pure,run_underlying hu,hi,Fc,if_neg _,Ac7,e0,newRow,Dd];simp_all
       . simp [execOp,Instr.buildSlice,zeroValue,typeInfo,sizeOf,Sem.run_bind,run_program,Result.andThen_ok,Sem.run_pure,run_underlying hu,hi,Fc,hzz,if_neg hn,Ac7,h0,if_false,newRow,run_newObj,Dd,h1]
     grind
   grind
 grind
theorem Ta P t:match Pw P t with
 |.bad=>True
 |.str=>P.underlying t=some .string
 |.sl=>∃e,P.underlying t=some (.slice e)
 |.map=>∃k e,P.underlying t=some (.map k e):=by unfold Pw;grind
theorem AeE {t:TypeId} {x:AV} {y:Value} (hx:Au σ x y) (hm:∀r,x≠.map r) (he:lnK (Pw P t) x h=.ok v h') (w:World) (ts:Array TypeId) (ht:ts[0]?=some t):
 ∃v',(Builtin.len_ ts ty #[y]).run P w=.ok v' w/\Au σ v v'/\h'=h:=by have hs:=Ta P t;cases hk:Pw P t with
 |bad=>rw [hk] at he;cases he
 |str=>
  rw [hk] at he hs;have Ak:lnS x h=.ok v h':=he;cases hx<;>first|(cases Ak;done)|skip;rename_i s;cases Ak;refine ⟨.int .i64 s.size,?_,?_,rfl⟩;. simp [Builtin.len_,ht,run_underlying hs,goInt]
  . rw [Rf,Gv];exact .int _ _
 |sl=>
  rw [hk] at he hs;obtain ⟨e,hs⟩:=hs;have Ak:Fo x h=.ok v h':=he;cases hx<;>first|(cases Ak;done)|skip
  . cases Ak;exact ⟨.int .i64 0,by simp [Builtin.len_,ht,run_underlying hs,goInt],.int _ _,rfl⟩
  . rename_i b off len cap sz ex e1 cc _ _ _ _ _;cases Ak;exact ⟨.int .i64 len,by simp [Builtin.len_,ht,run_underlying hs,goInt],.int _ _,rfl⟩
  . cases Ak;exact ⟨.int .i64 0,by simp [Builtin.len_,ht,run_underlying hs,goInt],.int _ _,rfl⟩
 |map=>
  rw [hk] at he hs;obtain ⟨k,e,hs⟩:=hs;have Ak:lnM x h=.ok v h':=he;unfold lnM entries at Ak;cases hx<;>first|(cases Ak;done)|skip
  . cases Ak;exact ⟨.int .i64 0,by simp [Builtin.len_,ht,run_underlying hs,goInt],.int _ _,rfl⟩
  . exact absurd rfl (hm _)
end ops
end Go.Ev
namespace Go.Ev
variable [Ii]
variable {P:Program} {G:Nat} {σ:Dx} {h h':H} {w:World} {v:AV} {nt:Nat} {f:L2} {a:Act}
def Cc (w:World) (c:Nat) (o:Obj):World:={ w with heap:=w.heap.setIfInBounds c o }
theorem Da w c o j:(Cc w c o).heap[j]?=if j=c/\c<w.heap.size then some o else w.heap[j]?:=by unfold Cc;grind
theorem Mr w c o:(Cc w c o).heap.size=w.heap.size:=by simp [Cc]
theorem Dj {w:World} {c} {o} (hc:w.heap[c]?=some o):c<w.heap.size:=(Array.getElem?_eq_some_iff.1 hc).1
theorem Ak8 {w} {c i} {v} {arr} {t} {fz} (hc:w.heap[c]?=some (.cells arr t fz)):
 w.setCell ⟨c,i,none⟩ v=Cc w c (.cells (arr.setIfInBounds i v) t fz):=by unfold World.setCell Cc;congr 1;grind
def J9 (arr:Array Value) (o:Nat) (vs:List Value):Array Value:=(arr.toList.take o++vs++arr.toList.drop (o+vs.length)).toArray
theorem Nz {arr} {o:Nat} {vs:List _} (hle:o+vs.length<=arr.size) (i):
 (J9 arr o vs)[i]?=if o<=i/\i<o+vs.length then vs[i - o]? else arr[i]?:=by
 unfold J9
 have hl:arr.toList.length=arr.size:=by rfl
 simp only [List.getElem?_toArray]
 by_cases h2:i<o
 . grind
 grind
theorem O2 {arr} {o} {vs} (hle:o+vs.length<=arr.size):(J9 arr o vs).size=arr.size:=by unfold J9;grind
theorem AgQ {arr} {o} {v} {vs} (hle:o+(vs.length+1)<=arr.size):
 J9 (arr.setIfInBounds o v) (o+1) vs=J9 arr o (v::vs):=by apply Array.ext_getElem?;intro i;rw [Nz (by grind),Nz om];grind
theorem AdY w c o o':Cc (Cc w c o) c o'=Cc w c o':=by unfold Cc;simp
theorem Nl (P:Program) (c off:Nat) (t:TypeId) (lo hi:Nat):∀(vs:List Value) (i:Nat) (arr:Array Value) (w:World),w.heap[c]?=some (.cells arr t (lo,hi)) ->
 off+i+vs.length<=arr.size->(∀j,off+i<=j->j<off+i+vs.length->¬ (lo<=j/\j<hi))->(∀v∈vs,v.oneCell'=true) ->
 (storeCells ⟨c,off,none⟩ vs i).run P w=.ok () (Cc w c (.cells (J9 arr (off+i) vs) t (lo,hi)))
 |[],i,arr,w,hc,hle,_,_=>by
  have e:J9 arr (off+i) []=arr:=by unfold J9;simp
  rw [e];simp only [storeCells,Sem.run_pure];congr 1;unfold Cc;have B6:=Dj hc;have:w.heap.setIfInBounds c (.cells arr t (lo,hi))=w.heap:=by grind
  simp [*]
 |v::vs,i,arr,w,hc,hle,hfz,AdM=>by
  simp only [List.length_cons] at hle hfz;have O9:w.cell? ((⟨c,off,none⟩:Addr).add i)=some arr[off+i]:=by rw [G1];simp [World.cell?,hc]
  have A86:w.frozen? ((⟨c,off,none⟩:Addr).add i)=false:=by rw [G1];simp only [World.frozen?,hc];simp_all
  have Vt:=run_store P w ((⟨c,off,none⟩:Addr).add i) v .plain (AdM v (by simp));rw [O9,A86] at Vt;simp only [Bool.false_eq_true,if_false] at Vt;rw [G1,Ak8 hc] at Vt;have hc2:(Cc w c (.cells (arr.setIfInBounds (off+i) v) t (lo,hi))).heap[c]?=some (.cells (arr.setIfInBounds (off+i) v) t (lo,hi)):=by rw [Da,if_pos ⟨rfl,Dj hc⟩]
  have ih:=Nl P c off t lo hi vs (i+1) _ _ hc2 (by grind) (λj h1 h2=>hfz j om om) (λu hu=>AdM u (by simp [hu]));have he:storeCells ⟨c,off,none⟩ (v::vs) i=(do store ((⟨c,off,none⟩:Addr).add i) v;storeCells ⟨c,off,none⟩ vs (i+1)):=by rfl
  rw [he,Sem.run_bind,G1,Vt,Result.andThen_ok,ih,AdY];congr 3;have:off+(i+1)=off+i+1:=by omega
  rw [this];exact AgQ om
theorem AjZ {n} {o} (hh:AlH n o=true):o=.Fb n:=by cases o<;>first|(cases hh)|skip;rename_i m;have:=Ch (show Nat.beq m n=true from hh);grind
theorem rd_some {b} {c} (hr:h.rd b=some c):∃t k,h.m.get b=.cells c t k/\Adp h.m.get k:=by have hr':rdO _ h=some c:=hr;cases ho:h.m.get b with
 |cells l t k=>rw [ho] at hr';have hk:=hr';cases k with
  |Cf cl st=>have:ArJ _ _ l h=some c:=hk;unfold ArJ at this;cases hq:AlH st (h.m.get cl) with
   |false=>simp_all
   |true=>rw [hq] at this;cases this;exact ⟨t,_,rfl,AjZ hq⟩
  |exact=>cases hk;exact ⟨t,_,rfl,trivial⟩
  |fz cl=>cases hk;exact ⟨t,_,rfl,trivial⟩
  |Gt cl=>cases hk;exact ⟨t,_,rfl,trivial⟩
 |_=>rw [ho] at hr';cases hr'
theorem No {b} {c} {e} (hr:h.rd b=some c) (hb:Gr G σ h.m.get e w (h.m.get b)):
 ∃(arr:Array _) (t:TypeId) (fz:Nat × Nat),w.heap[e.c]?=some (.cells arr t fz)/\arr.size=e.N/\c.length<=e.N/\∀(i:Nat) x y,c[i]?=some x->arr[i]?=some y->Au σ x y:=by obtain ⟨t,k,ho,hv⟩:=rd_some hr;rw [ho] at hb;obtain ⟨arr,lo,hi,h1,h2,h3,h4,_⟩:=hb.2 hv;grind
theorem Xj {c i} {arr} {t} {fz} (hc:w.heap[c]?=some (.cells arr t fz)):w.cell? ⟨c,i,none⟩=arr[i]?:=by simp [World.cell?,hc]
theorem Mo {c off n} {arr} {t} {fz} (hc:w.heap[c]?=some (.cells arr t fz)) (hle:off+n<=arr.size):
 (loadCells ⟨c,off,none⟩ n).run P w=.ok ((arr.toList.drop off).take n).toArray w:=by
 have:=run_loadCells_list (P:=P) w ⟨c,off,_⟩ ((arr.toList.drop off).take n) λj v hj=>by rw [G1,Xj hc];grind
 grind
theorem Uj {c} {arr:Array _} {off n} {r} (Ik:Nf c off n=some r) (hr:∀(i:Nat) x y,c[i]?=some x->arr[i]?=some y->Au σ x y) (hle:c.length<=arr.size):
 Bk σ r ((arr.toList.drop off).take n):=by obtain ⟨h1,rfl,h2⟩:=Js Ik;refine ⟨by grind,λi x y hx hy=>?_⟩;grind
theorem AhN {t} {c} {off} {e:SE} {arr} {ty} {fz} (hp:Tn (Ft P t) c off=some v) (hc:w.heap[e.c]?=some (.cells arr ty fz))
 (hle:c.length<=arr.size) (hr:∀(i:Nat) x y,c[i]?=some x->arr[i]?=some y->Au σ x y):
 ∃v',(loadVar t ⟨e.c,off,none⟩).run P w=.ok v' w/\Au σ v v':=by
 unfold Tn at hp;split at hp;. rename_i hl;rw [Ab6] at hp;have hi:=(List.getElem?_eq_some_iff.1 hp).1;have hy:arr[off]?=some arr[off]:=Array.getElem?_eq_getElem _;refine ⟨_,?_,hr _ v _ hp hy⟩;simp [loadVar,Sem.run_bind,Vv hl,Result.andThen_ok,Bool.false_eq_true,if_false,run_load,Xj hc,hy]
 . rename_i n hl;cases Ik:Nf c off n with
   |none=>grind
   |some r=>simp [Ik] at hp;subst hp;have:=Uj Ik hr hle;refine ⟨_,?_,.agg _ _ this.1 this.2⟩;obtain ⟨h1,_,_⟩:=Js Ik;simp [loadVar,Sem.run_bind,(Kj hl w).1,(Kj hl w).2,Result.andThen_ok,if_true,Mo hc (show off+n<=arr.size by omega),Sem.run_pure]
 grind
theorem Ae0 {dst} {ty} {pos} {af} {gd} t x {ctx}
 (he:opD (.load t x) ty P ctx f h=.ok v h') (De:Es G x=true) (hf:Pt σ nt f a) (hg:Vm G σ)
 (hm:∀b off e,ev x f=.ptr b off->σ b=some e->Gr G σ h.m.get e w (h.m.get b)):
 ∃v',Ran P (execOp a.eval ⟨dst,.load t x,ty,pos,af,gd⟩) w v' w/\Au σ v v'/\h'=h:=by have hx:=Cj hf hg x De;have Ak:ldV _ _ h=.ok v _:=he;generalize ev x f=u at *;generalize hy:a.eval x=y at *;cases hx<;>first|(cases Ak)|skip;rename_i b off e hs;have Cs:ldC _ _ _ h=.ok v _:=Ak;cases W4:h.rd b with
 |none=>rw [W4] at Cs;cases Cs
 |some c=>
  rw [W4] at Cs;obtain ⟨arr,tt,fz,h1,h2,h3,h4⟩:=No W4 (hm b _ e rfl hs);have key:Tn (Ft P t) c off=some v/\h'=h:=by have Fv:=Cs;cases hl:Ft P t with
   |none=>rw [hl] at Fv;cases Fv
   |some i=>rw [hl] at Fv;cases i with
    |none=>obtain ⟨g1,g2⟩:=AbA (show Py _ h=.ok v _ from Fv);exact ⟨g1,g2⟩
    |some n=>obtain ⟨cs,g1,rfl,g2⟩:=Aaj (show Ly _ h=.ok v _ from Fv);exact ⟨by simp [Tn,g1],g2⟩
  obtain ⟨hp,rfl⟩:=key;obtain ⟨v',hr,hv⟩:=AhN hp h1 om h4;refine ⟨_,.inl ?_,hv,rfl⟩;simp [execOp,hy,Instr.loadAt,Instr.sureAddr,hr]
theorem Ph (h:H) b o (hb:b<Bq) j (hj:j<Bq):(h.put b o).m.get j=if j=b then o else h.m.get j:=KM.Dh _ b j o hb hj
theorem Ni (h:H) o (hb:h.nx<Bq) j (hj:j<Bq):(h.new o).m.get j=if j=h.nx then o else h.m.get j:=KM.Dh _ _ j o hb hj
theorem Ab7 (hi:Om h) {b} (hb:b<Bq) (hn:h.m.get b≠.none):b<h.nx:=by
 rcases Nat.lt_or_ge b _ with h1|h1;. omega
 . exact absurd (hi.Rm b h1 hb) hn
theorem Hh {b:Nat} {e:SE} {o o':AO} {ob:Obj} (hi:Om h) (hs:SOk σ w) (hm:V1 G σ h.m.get w) (hb:σ b=some e) (ho:h.m.get b=o) (Hr:o≠.none) (hnc:∀n,o≠.Fb n)
 (hc:Ej o=none) (Wh:Ej o'=none) (hk:e.k=none) (A4d:∀n,o'≠.Fb n) (hr:Gr G σ (h.put b o').m.get e (Cc w e.c ob) o'):
 Out G σ h w σ (h.put b o') (Cc w e.c ob):=by
 have G8:=hs.low b e hb;have hbn:=Ab7 hi G8 (by rw [ho];exact Hr);have hg:=λj hj=>Ph h b o' G8 j hj;have AfC:M2 o'=none:=by cases o' with
  |cells l t k=>cases k<;>first|rfl|(cases Wh;done)
  |_=>rfl
 have O9:∀l t k st,o'≠.cells l t (.Cf k st):=by rintro l t k st rfl;cases Wh
 refine ⟨[b],⟨rfl,Nat.le_refl _,?_,?_,?_,?_,?_,⟨hi.top,?_,?_,?_,?_,?_⟩,λx hx _ _=>by rw [List.mem_singleton] at hx;subst hx;rw [ho];exact Hr⟩,⟨Qq.refl σ,?_,?_,?_,?_,?_,⟨rfl,rfl⟩⟩,?_⟩;. intro x hx;rw [List.mem_singleton] at hx;subst hx;exact hbn
 . intro x h1 h2 h3;rw [hg x h1,if_neg (λe=>h3 (by simp [e]))]
 . grind
 . intro x k h1 h2;exact absurd h2 (by show ¬ x<h.nx;omega)
 . grind
 . intro x h1 h2;rw [hg x h2,if_neg (by have:h.nx<=x:=h1;omega)];exact hi.Rm x h1 h2
 . intro x k h1 h2;rw [hg x h1] at h2;split at h2;. rw [Wh] at h2;cases h2
   . obtain ⟨h3,n,h4⟩:=hi.N3 x k h1 h2;refine ⟨h3,n,?_⟩;have hkl:k<Bq:=by have:=hi.top;omega
     grind
 . intro x y k h1 h2 h3 h4;rw [hg x h1] at h3;rw [hg y h2] at h4;split at h3;. rw [AfC] at h3;cases h3
   . split at h4;. rw [AfC] at h4;cases h4
     . exact hi.Gt x y k h1 h2 h3 h4
 . intro x l t k st n h1 h2 h3;rw [hg x h1] at h2;split at h2;. exact absurd h2 (O9 _ _ _ _)
   . obtain ⟨h5,n',h6⟩:=hi.N3 x k h1 (by rw [h2];rfl);have hkl:k<Bq:=by have:=hi.top;omega
     rw [hg k hkl] at h3;split at h3;. exact absurd h3 (A4d n)
     . exact hi.Tx x l t k st n h1 h2 h3
 . intro x y l t k st l2 t2 h1 h2 h3 h4;rw [hg x h1] at h3;rw [hg y h2] at h4;split at h3;. exact absurd h3 (O9 _ _ _ _)
   . split at h4;. rw [h4] at AfC;cases AfC
     . exact hi.len x y l t k st l2 t2 h1 h2 h3 h4
 . intro x e' h1 h2;rw [h1] at h2;cases h2
 . exact ⟨hs.inj,λx e' hx=>by rw [Mr];exact hs.rng x e' hx,hs.low⟩
 . rw [Mr];exact Nat.le_refl _
 . intro c h1 h2;rw [Da,if_neg];rintro ⟨rfl,_⟩;exact h2 b (by simp) e hb rfl
 . intro x e' h1 h2;rw [h1] at h2;cases h2
 . intro x e' hx;have X6:=hs.low x e' hx;rw [hg x X6];by_cases hxb:x=b;. subst hxb;rw [if_pos rfl];rw [hb] at hx;cases hx;exact hr
   . rw [if_neg hxb];have hce:e'.c≠e.c:=by
      intro hce;rcases hs.inj x b e' e hx hb hce with h1|⟨h1,h2⟩;. exact hxb h1
      . rw [h1,hk] at h2;exact h2 rfl
     refine Gr.congr (Qq.refl σ) (by rw [Da,if_neg (λhh=>hce hh.1)]) ?_ (hm x e' hx);intro l t k st hl hv;have hkl:k<Bq:=by have:=(hi.N3 x k X6 (by rw [hl];rfl)).1;have:=hi.top;omega
     grind
theorem AhV {c c' vs} {off} {arr} {vs'} (S6:Ng c vs off=some c') (hle:c.length<=arr.size) (hv:Bk σ vs vs')
 (hr:∀(i:Nat) x y,c[i]?=some x->arr[i]?=some y->Au σ x y):∀(i:Nat) x y,c'[i]?=some x->(J9 arr off vs')[i]?=some y->Au σ x y:=by
 intro i x y hx hy;obtain ⟨h1,_⟩:=Ns S6;have h2:=hv.1;rw [AhU S6] at hx;rw [Nz om] at hy;by_cases hj:off<=i/\i<off+vs.length;. rw [if_pos hj] at hx;rw [if_pos om] at hy;exact hv.2 _ x y hx hy
 grind
theorem AiL {b off} {vs} (hw:h.wr b off vs=.ok h'):
 (∃c t c',h.m.get b=.cells c t .exact/\Ng c vs off=some c'/\h'=h.put b (.cells c' t .exact)) \/
 ∃c t k n c',h.m.get b=.cells c t (.Gt k)/\h.m.get k=.Fb n/\Ng c vs off=some c'/\h'=(h.put b (.cells c' t (.Gt k))).put k (.Fb (n+1)):=by have hw':wrO _ b _ _ h=.ok _:=hw;cases ho:h.m.get b with
 |cells c t k=>rw [ho] at hw';have hk:=hw';cases k with
  |exact=>have hk':wrL _ b t h=.ok _:=hk;cases hp:Ng c .. with
   |none=>rw [hp] at hk';cases hk'
   |some c'=>rw [hp] at hk';cases hk';grind
  |Gt cl=>
   have hk':wrT _ _ _ b t h=.ok _:=hk;unfold wrT at hk';split at hk'
   . rename_i c' n hp hn;have:h.m.get cl=.Fb n:=by cases hq:h.m.get _<;>rw [hq] at hn<;>cases hn;rfl
     grind
   grind
  |fz cl=>cases hk
  |Cf cl st=>cases hk
 |_=>rw [ho] at hw';cases hw'
theorem Ys {b k n n':Nat} {e:SE} {l l':List AV} {t:TypeId} {kk:CK} {ob:Obj} (hi:Om h) (hs:SOk σ w) (hm:V1 G σ h.m.get w) (hb:σ b=some e)
 (ho:h.m.get b=.cells l t (.Gt k)) (S3:h.m.get k=.Fb n) (hkk:(kk=.Gt k/\n'=n+1)\/(kk=.fz k/\n'=n/\∀x y,σ x=some y->y.c=e.c->x≠b->∀l t st,h.m.get x=.cells l t (.Cf k st)->Gr G σ h.m.get y (Cc w e.c ob) (h.m.get x)))
 (S4:l'.length=l.length) (hr:Gr G σ ((h.put b (.cells l' t kk)).put k (.Fb n')).m.get e (Cc w e.c ob) (.cells l' t kk)):
 Out G σ h w σ ((h.put b (.cells l' t kk)).put k (.Fb n')) (Cc w e.c ob):=by
 have G8:=hs.low b e hb
 have hbn:=Ab7 hi G8 (by rw [ho];simp)
 obtain ⟨A3T,_⟩:=hi.N3 b k G8 (by rw [ho];rfl)
 have hkl:k<Bq:=by have:=hi.top;omega
 have hkb:k≠b:=by rintro rfl;rw [ho] at S3;cases S3
 have Vb:Ahd kk=some k:=by rcases hkk with ⟨rfl,_⟩|⟨rfl,_⟩<;>rfl
 have htp:M2 (.cells l' t kk)=some k:=by rcases hkk with ⟨rfl,_⟩|⟨rfl,_⟩<;>rfl
 have hno:∀l2 t2 k2 st,AO.cells l' t kk≠.cells l2 t2 (.Cf k2 st):=by
  rintro l2 t2 k2 st hh
  rcases hkk with ⟨rfl,_⟩|⟨rfl,_⟩<;>cases hh
 have Zo:n<=n':=by rcases hkk with ⟨_,rfl⟩|⟨_,rfl,_⟩<;>omega
 have hek:e.k=some k:=by have:=hm b e hb;rw [ho] at this;exact this.1
 have hg:∀j,j<Bq->((h.put b (.cells l' t kk)).put k (.Fb n')).m.get j=if j=k then .Fb n' else if j=b then .cells l' t kk else h.m.get j:=by
  intro j hj
  rw [Ph _ _ _ hkl j hj,Ph _ _ _ G8 j hj]
 generalize hh':(h.put b (.cells l' t kk)).put k (.Fb n')=h' at *
 have hnx:h'.nx=h.nx:=by rw [<- hh'];rfl
 have hlg:h'.lg=[k,b]++h.lg:=by rw [<- hh'];rfl
 refine ⟨[k,b],⟨hlg,by omega,?_,?_,?_,?_,?_,⟨by rw [hnx];exact hi.top,?_,?_,?_,?_,?_⟩,λx hx _ _=>by simp at hx;rcases hx with rfl|rfl;(rw [S3];simp);(rw [ho];simp)⟩,⟨Qq.refl σ,?_,?_,?_,?_,?_,⟨rfl,rfl⟩⟩,?_⟩
 . intro x hx
   simp at hx
   rcases hx with rfl|rfl<;>omega
 . intro x h1 h2 h3
   simp at h3
   rw [hg x h1,if_neg h3.1,if_neg h3.2]
 . intro x hx k2 h1 h2
   simp at hx
   rcases hx with rfl|rfl
   . rw [S3] at h2;cases h2
   . rw [ho] at h2
     cases h2
     simp
 . intro x k2 h1 h2;omega
 . intro x k2 h1 h2 h3
   rw [hg x h2] at h3
   split at h3
   . cases h3
   . split at h3
     . rename_i _ hxb
       subst hxb
       rw [ho]
       rw [show Ej (.cells l' t kk)=Ahd kk from rfl,Vb] at h3
       exact h3
     . exact h3
 . intro x h1 h2
   rw [hg x h2,if_neg om,if_neg om]
   exact hi.Rm x om h2
 . intro x k2 h1 h2
   rw [hg x h1] at h2
   have key:k2=k\/Ej (h.m.get x)=some k2:=by
    split at h2
    . cases h2
    . split at h2
      . rw [show Ej (.cells l' t kk)=Ahd kk from rfl,Vb] at h2
        cases h2
        exact .inl rfl
      . exact .inr h2
   rcases key with rfl|h3
   . exact ⟨by omega,n',by rw [hg _ hkl,if_pos rfl]⟩
   . obtain ⟨g1,m,g2⟩:=hi.N3 x k2 h1 h3
     refine ⟨by omega,?_⟩
     rw [hg k2 (by have:=hi.top;omega)]
     by_cases hq:k2=k
     . exact ⟨n',by rw [if_pos hq]⟩
     . rw [if_neg hq,if_neg (λe=>by subst e;rw [ho] at g2;cases g2)]
       exact ⟨m,g2⟩
 . intro x y k2 h1 h2 h3 h4
   rw [hg x h1] at h3
   rw [hg y h2] at h4
   have tr:∀z,M2 (if z=k then .Fb n' else if z=b then .cells l' t kk else h.m.get z)=some k2->M2 (h.m.get z)=some k2:=by
    intro z hz
    split at hz
    . cases hz
    . split at hz
      . rename_i _ hzb
        subst hzb
        rw [htp] at hz
        rw [ho]
        exact hz
      . exact hz
   exact hi.Gt x y k2 h1 h2 (tr x h3) (tr y h4)
 . intro x l2 t2 k2 st m h1 h2 h3
   rw [hg x h1] at h2
   split at h2
   . cases h2
   . split at h2
     . exact absurd h2 (hno _ _ _ _)
     . obtain ⟨g1,m2,g2⟩:=hi.N3 x k2 h1 (by rw [h2];rfl)
       rw [hg k2 (by have:=hi.top;omega)] at h3
       split at h3
       . rename_i hq
         subst hq
         cases h3
         have:=hi.Tx x l2 t2 k2 st n h1 h2 S3
         omega
       . split at h3
         . cases h3
         . exact hi.Tx x l2 t2 k2 st m h1 h2 h3
 . intro x y l2 t2 k2 st l3 t3 h1 h2 h3 h4
   rw [hg x h1] at h3
   rw [hg y h2] at h4
   split at h3
   . cases h3
   . split at h3
     . exact absurd h3 (hno _ _ _ _)
     . split at h4
       . cases h4
       . split at h4
         . rename_i _ hyb
           subst hyb
           cases h4
           have:k2=k:=by have:=htp;simp [M2] at this;exact this
           subst this
           rw [S4]
           exact hi.len x _ l2 t2 _ st l _ h1 h2 h3 ho
         . exact hi.len x y l2 t2 k2 st l3 t3 h1 h2 h3 h4
 . intro x e' h1 h2;rw [h1] at h2;cases h2
 . exact ⟨hs.inj,λx e' hx=>by rw [Mr];exact hs.rng x e' hx,hs.low⟩
 . rw [Mr];exact Nat.le_refl _
 . intro c h1 h2
   rw [Da,if_neg]
   rintro ⟨rfl,_⟩
   exact h2 b (by simp) e hb rfl
 . intro x e' h1 h2;rw [h1] at h2;cases h2
 . intro x e' hx
   have X6:=hs.low x e' hx
   rw [hg x X6]
   by_cases hxk:x=k
   . rw [if_pos hxk];subst hxk;have hbk:=hm _ _ hx;rw [S3] at hbk;exact hbk
   rw [if_neg hxk]
   by_cases hxb:x=b
   . subst hxb
     rw [if_pos rfl]
     rw [hb] at hx
     cases hx
     exact hr
   . rw [if_neg hxb]
     have S7:∀l2 t2 k2 st,h.m.get x=.cells l2 t2 (.Cf k2 st)->h'.m.get k2=.Fb st->h.m.get k2=.Fb st:=by
      intro l2 t2 k2 st hl hv
      have Z0:k2<Bq:=by have:=(hi.N3 x k2 X6 (by rw [hl];rfl)).1;have:=hi.top;omega
      rw [hg k2 Z0] at hv
      split at hv
      . rename_i hq
        subst hq
        cases hv
        have:=hi.Tx x l2 t2 k2 n' n X6 hl S3
        have:n'=n:=by omega
        rw [this];exact S3
      . split at hv
        . cases hv
        . exact hv
     by_cases hce:e'.c=e.c
     . rcases hs.inj x b e' e hx hb hce with h1|⟨h1,h2⟩
       . exact absurd h1 hxb
       . have Ha:=hm x e' hx
         cases hxo:h.m.get x with
         |none=>trivial
         |Fb m=>rw [hxo] at Ha;have h9:e'.k=none:=Ha;rw [h1,hek] at h9;cases h9
         |map es=>rw [hxo] at Ha;have h9:=Ha.1;rw [h1,hek] at h9;cases h9
         |loop a1 a2 a3 a4 a5 a6=>rw [hxo] at Ha;have h9:=Ha.1;rw [h1,hek] at h9;cases h9
         |dfr tk=>rw [hxo] at Ha;have h9:=Ha.1;rw [h1,hek] at h9;cases h9
         |cells l2 t2 k2=>
          rw [hxo] at Ha
          have Z0:Ahd k2=some k:=by rw [<- Ha.1,h1,hek]
          cases k2 with
          |exact=>cases Z0
          |Gt kx=>cases Z0;exact absurd (hi.Gt x b k X6 G8 (by rw [hxo];rfl) (by rw [ho];rfl)) hxb
          |fz kx=>cases Z0;exact absurd (hi.Gt x b k X6 G8 (by rw [hxo];rfl) (by rw [ho];rfl)) hxb
          |Cf kx st=>
           cases Z0
           rcases hkk with ⟨_,rfl⟩|⟨_,rfl,hfz⟩
           . refine ⟨Ha.1,λhv=>?_⟩
             have hv':h'.m.get k=.Fb st:=hv
             rw [hg k hkl,if_pos rfl] at hv'
             cases hv'
             have:=hi.Tx x l2 t2 k (n+1) n X6 hxo S3
             omega
           . have:=hfz x e' hx hce hxb l2 t2 st hxo
             rw [hxo] at this
             exact Gr.congr (Qq.refl σ) rfl (λa1 a2 a3 a4 e5 e6=>S7 a1 a2 a3 a4 (by rw [hxo];exact e5) e6) this
     . refine Gr.congr (Qq.refl σ) (by rw [Da,if_neg (λhh=>hce hh.1)]) (λa1 a2 a3 a4 e5 e6=>S7 a1 a2 a3 a4 e5 e6) (hm x e' hx)
theorem Agp {b off:Nat} {vs:List AV} {vs':List Value} {e:SE} (hw:h.wr b off vs=.ok h') (hi:Om h) (hs:SOk σ w) (hm:V1 G σ h.m.get w) (hb:σ b=some e) (hv:Bk σ vs vs')
 (AdM:∀u∈vs',u.oneCell'=true):
 ∃w',(storeCells ⟨e.c,off,none⟩ vs').run P w=.ok () w'/\Out G σ h w σ h' w':=by
 have hl:=hv.1;rcases AiL hw with ⟨c,t,c',ho,hp,rfl⟩|⟨c,t,k,n,c',ho,hk,hp,rfl⟩
 . have Ha:=hm b e hb;rw [ho] at Ha;obtain ⟨arr,lo,hi',h1,h2,h3,h4,h5,h6⟩:=Ha.2 trivial;obtain ⟨g1,_⟩:=Ns hp;have hlen:=h5 rfl;have Fc:off+vs'.length<=arr.size:=by omega
   refine ⟨_,Nl P e.c off t lo hi' vs' 0 arr w h1 (by simpa using Fc) (λj j1 j2=>h6 trivial j om) AdM,?_⟩;refine Hh hi hs hm hb ho (by simp) (by simp) rfl rfl Ha.1 (by simp) ?_;refine ⟨Ha.1,λ_=>⟨J9 arr (off+0) vs',lo,hi',?_,?_,?_,?_,?_,?_⟩⟩;. rw [Da,if_pos ⟨rfl,Dj h1⟩]
   . rw [O2 (by simpa using Fc)];exact h2
   . simp_all;omega
   . simp only [Nat.add_zero];exact AhV hp om hv h4
   . grind
   . exact h6
 . have Ha:=hm b e hb;rw [ho] at Ha;obtain ⟨arr,lo,hi',h1,h2,h3,h4,h5,h6⟩:=Ha.2 trivial;obtain ⟨g1,_⟩:=Ns hp;have Fc:off+vs'.length<=arr.size:=by omega
   refine ⟨_,Nl P e.c off t lo hi' vs' 0 arr w h1 (by simpa using Fc) (λj j1 j2=>h6 trivial j om) AdM,?_⟩;refine Ys hi hs hm hb ho hk (.inl ⟨rfl,rfl⟩) (Mi hp) ?_;refine ⟨Ha.1,λ_=>⟨J9 arr (off+0) vs',lo,hi',?_,?_,?_,?_,?_,?_⟩⟩;. rw [Da,if_pos ⟨rfl,Dj h1⟩]
   . rw [O2 (by simpa using Fc)];exact h2
   . grind
   . simp only [Nat.add_zero];exact AhV hp om hv h4
   simp_all;omega
def Gu (σ:Dx) (b:Nat) (e:SE):Dx:=λx=>if x=b then some e else σ x
theorem Ip {b} {e} (hb:σ b=none):Qq σ (Gu σ b e):=by intro x e' hx;unfold Gu;grind
theorem Lq w o j (hj:j<w.heap.size):(Dd w o).heap[j]?=w.heap[j]?:=by show (w.heap.push o)[j]?=_;grind
theorem F1 w o:(Dd w o).heap[w.heap.size]?=some o:=by show (w.heap.push o)[w.heap.size]?=_;simp
theorem size_push w o:(Dd w o).heap.size=w.heap.size+1:=by show (w.heap.push o).size=_;simp
theorem SOk.push {b} {e} (hs:SOk σ w) ob (hb:b<Bq) (he:e.c=w.heap.size):SOk (Gu σ b e) (Dd w ob):=by
 refine ⟨?_,?_,?_⟩
 . intro x y e1 e2 h1 h2 h3;unfold Gu at h1 h2;split at h1
   . cases h1;split at h2;. grind
     . have:=hs.rng y _ h2;omega
   . split at h2;. cases h2;have:=hs.rng x _ h1;omega
     . exact hs.inj x y _ _ h1 h2 h3
 . intro x e1 h1;rw [size_push];unfold Gu at h1;split at h1;. grind
   . have:=hs.rng x _ h1;omega
 . intro x e1 h1;unfold Gu at h1;split at h1;. omega
   . exact hs.low x _ h1
theorem Yf {o:AO} {ob:Obj} {e:SE} (hi:Om h) (hs:SOk σ w) (hm:V1 G σ h.m.get w) (hl:h.nx<Bq) (hf:σ h.nx=none) (hc:Ej o=none) (he:e.c=w.heap.size)
 (hr:Gr G (Gu σ h.nx e) (h.new o).m.get e (Dd w ob) o):Out G σ h w (Gu σ h.nx e) (h.new o) (Dd w ob):=by
 have hg:=λj hj=>Ni h o hl j hj;have AfC:M2 o=none:=by cases o with
  |cells l t k=>cases k<;>first|rfl|(cases hc;done)
  |_=>rfl
 have O9:∀l t k st,o≠.cells l t (.Cf k st):=by rintro l t k st rfl;cases hc
 have hnx:(h.new o).nx=h.nx+1:=rfl;have Vb:∀x k,x<Bq->Ej (h.m.get x)=some k->k<h.nx/\k≠h.nx/\k<Bq:=by intro x k h1 h2;have:=(hi.N3 x k h1 h2).1;omega
 refine ⟨[],⟨rfl,by omega,λb hb=>(by cases hb),?_,λb hb=>(by cases hb),?_,?_,⟨by omega,?_,?_,?_,?_,?_⟩,λb hb=>(by cases hb)⟩,⟨Ip hf,?_,hs.push ob hl he,?_,?_,?_,⟨rfl,rfl⟩⟩,?_⟩;. intro x h1 h2 _;rw [hg x h1,if_neg om]
 . grind
 . intro x k h1 h2 h3;rw [hg x h2,if_neg om] at h3;exact h3
 . intro x h1 h2;rw [hg x h2,if_neg om];exact hi.Rm x om h2
 . intro x k h1 h2;rw [hg x h1] at h2;split at h2;. rw [hc] at h2;cases h2
   . obtain ⟨h3,n,h4⟩:=hi.N3 x k h1 h2;grind
 . intro x y k h1 h2 h3 h4;rw [hg x h1] at h3;rw [hg y h2] at h4;split at h3;. rw [AfC] at h3;cases h3
   . split at h4;. rw [AfC] at h4;cases h4
     . exact hi.Gt x y k h1 h2 h3 h4
 . intro x l t k st n h1 h2 h3;rw [hg x h1] at h2;split at h2;. exact absurd h2 (O9 _ _ _ _)
   . have:=Vb x k h1 (by rw [h2];rfl);rw [hg k this.2.2,if_neg this.2.1] at h3;exact hi.Tx x l t k st n h1 h2 h3
 . intro x y l t k st l2 t2 h1 h2 h3 h4;rw [hg x h1] at h3;rw [hg y h2] at h4;split at h3;. exact absurd h3 (O9 _ _ _ _)
   . split at h4;. rw [h4] at AfC;cases AfC
     . exact hi.len x y l t k st l2 t2 h1 h2 h3 h4
 . intro x e' h1 h2;unfold Gu at h2;split at h2;. omega
   . rw [h1] at h2;cases h2
 . rw [size_push];omega
 . intro c h1 _;exact Lq w ob c h1
 . intro x e' h1 h2;unfold Gu at h2;split at h2;. cases h2;left;omega
   . rw [h1] at h2;cases h2
 . intro x e' hx;unfold Gu at hx;split at hx;. rename_i hxn;cases hx;subst hxn;rw [hg _ hl,if_pos rfl];exact hr
   . rename_i hxn;have X6:=hs.low x e' hx;rw [hg x X6,if_neg hxn];refine Gr.congr (Ip hf) (Lq w ob _ (hs.rng x e' hx)) ?_ (hm x e' hx);intro l t k st P4 hv;have:=Vb x k X6 (by rw [P4];rfl);rw [hg k this.2.2,if_neg this.2.1] at hv;exact hv
theorem Bk.Zm {cs} {D7:Array _} (hc:Bk σ cs D7.toList):∀(i:Nat) x y,cs[i]?=some x->D7[i]?=some y->Au σ x y:=
 λi x y hx hy=>hc.2 i x y hx (by grind)
theorem Tc {cs} {D7} {t} (hi:Om h) (hs:SOk σ w) (hm:V1 G σ h.m.get w) (hl:h.nx<Bq) (hf:σ h.nx=none) (hc:Bk σ cs D7.toList):
 Out G σ h w (Gu σ h.nx ⟨w.heap.size,cs.length,none⟩) (h.new (.cells cs t .exact)) (Dd w (.cells D7 t)):=by
 have hlen:cs.length=D7.size:=by rw [hc.1];rfl
 refine Yf hi hs hm hl hf rfl rfl ⟨rfl,λ_=>⟨_,0,0,F1 w _,by grind,Nat.le_refl _,λi x y hx hy=>(hc.Zm i x y hx hy).mono (Ip hf),λ_=>rfl,λ_ i _=>by simp⟩⟩
end Go.Ev
namespace Go.Ev
variable [Ii]
variable {P:Program} {G:Nat} {σ:Dx} {h h':H} {w w':World} {v:AV} {nt:Nat} {f:L2} {a:Act}
theorem Ae4 {cs:List AV} {t:TypeId} {arr:Array Value} {fz:Nat × Nat} (hi:Om h) (hs:SOk σ w) (hm:V1 G σ h.m.get w) (hl:h.nx+1<Bq) (hf0:σ h.nx=none) (hf:σ (h.nx+1)=none)
 (hle:cs.length<=arr.size) (hr:∀(i:Nat) (x:AV) (y:Value),cs[i]?=some x->arr[i]?=some y->Au σ x y) (hfz:∀i,i<arr.size->¬ (fz.1<=i/\i<fz.2)):
 Out G σ h w (Gu σ (h.nx+1) ⟨w.heap.size,arr.size,some h.nx⟩) ((h.new (.Fb 0)).new (.cells cs t (.Gt h.nx))) (Dd w (.cells arr t fz)):=by
 have hg:∀j,j<Bq->((h.new (.Fb 0)).new (.cells cs t (.Gt h.nx))).m.get j=if j=h.nx+1 then .cells cs t (.Gt h.nx) else if j=h.nx then .Fb 0 else h.m.get j:=by intro j hj;rw [Ni _ _ (show (h.new (.Fb 0)).nx<Bq from hl) j hj,Ni _ _ om j hj];rfl
 generalize hh':(h.new (.Fb 0)).new (.cells cs t (.Gt h.nx))=h' at *;have hnx:h'.nx=h.nx+2:=by rw [<- hh'];rfl
 have hlg:h'.lg=[]++h.lg:=by rw [<- hh'];rfl
 have Vb:∀x k,x<Bq->Ej (h.m.get x)=some k->k<h.nx:=λx k h1 h2=>(hi.N3 x k h1 h2).1;have hct:∀x l t k st,x<Bq->h.m.get x=.cells l t (.Cf k st)->k<h.nx:=λx l t k st h1 h2=>Vb x k h1 (by rw [h2];rfl);refine ⟨[],⟨hlg,by omega,λb hb=>(by cases hb),?_,λb hb=>(by cases hb),?_,?_,⟨by omega,?_,?_,?_,?_,?_⟩,λb hb=>(by cases hb)⟩,⟨Ip hf,?_,hs.push _ hl rfl,?_,?_,?_,⟨rfl,rfl⟩⟩,?_⟩;. intro x h1 h2 _;rw [hg x h1,if_neg om,if_neg om]
 . intro x k h1 h2 h3 h4;rw [hg x h3] at h4;split at h4;. cases h4;exact .inr (Nat.le_refl _)
   . split at h4;. cases h4
     . omega
 . intro x k h1 h2 h3;rw [hg x h2,if_neg om,if_neg om] at h3;exact h3
 . intro x h1 h2;rw [hg x h2,if_neg om,if_neg om];exact hi.Rm x om h2
 . intro x k h1 h2;rw [hg x h1] at h2;split at h2;. cases h2;exact ⟨by omega,0,by rw [hg _ om,if_neg om,if_pos rfl]⟩
   . split at h2;. cases h2
     . obtain ⟨h3,n,h4⟩:=hi.N3 x k h1 h2;refine ⟨by omega,n,?_⟩;rw [hg k om,if_neg om,if_neg om];exact h4
 . intro x y k h1 h2 h3 h4;rw [hg x h1] at h3;rw [hg y h2] at h4;have Cf:∀z,z<Bq->M2 (h.m.get z)=some k->k<h.nx:=by intro z hz hzt;refine Vb z k hz ?_;cases hq:h.m.get z with
    |cells l2 t2 k2=>rw [hq] at hzt;cases k2<;>cases hzt<;>rfl
    |_=>rw [hq] at hzt;cases hzt
   split at h3
   . cases h3;split at h4;. omega
     . split at h4;. cases h4
       . have:=Cf y h2 h4;omega
   . split at h3;. cases h3
     . split at h4;. cases h4;have:=Cf x h1 h3;omega
       . split at h4;. cases h4
         . exact hi.Gt x y k h1 h2 h3 h4
 . intro x l2 t2 k st n h1 h2 h3;rw [hg x h1] at h2;split at h2;. cases h2
   . split at h2;. cases h2
     . have:=hct x l2 t2 k st h1 h2;rw [hg k om,if_neg om,if_neg om] at h3;exact hi.Tx x l2 t2 k st n h1 h2 h3
 . intro x y l2 t2 k st l3 t3 h1 h2 h3 h4;rw [hg x h1] at h3;rw [hg y h2] at h4;split at h3;. cases h3
   . split at h3;. cases h3
     . have:=hct x l2 t2 k st h1 h3;split at h4;. cases h4;omega
       . split at h4;. cases h4
         . exact hi.len x y l2 t2 k st l3 t3 h1 h2 h3 h4
 . intro x e' h1 h2;unfold Gu at h2;split at h2;. omega
   . rw [h1] at h2;cases h2
 . rw [size_push];omega
 . intro c h1 _;exact Lq w _ c h1
 . intro x e' h1 h2;unfold Gu at h2;split at h2;. cases h2;left;exact Nat.le_refl _
   . rw [h1] at h2;cases h2
 . intro x e' hx;unfold Gu at hx;split at hx;. rename_i hxn;cases hx;subst hxn;rw [hg _ hl,if_pos rfl];exact ⟨rfl,λ_=>⟨arr,fz.1,fz.2,F1 w _,rfl,hle,λi x y hx hy=>(hr i x y hx hy).mono (Ip hf),λhh=>(by cases hh),λ_ i B6=>hfz i B6⟩⟩
   . rename_i hxn;have X6:=hs.low x e' hx;rw [hg x X6,if_neg hxn];split;. rename_i Rr;rw [Rr,hf0] at hx;cases hx
     . refine Gr.congr (Ip hf) (Lq w _ _ (hs.rng x e' hx)) ?_ (hm x e' hx);intro l2 t2 k st P4 hv;have:=hct x l2 t2 k st X6 P4;rw [hg k om,if_neg om,if_neg om] at hv;exact hv
theorem AiI {b k st:Nat} {e e':SE} {c cs:List AV} {t:TypeId} (hi:Om h) (hs:SOk σ w) (hm:V1 G σ h.m.get w) (hb:σ b=some e) (ho:h.m.get b=.cells c t (.Gt k)) (S3:h.m.get k=.Fb st)
 (hl:h.nx<Bq) (hf:σ h.nx=none) (X3:c.length<=cs.length) (Bem:e'.k=some k) (hs':SOk (Gu σ h.nx e') w') (Ae9:w.heap.size<=w'.heap.size) (hio:w'.os=w.os/\w'.output=w.output)
 (Aqv:∀j,j<w.heap.size->j≠e.c->w'.heap[j]?=w.heap[j]?) (AyM:w.heap.size<=e'.c\/e'.c=e.c)
 (hold:∃(arr Amz:Array Value) (fz:Nat × Nat),w.heap[e.c]?=some (.cells arr t fz)/\w'.heap[e.c]?=some (.cells Amz t fz)/\Amz.size=arr.size/\∀i,i<c.length->Amz[i]?=arr[i]?)
 (Na:Gr G (Gu σ h.nx e') (((h.put b (.cells c t (.Cf k st))).put k (.Fb st)).new (.cells cs t (.Gt k))).m.get e' w' (.cells cs t (.Gt k))):
 Out G σ h w (Gu σ h.nx e') (((h.put b (.cells c t (.Cf k st))).put k (.Fb st)).new (.cells cs t (.Gt k))) w':=by
 have G8:=hs.low b e hb
 have hbn:=Ab7 hi G8 (by rw [ho];simp)
 obtain ⟨A3T,_⟩:=hi.N3 b k G8 (by rw [ho];rfl)
 have hkl:k<Bq:=by omega
 have hkb:k≠b:=by rintro rfl;rw [ho] at S3;cases S3
 have hek:e.k=some k:=by have:=hm b e hb;rw [ho] at this;exact this.1
 have hg:∀j,j<Bq->(((h.put b (.cells c t (.Cf k st))).put k (.Fb st)).new (.cells cs t (.Gt k))).m.get j=if j=h.nx then .cells cs t (.Gt k) else if j=b then .cells c t (.Cf k st) else h.m.get j:=by
  intro j hj
  rw [Ni _ _ (show ((h.put b (.cells c t (.Cf k st))).put k (.Fb st)).nx<Bq from hl) j hj,Ph _ _ _ hkl j hj,Ph _ _ _ G8 j hj]
  show (if j=h.nx then _ else _)=_
  by_cases hjk:j=k
  . subst hjk
    rw [if_neg om,if_pos rfl,if_neg om,if_neg hkb,S3]
  . rw [if_neg hjk]
 generalize hh':(((h.put b (.cells c t (.Cf k st))).put k (.Fb st)).new (.cells cs t (.Gt k)))=h' at *
 have hnx:h'.nx=h.nx+1:=by rw [<- hh'];rfl
 have hlg:h'.lg=[k,b]++h.lg:=by rw [<- hh'];rfl
 have hct:∀x l t k st,x<Bq->h.m.get x=.cells l t (.Cf k st)->k<h.nx:=λx l t k st h1 h2=>(hi.N3 x k h1 (by rw [h2];rfl)).1
 have hgk:∀j,j<h.nx->j≠b->h'.m.get j=h.m.get j:=by
  intro j h1 h2
  rw [hg j om,if_neg om,if_neg h2]
 have A3O:h'.m.get k=.Fb st:=by rw [hgk k A3T hkb];exact S3
 have Ay1:∀k2 n,h.m.get k2=.Fb n->k2≠b:=by rintro k2 n h1 rfl;rw [ho] at h1;cases h1
 refine ⟨[k,b],⟨hlg,by omega,?_,?_,?_,?_,?_,⟨by omega,?_,?_,?_,?_,?_⟩,λx hx _ _=>by simp at hx;rcases hx with rfl|rfl;(rw [S3];simp);(rw [ho];simp)⟩,⟨Ip hf,?_,hs',Ae9,?_,?_,hio⟩,?_⟩
 . intro x hx
   simp at hx
   rcases hx with rfl|rfl<;>omega
 . intro x h1 h2 h3
   simp at h3
   exact hgk x h2 h3.2
 . intro x hx k2 h1 h2
   simp at hx
   rcases hx with rfl|rfl
   . rw [S3] at h2;cases h2
   . rw [ho] at h2;cases h2;simp
 . intro x k2 h1 h2 h3 h4
   have:x=h.nx:=by omega
   subst this
   rw [hg _ h3,if_pos rfl] at h4
   cases h4
   simp
 . intro x k2 h1 h2 h3
   rw [hg x h2,if_neg om] at h3
   split at h3
   . rename_i hxb;subst hxb;rw [ho];exact h3
   . exact h3
 . intro x h1 h2
   rw [hg x h2,if_neg om,if_neg om]
   exact hi.Rm x om h2
 . intro x k2 h1 h2
   rw [hg x h1] at h2
   have key:k2=k\/Ej (h.m.get x)=some k2:=by
    split at h2
    . cases h2;exact .inl rfl
    . split at h2
      . cases h2;exact .inl rfl
      . exact .inr h2
   rcases key with rfl|h3
   . exact ⟨by omega,st,A3O⟩
   . obtain ⟨g1,n,g2⟩:=hi.N3 x k2 h1 h3
     exact ⟨by omega,n,by rw [hgk k2 g1 (Ay1 k2 n g2)];exact g2⟩
 . intro x y k2 h1 h2 h3 h4
   rw [hg x h1] at h3
   rw [hg y h2] at h4
   have tr:∀z,z<Bq->M2 (if z=h.nx then .cells cs t (.Gt k) else if z=b then .cells c t (.Cf k st) else h.m.get z)=some k2->(z=h.nx/\k2=k)\/(z≠b/\M2 (h.m.get z)=some k2):=by
    intro z hz hzt
    split at hzt
    . cases hzt;exact .inl ⟨by assumption,rfl⟩
    . split at hzt
      . cases hzt
      . exact .inr ⟨by assumption,hzt⟩
   have un:∀z,z<Bq->z≠b->M2 (h.m.get z)=some k->False:=λz hz h5 h6=>h5 (hi.Gt z b k hz G8 h6 (by rw [ho];rfl))
   rcases tr x h1 h3 with ⟨q1,q2⟩|⟨q1,q2⟩<;>rcases tr y h2 h4 with ⟨r1,r2⟩|⟨r1,r2⟩
   . omega
   . subst q2;exact (un y h2 r1 r2).elim
   . subst r2;exact (un x h1 q1 q2).elim
   . exact hi.Gt x y k2 h1 h2 q2 r2
 . intro x l2 t2 k2 s2 n h1 h2 h3
   rw [hg x h1] at h2
   split at h2
   . cases h2
   . split at h2
     . cases h2;rw [A3O] at h3;cases h3;exact Nat.le_refl _
     . have q:=hct x l2 t2 k2 s2 h1 h2;obtain ⟨_,n0,q2⟩:=hi.N3 x k2 h1 (by rw [h2];rfl);rw [hgk k2 q (Ay1 k2 n0 q2)] at h3;exact hi.Tx x l2 t2 k2 s2 n h1 h2 h3
 . intro x y l2 t2 k2 s2 l3 t3 h1 h2 h3 h4;rw [hg x h1] at h3;rw [hg y h2] at h4;split at h4
   . cases h4;split at h3;. cases h3
     . split at h3;. cases h3;exact X3
       . have:=hi.len x b l2 t2 k s2 c t h1 G8 h3 ho;omega
   . split at h4;. cases h4
     . split at h3;. cases h3
       . split at h3;. cases h3;rename_i q _ _;exact absurd (hi.Gt y b k h2 G8 (by rw [h4];rfl) (by rw [ho];rfl)) q
         . exact hi.len x y l2 t2 k2 s2 l3 t3 h1 h2 h3 h4
 . intro x e1 h1 h2;unfold Gu at h2;split at h2;. omega
   . rw [h1] at h2;cases h2
 . intro j h1 h2;exact Aqv j h1 (λhh=>h2 b (by simp) e hb hh.symm)
 . intro x e1 h1 h2;unfold Gu at h2;split at h2
   . cases h2;rcases AyM with h3|h3;. exact .inl h3
     . exact .inr ⟨b,by simp,e,hb,h3.symm⟩
   . rw [h1] at h2;cases h2
 . intro x e1 hx;unfold Gu at hx;split at hx;. rename_i hxn;cases hx;subst hxn;rw [hg _ hl,if_pos rfl];exact Na
   . rename_i hxn;have X6:=hs.low x e1 hx;rw [hg x X6,if_neg hxn];obtain ⟨arr,Amz,fz,a1,a2,a3,a4⟩:=hold;have AlJ:∀(y:SE) (l2:List AV) (t2:TypeId) (k2:CK),y.c=e.c->l2.length<=c.length->(∀q,k2≠.exact/\(A5v k2->q))->Gr G σ h.m.get y w (.cells l2 t2 k2)->(Adp h'.m.get k2->Adp h.m.get k2)->Gr G (Gu σ h.nx e') h'.m.get y w' (.cells l2 t2 k2):=by intro y l2 t2 k2 hy hlen hkk Ha S7;refine ⟨Ha.1,λhv=>?_⟩;obtain ⟨ar,lo,hi2,c1,c2,c3,c4,c5,c6⟩:=Ha.2 (S7 hv);rw [hy,a1] at c1;cases c1;refine ⟨Amz,lo,hi2,by rw [hy];exact a2,by omega,c3,?_,λhh=>absurd hh (hkk False).1,λhh=>((hkk False).2 hh).elim⟩;intro i u z hu hz;have B6:=(List.getElem?_eq_some_iff.1 hu).1;rw [a4 i om] at hz;exact (c4 i u z hu hz).mono (Ip hf)
     by_cases hxb:x=b
     . subst hxb;rw [if_pos rfl];rw [hb] at hx;cases hx;have Ha:=hm x e hb;rw [ho] at Ha;have A8r:Gr G σ h.m.get e w (.cells c t (.Cf k st)):=by obtain ⟨ar,lo,hi2,c1,c2,c3,c4,c5,c6⟩:=Ha.2 trivial;exact ⟨Ha.1,λ_=>⟨ar,lo,hi2,c1,c2,c3,c4,λhh=>(by cases hh),λhh=>hh.elim⟩⟩
       exact AlJ e c t _ rfl (Nat.le_refl _) (λq=>⟨by simp,λhh=>hh.elim⟩) A8r (λ_=>S3)
     . rw [if_neg hxb];have S7:∀l2 t2 k2 s2,h.m.get x=.cells l2 t2 (.Cf k2 s2)->h'.m.get k2=.Fb s2->h.m.get k2=.Fb s2:=by intro l2 t2 k2 s2 P4 hv;have q:=hct x l2 t2 k2 s2 X6 P4;obtain ⟨_,n0,q2⟩:=hi.N3 x k2 X6 (by rw [P4];rfl);rw [hgk k2 q (Ay1 k2 n0 q2)] at hv;exact hv
       by_cases hce:e1.c=e.c
       . rcases hs.inj x b e1 e hx hb hce with h1|⟨h1,h2⟩;. exact absurd h1 hxb
         . have Ha:=hm x e1 hx;cases hxo:h.m.get x with
           |none=>trivial
           |Fb m=>rw [hxo] at Ha;have h9:e1.k=none:=Ha;rw [h1,hek] at h9;cases h9
           |map es=>rw [hxo] at Ha;have h9:=Ha.1;rw [h1,hek] at h9;cases h9
           |loop a1 a2 a3 a4 a5 a6=>rw [hxo] at Ha;have h9:=Ha.1;rw [h1,hek] at h9;cases h9
           |dfr tk=>rw [hxo] at Ha;have h9:=Ha.1;rw [h1,hek] at h9;cases h9
           |cells l2 t2 k2=>
            rw [hxo] at Ha;have Z0:Ahd k2=some k:=by rw [<- Ha.1,h1,hek]
            cases k2 with
            |exact=>cases Z0
            |Gt kx=>cases Z0;exact absurd (hi.Gt x b k X6 G8 (by rw [hxo];rfl) (by rw [ho];rfl)) hxb
            |fz kx=>cases Z0;exact absurd (hi.Gt x b k X6 G8 (by rw [hxo];rfl) (by rw [ho];rfl)) hxb
            |Cf kx s2=>cases Z0;exact AlJ e1 l2 t2 _ hce (hi.len x b l2 t2 k s2 c t X6 G8 hxo ho) (λq=>⟨by simp,λhh=>hh.elim⟩) Ha (λhv=>S7 l2 t2 k s2 hxo hv)
       . exact Gr.congr (Ip hf) (Aqv _ (hs.rng x e1 hx) hce) (λa1 a2 a3 a4 e5 e6=>S7 a1 a2 a3 a4 e5 e6) (hm x e1 hx)
end Go.Ev
