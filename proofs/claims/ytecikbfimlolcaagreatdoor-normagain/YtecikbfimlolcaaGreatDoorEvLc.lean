/- Itoa, whole. -/
import Derived.Test.YtecikbfimlolcaaGreatDoorEvLa
set_option linter.all false
set_option maxRecDepth 100000
noncomputable section
namespace Go.Nm
open Go.Ev
def B34:∀m<100,Tdd[m*2]?=some (48+m/10)/\Tdd[m*2+1]?=some (48+m%10):=by decide +kernel
abbrev u8C(c:Nat):AV:=.int .u8 (c:Int)
def Dst(pr post:List AV)(ds:List Nat)(cs:List AV)(i v:Nat):Prop:=∃mid low,cs=pr++(mid++(low.map u8C++post))/\mid.length=i/\Ao2 i v++low=ds
def Att{α:Type}(a b:List α) i x:(a++b).set (a.length+i) x=a++b.set i x:=by simp
def Dst.two{pr post:List AV}{ds:List Nat}{cs:List AV}{i v:Nat}(h:Dst pr post ds cs (i+2) v):Dst pr post ds ((cs.set (pr.length+(i+1)) (u8C (48+v%100%10))).set (pr.length+i) (u8C (48+v%100/10))) i (v/100):=by
 obtain⟨mid,low,rfl,h2,a⟩:=h;obtain⟨m1,x,y,rfl,c⟩:∃m1 x y,mid=m1++[x,y]/\m1.length=i:=by
  refine⟨mid.take i,mid[i]' om,mid[i+1]' om,?_,by grind⟩;conv=>lhs;rw[<- Dt i mid]
  rw[bc _,bc _,bi om]
 subst c;refine⟨_,(48+v%100/10)::(48+v%100%10)::low,?_,rfl,?_⟩;. simp
 .rw[<- a];show _=Ao2 ..++[48+v/10%10]++[48+v%10]++low;grind
def Dst.one{pr post}{ds}{cs}{v}(h:Dst pr post ds cs 1 v)(c:v<10):cs.set pr.length (u8C (48+v))=pr++(ds.map u8C++post):=by
 obtain⟨mid,low,rfl,h2,a⟩:=h;obtain⟨x,rfl⟩:∃x,mid=[x]:=by cases mid with
  |nil=>grind
  |cons x r=>grind
 rw[<- a];show _=pr++(([]++[48+v%10]++low).map _++post);grind
def Dst.zero{pr post}{ds}{cs}{v}(h:Dst pr post ds cs 0 v):cs=pr++(ds.map u8C++post):=by obtain⟨mid,low,rfl,h2,a⟩:=h;rw[M8.1 h2,<- a];rfl
abbrev T36:List Nat:=[48,49,50,51,52,53,54,55,56,57,97,98,99,100,101,102,103,104,105,106,107,108,109,110,111,112,113,114,115,116,117,118,119,120,121,122]
def Bw7:∀m<10,(T36.drop m).take 1=Ao2 1 m:=by decide +kernel
def Bw9:∀m<100,(Tdd.drop (m*2)).take 2=Ao2 2 m:=by decide +kernel
def Bw8:∀m<256,∃k,Lc[m]?=some k/\m<2^k/\(0<m->1<=k/\2^(k-1)<=m):=by
 have h:∀m<256,m<2^(Lc.getD m 0)/\(0<m->1<=Lc.getD m 0/\2^(Lc.getD m 0-1)<=m):=by decide +kernel
 have h2:∀m<256,Lc[m]?=some (Lc.getD m 0):=by decide +kernel
 grind
end Go.Nm
namespace Go.Proofs
open Go Go.Ev Go.Nm Tryz Go.Ev.Sx
attribute [local irreducible] Aa Al Af Ad
variable (Z cx:Ac)(N:Nat)
variable {h h1 h0:H}
def AoH k:kEq k k=true:=by cases k<;>rfl
def AtC k n(h1:k.min<=n)(h2:n<=k.max):E1 k n=n:=by unfold E1 fits;rw[Il,Il,Xn om,Xn om]
def Az9{k}{ty}{c}(a b:Nat)(d:b≠0) hh:Aj prog .rem ty c (.int k a) (.int k b) hh=.ok (.int k (a%b:Nat)) hh:=by show @Bool.rec _ _ ..=_;rw[AoH,X7,Xn om,<- Int.ofNat_tmod]
def Az8{k:IntKind}{ty}{c} a b(d:b≠0)(h1:k.min<=0)(h2:(a/b:Nat)<=k.max) hh:Aj prog .quo ty c (.int k a) (.int k b) hh=.ok (.int k (a/b:Nat)) hh:=by show @Bool.rec _ _ ..=_;rw[AoH,X7,Xn om,<- Int.ofNat_tdiv,AtC k _ (eu h1 (bj _)) h2]
def At6{k:IntKind}{ty}{c} a b(h1:k.min<=0)(h2:(a*b:Nat)<=k.max) hh:Aj prog .mul ty c (.int k a) (.int k b) hh=.ok (.int k (a*b:Nat)) hh:=by show @Bool.rec _ _ ..=_;rw[AoH,show Int.mul ..=(a*b:Nat)from(Int.natCast_mul a b).symm,AtC k _ (eu h1 (bj _)) h2]
def Am1{k:IntKind}{ty}{c} a b(h1:k.min<=0)(h2:(a+b:Nat)<=k.max) hh:Aj prog .add ty c (.int k a) (.int k b) hh=.ok (.int k (a+b:Nat)) hh:=by show @Bool.rec _ _ ..=_;rw[AoH,show Int.add ..=(a+b:Nat)from(Int.natCast_add a b).symm,AtC k _ (eu h1 (bj _)) h2]
def Beg{k}{ty}{c}(a b:Nat) hh:Aj prog .geq ty c (.int k a) (.int k b) hh=.ok (.bool (decide (b<=a))) hh:=by
 show @Bool.rec (λ_=>OR) _ (.ok (.bool (Ib _)) _) _=_;rw[AoH,Il];by_cases d:b<=a;. rw[Xn om,Ws d];rfl
 .rw[Ws om,Xn d];rfl
def A9k{k k':IntKind}(a:Nat)(h1:k'.min<=0)(h2:a<=k'.max) hh:A6r k' (.int k a) hh=.ok (.int k' a) hh:=by rw[Awb,AtC _ _ (eu h1 (bj _)) h2]
def A9c{b i}{cs}{e}{x}(c:h.m.get b=.cells cs e .exact)(hi:i<cs.length)(a:Ge x=true/\cellsOf x=some [x]):A4 1 (.ptr b i) x h=.ok (.Bj []) (h.put b (.cells (cs.set i x) e .exact)):=by simp[Adt,a.2,AiA,Auc,Awo,a.1,eh,R6,Gx,Rx,and_self,Jr];simp[c,lw,(by rw[dd,W5 hi]:cs.set i x=cs.take i++x::cs.drop _),hi];rw[W5 om];rfl
def AzP{k}{h}{s:List _}{i:Nat}{c}(hc:s[i]?=some c):xIx prog .str (.str s) (.int k i) h=.ok (.int .u8 c) h:=by show Uv _ h=_;rw[AuO,hc];rfl
def A6n{b off n cap i}{ex}(hi:i<n) hh:Gc 1 (.sl b off n cap 1 ex) (iI i) hh=.ok (.ptr b (off+i)) hh:=by rw[Agr _ _ _ _ _ _ _ _ hi,ae]
def BaH{Q:AV->H->Prop}{K:AV->AV->AV->AV->AV->AV->AV->H->OR}{b off cap i1 i2 m n:Nat}{d g t4:Int}{cs:List AV}{e:TypeId}{ex:Bool}(T:h.m.get b=.cells cs e .exact)(L:b<h.nx)(M:m<100)(e1:t4=(i1:Int)+d)(W:t4=(i2:Int)+g)(l1:i1<n)(O:i2<n)(V:n<=1000)(X:0<=d/\d<=10/\0<=g/\g<=10)(D:off+n<=cs.length)
 (hk:∀h',PG b (.cells ((cs.set (off+i1) (u8C (48+m%10))).set (off+i2) (u8C (48+m/10))) e .exact) h h'->h'.nx=h.nx->Ah h0 Q (K (iI i1) (iI i2) (.int .u32 ((m*2+1:Nat):Int)) (u8C (48+m%10)) (u8C (48+m/10)) (.ptr b (off+i1)) (.ptr b (off+i2)) h')):
 Ah h0 Q (Aa (bo .sub 3 true (iI t4) (iI d) (Ab h)) λz j=>Aa (bo .sub 3 true (iI t4) (iI g) (Ab j)) λE o=>Aa (bo .add 362 true (.int .u32 ((m*2:Nat):Int)) (.int .u32 1) (Ab o)) λB t=>Aa (xIx prog .str (.str Tdd) B (Ab t)) λC l=>Aa (xIx prog .str (.str Tdd) (.int .u32 ((m*2:Nat):Int)) (Ab l)) λw p=>Aa (Gc 1 (.sl b off n cap 1 ex) z (Ab p)) λk q=>Aa (A4 1 k C (Ab q)) λU s=>Aa (Gc 1 (.sl b off n cap 1 ex) E (Ab s)) λy f=>Aa (A4 1 y w (Ab f)) λY A=>Ff h.lg [eW 16384 16383 .all f A,eW 8192 8191 .none s f,eW 4096 2503 .all q s,eW 2048 455 .none p q,eW 1024 512 .none (Ab l) p,eZ 512 0 .none l,eW 256 192 .none t l,eW 128 64 .none (Ab o) t,eZ 64 0 .none o,eW 32 16 .none (Ab j) o,eZ 16 0 .none (Ab j),eZ 8 0 .none j,eW 4 2 .none (Ab h) j,eZ 2 0 .none (Ab h),eZ 1 0 .none h] A λr=>K z E B C w k y r):=by
 obtain⟨t1,t2⟩:=B34 m M;have R:∀a:H,bo .sub 3 true (iI t4) (iI d) a=.ok (iI i1) a:=λa=>by show Aj prog .sub 3 true (iI t4) (iI d) a=_;rw[As3,show t4-d=i1 by omega,Cr _ om om]
 have S:∀a:H,bo .sub 3 true (iI t4) (iI g) a=.ok (iI i2) a:=λa=>by show Aj prog .sub 3 true (iI t4) (iI g) a=_;rw[As3,show t4-g=i2 by omega,Cr _ om om]
 have G:∀a:H,bo .add 362 true (.int .u32 ((m*2:Nat):Int)) (.int .u32 1) a=.ok (.int .u32 ((m*2+1:Nat):Int)) a:=λa=>Am1 (m*2) 1 fe (by show((m*2+1:Nat):Int)<=4294967295;omega) a;have J:∀a:H,xIx prog .str (.str Tdd) (.int .u32 ((m*2+1:Nat):Int)) a=.ok (u8C (48+m%10)) a:=λa=>AzP t2;have P:∀a:H,xIx prog .str (.str Tdd) (.int .u32 ((m*2:Nat):Int)) a=.ok (u8C (48+m/10)) a:=λa=>AzP t1;have I:=A9c (h:=Ab (Ab (Ab (Ab (Ab (Ab (Ab h))))))) (b:=b) (i:=off+i1) (x:=u8C (48+m%10)) T om ⟨rfl,rfl⟩;refine Ey (R _) (Ey (S _) (Ey (G _) (Ey (J _) (Ey (P _) (Ey (A6n l1 _) (Ey I (Ey (A6n O _) ?_)))))));refine Ey (A9c (A2 _ _) (by rw[List.length_set];omega) ⟨rfl,rfl⟩) ?_;refine B8 ?_ ?_;. simp(disch:=first|decide|omega|(simp only[C9];omega)) [Aw,Am,Ar,Ax,L]
 .refine hk _ ?_ rfl;refine⟨Yw _,λc hc=>?_,λx F=>?_⟩
  .show(((h.put b _).put b _).m.get c)=(h.put b _).m.get c;by_cases u:c=b;. subst u;rw[A2,A2]
   simp_all
  .refine .inl ?_;rw[Ca]at F;simp(disch:=first|exact Ce|fail) only[Aw,Am,Bx,Ap,At,I3,Ia,B9,Dp,Dn,C9,Ca]at F;simp_all
variable {hd:H}{b cap n i v:Nat}{ex:Bool}{e:TypeId}{pr post cs:List AV}{ds:List Nat}
structure Buf(b:Nat)(e:TypeId)(pr post:List AV)(ds:List Nat)(n:Nat)(h hd:H)(cs:List AV)(i v:Nat):Prop where
 g:PG b (.cells cs e .exact) h hd
 lt:b<h.nx
 d:Dst pr post ds cs i v
 hn:ds.length=n
 i10:i<=n
 n10:n<=10
 vi:v<10^i
def Al6(d:Dst pr post ds cs i v):cs.length=pr.length+ds.length+post.length:=by obtain⟨mid,low,rfl,h2,a⟩:=d;rw[<- a];simp[Alh,h2];omega
def Buf.get(k:Buf b e pr post ds n h hd cs i v):hd.m.get b=.cells cs e .exact:=k.g.get k.lt
def WrQ(b:Nat)(e:TypeId)(pr post:List AV)(ds:List Nat)(h:H):AV->H->Prop:=λr h'=>r=.Bj []/\PG b (.cells (pr++(ds.map u8C++post)) e .exact) h h'
def gr0 h:Ai H0 h:=⟨Jv _,λb a=>absurd a (dx b),λx _=>.inr (Jv x)⟩
def Bov(k:Buf b e pr post ds n h hd cs i v)(hi:i<2) f0:Ah H0 (WrQ b e pr post ds h) (A3v Z N (.sl b pr.length n cap 1 ex) (iI i) (.int .u32 v) f0 hd):=by have j:=Al6 k.d;have hn:=k.hn;rw[Bmw];cases i with
|zero=>refine wk ?_;refine Lo (gr0 _) ⟨rfl,?_⟩;rw[<- k.d.zero];exact k.g
|succ i=>
 obtain rfl:i=0:=by omega
 have f:=k.vi;have c:=k.i10;refine Ey ((λa=>rfl:∀a,bo .gtr 3 true (iI (0+1)) (iI 0) a=.ok ..) _) (Zx (Ey ((λa=>Am1 _ v fe (by show(48+v:Int)<=4294967295;omega) _) _) (Ey ((λa=>A9k _ fe (by show(48+v:Int)<=255;omega) _:∀a,A6r _ _ a=.ok ..) _) (Ey (A6n c _) (Ey (A9c k.get om ⟨rfl,rfl⟩) (Lo (gr0 _) ⟨rfl,?_⟩))))));rw[<- k.d.one f];exact k.g.put _
def Bou(k:Buf b e pr post ds n h hd cs i v)(hi:i<4)(f0:L2):Ah H0 (WrQ b e pr post ds h) (A3u Z N (.sl b pr.length n cap 1 ex) (iI i) (.int .u32 v) f0 hd):=by
 have t:=k.get;have y:=Al6 k.d;have hn:=k.hn;have p:=k.i10;have f:=k.n10;rw[Bmv];by_cases h2:i<2
 .have c:∀a:H,bo .geq 3 true (iI (i:Int)) (iI 2) a=.ok (.bool false) a:=λa=>by show Aj prog .geq 3 true (iI (i:Int)) (iI 2) a=_;rw[As1,Xn om]
  refine Ey (c _) (Ae5 ?_);exact Bov Z N k h2 _
 .obtain⟨i,rfl⟩:∃j,i=j+2:=⟨i-2,by omega⟩;have u:v<10^(i+2):=k.vi;have l:v<10000:=Xq u (aq (by simp) (by omega:i+2<=4));have c:∀a:H,bo .geq 3 true (iI ((i+2:Nat):Int)) (iI 2) a=.ok (.bool true) a:=λa=>by rfl
  have q:∀a:H,bo .rem 362 true (.int .u32 (v:Int)) (.int .u32 100) a=.ok (.int .u32 ((v%100:Nat):Int)) a:=λa=>Az9 v 100 (by simp) a;have s:∀a:H,bo .mul 362 true (.int .u32 ((v%100:Nat):Int)) (.int .u32 2) a=.ok (.int .u32 ((v%100*2:Nat):Int)) a:=λa=>At6 (v%100) 2 fe (by show((v%100*2:Nat):Int)<=4294967295;omega) a;have r:∀a:H,bo .quo 362 true (.int .u32 (v:Int)) (.int .u32 100) a=.ok (.int .u32 ((v/100:Nat):Int)) a:=λa=>Az8 v 100 (by simp) fe (by show((v/100:Nat):Int)<=4294967295;omega) a;refine Ey (c _) (Zx (Ey (q _) (Ey (s _) (Ey (r _) ?_))));refine BaH (m:=v%100) (i1:=i+1) (i2:=i) t (Xq k.lt k.g.lo) om om om om om om om om λh' w x=>?_;have o:∀a:H,bo .sub 3 true (iI ((i+2:Nat):Int)) (iI 2) a=.ok (iI i) a:=λa=>by show Aj prog .sub 3 true (iI ((i+2:Nat):Int)) (iI 2) a=_;rw[As3,show((i+2:Nat):Int)-2=i by omega,Cr _ om om]
  exact Ey (o _) (Bov Z N ⟨k.g.trans w,k.lt,k.d.two,hn,by omega,f,bz (by grind)⟩ om _)
def Buf.two(k:Buf b e pr post ds n h hd cs (i+2) v){m}(a:m=v%100)(c:PG b (.cells ((cs.set (pr.length+(i+1)) (u8C (48+m%10))).set (pr.length+i) (u8C (48+m/10))) e .exact) hd h1):∃D7,Buf b e pr post ds n h h1 D7 i (v/100):=by subst a;have f:=k.vi;have:=k.i10;exact⟨_,k.g.trans c,k.lt,k.d.two,k.hn,by omega,k.n10,bz (by grind)⟩
def p3 a c(hc:0<=c/\c<=10)(d:c<=a/\a<=100) hh:bo .sub 3 true (iI a) (iI c) hh=.ok (iI (a-c)) hh:=by show Aj _ _ 3 _ _ ..=_;rw[As3,Cr _ om om]
def BqY a c hh:bo .geq 3 true (iI a) (iI c) hh=.ok (.bool (decide (c<=a))) hh:=by simp
def Bo3(k:Buf b e pr post ds n h hd cs i v)(hi:i<8)(p:Nat)(f0:L2):Ah H0 (WrQ b e pr post ds h) (AwN Z N (p+1) (.sl b pr.length n cap 1 ex) (.int .u64 v) (iI i) f0 hd):=by
 have A:=Al6 k.d;have hn:=k.hn;have o:=k.i10;have u:=k.n10;have f:=k.vi;have w:v<100000000:=Xq f (aq fe (by omega:i<=8));rw[Bdi];refine Ey (BqY _ _ _) ?_;rw[Xn om];refine Ae5 ?_;have x:∀c:H,A6r .u32 (.int .u64 (v:Int)) c=.ok (.int .u32 (v:Int)) c:=λc=>A9k v fe (by show(v:Int)<=4294967295;omega) c;refine Ey (x _) (Ey (BqY _ _ _) ?_);by_cases s:i<4;. rw[Xn om];exact Ae5 (Bou Z N k s _)
 .obtain⟨i,rfl⟩:∃j,i=j+2+2:=⟨i-4,by omega⟩;rw[Ws om];refine Zx ?_;refine Ey (Az9 v 10000 fe _) (Ey (Az8 v 10000 fe fe (by show((v/10000:Nat):Int)<=4294967295;omega) _) (Ey (Az8 (v%10000) 100 fe fe (by show((v%10000/100:Nat):Int)<=4294967295;omega) _) (Ey (At6 (v%10000/100) 2 fe (by show((v%10000/100*2:Nat):Int)<=4294967295;omega) _) (Ey (Az9 (v%10000) 100 fe _) (Ey (At6 (v%10000%100) 2 fe (by show((v%10000%100*2:Nat):Int)<=4294967295;omega) _) ?_)))));refine BaH (m:=v%10000%100) (i1:=i+2+1) (i2:=i+2) k.get (Xq k.lt k.g.lo) om om om om om om om om λh' t C=>?_;obtain⟨q,a⟩:=k.two om t;have B:=Al6 a.d;refine BaH (m:=v%10000/100) (i1:=i+1) (i2:=i) a.get (Xq a.lt a.g.lo) om om om om om om om om λD l z=>?_;obtain⟨r,y⟩:=a.two om l;refine Ey (p3 _ _ om om _) ?_;rw[show((i+2+2:Nat):Int)-4=(i:Int)by omega,show v/10000=v/100/100 by omega];exact Bou Z N y om _
def BvT(k:Buf b e pr post ds n h hd cs i v)(q:Nat)(f0:L2):Ah H0 (WrQ b e pr post ds h) (AwN Z N (q+2) (.sl b pr.length n cap 1 ex) (.int .u64 v) (iI i) f0 hd):=by
 have I:=Al6 k.d;have hn:=k.hn;have o:=k.i10;have A:=k.n10;by_cases E:i<8
 .exact Bo3 Z N k E _ f0
 obtain⟨i,rfl⟩:∃j,i=j+2+2+2+2:=⟨i-8,by omega⟩;have z:v<10000000000:=Xq k.vi (aq fe (by omega:i+2+2+2+2<=10));rw[Bdi];refine Ey (BqY _ _ _) ?_;rw[Ws om];refine Zx ?_;refine Ey (Az9 v 100000000 fe _) (Ey (A9k (v%100000000) fe (by show((v%100000000:Nat):Int)<=4294967295;omega) _) (Ey (Az8 v 100000000 fe fe (by show((v/100000000:Nat):Int)<=18446744073709551615;omega) _) ?_));obtain⟨w,D⟩:∃w,w=v%100000000:=⟨_,rfl⟩;rw[<- D];refine Ey (Az8 w 10000 fe fe (by show((w/10000:Nat):Int)<=4294967295;omega) _) (Ey (Az9 w 10000 fe _) (Ey (Az8 (w%10000) 100 fe fe (by show((w%10000/100:Nat):Int)<=4294967295;omega) _) (Ey (At6 (w%10000/100) 2 fe (by show((w%10000/100*2:Nat):Int)<=4294967295;omega) _) (Ey (Az9 (w%10000) 100 fe _) (Ey (At6 (w%10000%100) 2 fe (by show((w%10000%100*2:Nat):Int)<=4294967295;omega) _) ?_)))));refine Ey (Az8 (w/10000) 100 fe fe (by show((w/10000/100:Nat):Int)<=4294967295;omega) _) (Ey (At6 (w/10000/100) 2 fe (by show((w/10000/100*2:Nat):Int)<=4294967295;omega) _) (Ey (Az9 (w/10000) 100 fe _) (Ey (At6 (w/10000%100) 2 fe (by show((w/10000%100*2:Nat):Int)<=4294967295;omega) _) ?_)));refine BaH (m:=w%10000%100) (i1:=i+2+2+2+1) (i2:=i+2+2+2) k.get (Xq k.lt k.g.lo) om om om om om om om om λh' y M=>?_;obtain⟨s,f⟩:=k.two om y;have L:=Al6 f.d;refine BaH (m:=w%10000/100) (i1:=i+2+2+1) (i2:=i+2+2) f.get (Xq f.lt f.g.lo) om om om om om om om om λQ l G=>?_;obtain⟨x,c⟩:=f.two om l;have p:=Al6 c.d;refine BaH (m:=w/10000%100) (i1:=i+2+1) (i2:=i+2) c.get (Xq c.lt c.g.lo) om om om om om om om om λO F J=>?_;obtain⟨t,a⟩:=c.two om F;have r:=Al6 a.d;refine BaH (m:=w/10000/100) (i1:=i+1) (i2:=i) a.get (Xq a.lt a.g.lo) om om om om om om om om λP C K=>?_;obtain⟨B,u⟩:=a.two om C;refine Ey (p3 _ _ om om _) ?_;rw[show((i+2+2+2+2:Nat):Int)-8=(i:Int)by omega,show v/100000000=v/100/100/100/100 by omega];exact Bo3 Z N u om _ _
def BtK:Prop:=∀(b n v cap:Nat) (ex:Bool) (e:TypeId) (pr mid post:List AV) (h:H),h.m.get b=.cells (pr++(mid++post)) e .exact->b<h.nx->mid.length=n->n<=10->v<10^n ->
 AjT b (.cells (pr++((Ao2 n v).map u8C++post)) e .exact) h (λr _=>r=.Bj []) (Z.call 293 [.sl b pr.length n cap 1 ex,.int .u64 v] h)
def B3t(l:2<N){mid}(j:h.m.get b=.cells (pr++(mid++post)) e .exact)(c:b<h.nx)(f:mid.length=n)(hn:n<=10)(k:v<10^n):
 AjT b (.cells (pr++((Ao2 n v).map u8C++post)) e .exact) h (λr _=>r=.Bj []) (Ay prog Z N false 293 [.sl b pr.length n cap 1 ex,.int .u64 v] h):=by obtain⟨a,rfl⟩:∃a,N=a+2:=⟨N-2,by omega⟩;rw[BzP];exact AeN (Ey rfl ((BvT Z _ ⟨PG.refl j,c,⟨_,[],rfl,f,by simp⟩,Alh ..,Yw _,hn,k⟩ ..).mono λr h' _ ⟨d,g⟩=>⟨g,d⟩))
def Bk1{k k'}{ty}{c}(a s:Nat) hh:Aj prog .shr ty c (.int k a) (.int k' s) hh=.ok (.int k (a/2^min s k.bits:Nat)) hh:=rfl
def A9Z(v k:Nat):Prop:=1<=k/\k<=32/\2^(k-1)<=v/\v<2^k
def AwW{v s k}(h:A9Z (v/2^s) k)(a:s+k<=32):A9Z v (s+k):=by
 have⟨_,_,c,d⟩:=h;refine⟨by omega,a,?_,?_⟩;. have:=(Nat.le_div_iff_mul_le (Nat.pow_pos (by grind))).1 c;rw[show s+k-1=k-1+s by omega,Nat.pow_add];grind
 .have:=(Nat.div_lt_iff_lt_mul (Nat.pow_pos (by omega))).1 d;grind
def BnN{v}(g:v<256)(h0:0<v):∃k,A9Z v k/\k<=8/\∀a,xIx prog .str (.str Lc) (.int .u8 v) a=.ok (.int .u8 k) a:=by
 have⟨k,h1,h2,f⟩:=Bw8 v g;have⟨j,d⟩:=f h0;have c:k<=8:=by
  have:2^(k-1)<2^8:=by omega
  have:=(ap (by simp)).1 this;omega
 exact⟨k,⟨j,by omega,d,h2⟩,c,λa=>AzP h1⟩
def BtN:Prop:=∀(v:Nat) (h:H),0<v->v<4294967296->Ah h (λr _=>∃k:Nat,r=iI (k:Int)/\A9Z v k) (Z.call 316 [.int .u64 v] h)
def Bow{c:Nat}(h0:0<v)(j:v<65536)(hc:c=0\/c=16)(f0:L2):Ah h (λr _=>∃k,r=iI ((c+k:Nat):Int)/\k<=16/\A9Z v k) (A3w Z N (.int .u64 v) (iI c) f0 h):=by
 rw[Bmz];refine Ey (Beg v 256 _) ?_;by_cases f:256<=v;. rw[Ws f];obtain⟨k,a,g,d⟩:=BnN (v:=v/2^8) om om;refine Zx (Ey (Bk1 v 8 _) ?_);rw[show min 8 (IntKind.bits .u64)=8 from rfl];refine Ey (Am1 (k:=.i64) c 8 fe (by show((c+8:Nat):Int)<=9223372036854775807;omega) _) ?_;refine Ey (A9k (v/2^8) fe (by show((v/2^8:Nat):Int)<=255;omega) _) (Ey (d _) ?_);refine Ey (A9k k fe (by show(k:Int)<=9223372036854775807;omega) _) ?_;refine Ey (Am1 (k:=.i64) (c+8) k fe (by show((c+8+k:Nat):Int)<=9223372036854775807;omega) _) ?_;exact Lo (Ai.refl h) ⟨8+k,by grind,by omega,AwW a om⟩
 .rw[Xn f];obtain⟨k,a,g,d⟩:=BnN (v:=v) om om;refine Ae5 (Ey (A9k v fe (by show(v:Int)<=255;omega) _) (Ey (d _) ?_));exact Ey (A9k k fe (by show(k:Int)<=9223372036854775807;omega) _) (Ey (Am1 c k fe (by show(c+k:Int)<=9223372036854775807;omega) _) (Lo (Ai.refl h) ⟨k,rfl,by omega,a⟩))
def B3w(h0:0<v)(f:v<4294967296):Ah h (λr _=>∃k:Nat,r=iI k/\A9Z v k) (Ay prog Z N true 316 [.int .u64 v] h):=by
 rw[BzU];apply Ey (Beg v 4294967296 _);rw[Xn om];apply Ae5;rw[Bmy];apply Ey (Beg v ..);by_cases c:65536<=v;. rw[Ws c];refine Zx (Ey (Bk1 v ..) ?_);rw[show min ..=16 from rfl];refine Ey (Am1 0 _ fe (by simp) _) ((Bow Z N om om (.inr rfl) _).mono λr h1 _ ⟨k,d,_,a⟩=>⟨_,d,AwW a om⟩)
 .rw[Xn c];refine Ae5 ((Bow Z N om om (.inl rfl) _).mono λr h1 _ ⟨k,_,_,a⟩=>⟨k,by grind,a⟩)
def est(k:Nat):Nat:=k*78913/262144
def Bo6{D v}(f:v<=1000000000)(h1:10^D<=v)(h2:v<10^(D+1)):nd v=D+1:=by
 rcases Aqg v f with⟨d,a⟩|⟨E,d,_,_,a,c⟩
 .have:10^D<10^1:=by omega
  have:=(ap (by simp)).1 this;omega
 .have a1:=(ap (by omega)).1 (Nat.lt_of_le_of_lt h1 c);have a2:=(ap (by simp)).1 (Nat.lt_of_le_of_lt a h2);omega
def BqR{v k:Nat}(g:A9Z v k)(f:v<=1000000000):∃p:Nat,Bkd[est k]?=some (p:Int)/\est k<=10/\nd v=est k+(if p<=v then 1 else 0):=by
 obtain⟨h1,h2,o,s⟩:=g;have j:k<31:=by
  have:2^(k-1)<2^30:=by omega
  have:=(ap (by decide:1<2)).1 this;omega
 have d:∀k<31,1<=k->2^k<=10^(est k+1)/\(est k=0\/10^(est k-1)<=2^(k-1))/\est k<=9/\Bkd[est k]?=some ((10^est k:Nat):Int):=by decide +kernel
 obtain⟨r,a,q,m⟩:=d k j h1;refine⟨_,m,by omega,?_⟩;by_cases c:10^est k<=v;. rw[W5 c,Bo6 f c om]
 .rw[X2 c];rcases a with a|a;. simp_all
  .obtain⟨e,l⟩:∃e,est k=e+1:=by
    refine⟨est k-1,?_⟩;have:est k≠0:=λh0=>by simp_all
    omega
   rw[l]at c a ⊢;exact Bo6 f (Vr a o) om
def ArA:∀s,(∀c∈s,c<256)->Yj (s.map u8C)=some s
|[],_=>rfl
|c::s,h=>by
 have d:=ArA s λx a=>h x (Vo _ a);have hc:Xf (u8C c)=some c:=by show @Bool.rec _ _ ..=_;rw[show Nat.blt c _=true by simp[*]]
 show(match Xf _,Yj _ with|some n,some r=>some _|_,_=>none)=_;grind
def BtM:Prop:=∀(k:Nat) (h:H),k<=32->Ah h (λr _=>r=iI (est k:Nat)) (Z.call 315 [iI k] h)
def B3v{k}(a:k<=32):Ah h (λr _=>r=iI (est k)) (Ay prog Z N true 315 [iI k] h):=by rw[BzT];exact Ey (At6 k _ fe (by show(k*78913:Int)<=9223372036854775807;omega) _) (Ey (Bk1 _ ..) (Lo (Ai.refl h) rfl))
def BtO:Prop:=∀(b:Bool) (h:H),Ah h (λr _=>r=iI ((if b=true then 1 else 0:Nat):Int)) (Z.call 317 [.bool b] h)
def B3x b:Ah h (λr _=>r=iI (if b=true then 1 else 0:Nat)) (Ay prog Z N true 317 [.bool b] h):=by
 cases b;. exact Ae5 (Lo (Ai.refl h) rfl)
 .exact Zx (Lo (Ai.refl h) rfl)
def BtJ:Prop:=∀(v:Nat) (h:H),0<v->v<=1000000000->AeZ h->Ah h (λr _=>r=iI (nd v:Nat)) (Z.call 292 [.int .u64 v] h)
def B3s(j:BtN Z)(d:BtM Z)(f:BtO Z)(h0:0<v)(A:v<=1000000000)(l:AeZ h):Ah h (λr _=>r=iI (nd v:Nat)) (Ay prog Z N true 292 [.int .u64 v] h):=by
 rw[BzO];refine Fj (j v h h0 om) λJ h1 e1 l1 w F=>?_;obtain⟨k,rfl,m⟩:=F;obtain⟨p,E,I,p3⟩:=BqR m A;refine Fj (d k h1 m.2.1) λL h2 u K t q=>?_;subst q;have c:=e1.trans u;have D:=(l.gr c).g;have C:∀a:H,AxM 20 1 (.ptr 2 0) (iI ((est k:Nat):Int)) a=.ok (.ptr 2 (est k)) a:=λa=>by show iaA (.ptr 2 0) 20 (est k) 1 a=_;show(@Bool.rec (λ_=>OR) (.bad 90) (.ok (.ptr 2 (0+est k*1)) a) (Nat.blt (est k) 20):OR)=_;rw[show Nat.blt (est k) 20=true by simp;omega,ae,Rx]
 have c2:Nv h2 2 (Bkd.map λx=>AV.int .u64 x):=⟨(l.gr c).lt,_,_,D,trivial⟩;have y:=c2.one (o:=est k) (x:=.int .u64 (p:Int)) (by rw[Cn,E];rfl);refine Ey (C _) (Ey (y h2 (Bi.refl _)) (Ey (Beg v p _) ?_));refine Fj (f _ h2) λM O s G z B=>?_;subst B;refine Ey (Am1 (k:=.i64) (est k) _ fe (by show((est k+(if decide (p<=v)=true then 1 else 0):Nat):Int)<=9223372036854775807;split<;>omega) _) ?_;refine Lo (c.trans s) ?_;rw[p3];simp
def BtI:Prop:=∀(v:Nat) (h:H),v<100->Ah h (λr _=>r=.str (V8 v)) (Z.call 291 [iI v] h)
def B3r(a:v<100):Ah h (λr _=>r=.str (V8 v)) (Ay prog Z N true 291 [iI v] h):=by
 rw[BzN];refine Ey (Hf ..) ?_;by_cases d:v<10;. rw[Ws om];refine Zx (Ey (Am1 (k:=.i64) v 1 fe (by show((v+1:Nat):Int)<=9223372036854775807;omega) _) ?_);refine Ey (Aji xi9 om (by show v+1<=36;omega) _) ?_;refine Lo (Ai.refl h) ?_;rw[show v+1-v=1 by omega,Bw7 v d];show _=AV.str (Ao2 (nd v) v);unfold nd;grind
 .rw[Xn om];refine Ae5 ?_;have y:=At6 (k:=.i64) (ty:=3) (c:=true) v 2 fe (by show((v*2:Nat):Int)<=9223372036854775807;omega);refine Ey (y _) (Ey (y _) (Ey (Am1 (k:=.i64) (v*2) 2 fe (by show((v*2+2:Nat):Int)<=9223372036854775807;omega) _) ?_));refine Ey (Aji xi9 om (by show v*2+2<=200;omega) _) ?_;refine Lo (Ai.refl h) ?_;rw[show v*2+2-v*2=2 by omega,Bw9 v a];show _=AV.str (Ao2 (nd v) v);unfold nd;grind
def BoI b:∀D,D<=10->∀a,xSl prog 340 (.ptr b 0) (some (iI 1)) (some (iI (1+D:Nat))) a=.ok (.sl b 1 D 23 1 true) a
|0,_,a=>by kernel_rfl
|1,_,a=>by kernel_rfl
|2,_,a=>by kernel_rfl
|3,_,a=>by kernel_rfl
|4,_,a=>by kernel_rfl
|5,_,a=>by kernel_rfl
|6,_,a=>by kernel_rfl
|7,_,a=>by kernel_rfl
|8,_,a=>by kernel_rfl
|9,_,a=>by kernel_rfl
|10,_,a=>by kernel_rfl
|D+11,c,_=>absurd c om
def Bwa{v}(d:v<=1000000000):1<=nd v/\nd v<=10/\v<10^nd v:=by
 rcases Aqg v d with⟨c,a⟩|⟨E,c,f,j,a,g⟩;. simp_all
 grind
def Bip pr mid post:Nf (pr++(mid++post)) pr.length mid.length=some mid:=by rw[E5,W5 (by simp),di,eb]
def BkD{b D cap}{ex}{e}{pr post}{s}(d:h.m.get b=.cells (pr++(s.map u8C++post)) e .exact)(f:D=s.length)(a:∀c∈s,c<256):Bs6 (.sl b pr.length D cap 1 ex) h=.ok (.str s) h:=by
 show(match h.rd b with
  |some c=>match Nf c _ D with
   |some _=>match Yj _ with|some s=>.ok _ h|none=>.bad _
   |none=>.bad _
  |none=>.bad _:OR)=_;rw[(by rw[AaS,d];rfl:h.rd b=some _),f,show s.length=(s.map u8C).length by simp];simp only[Bip,ArA s a]
def BtF:Prop:=∀(v:Nat) (h:H),v<=1000000000->AeZ h->Ah h (λr _=>r=.str (V8 v)) (Z.call 260 [iI v,iI 10] h)
def B3n(l:BtI Z)(g:BtJ Z)(s:BtK Z)(u:v<=1000000000)(y:AeZ h):Ah h (λr _=>r=.str (V8 v)) (Ay prog Z N true 260 [iI v,iI 10] h):=by
 rw[BzI];by_cases d:v<100;. have A:decide ((v:Int)<100)=true:=dt;have J:decide ((0:Int)<=(v:Int))=true:=dt;have I:decide (v<100)=true:=Ws d;have hc:=λa=>l v a d;refine wk ?_;refine Fj (hc _) λC h1 e1 l1 B G=>?_;subst G;exact zr e1 rfl
 .have A:decide ((v:Int)<100)=false:=df;have J:decide ((0:Int)<=(v:Int))=true:=dt;have I:decide (v<100)=false:=Xn d;have Q:decide ((v:Int)<0)=false:=df;have S:∀a:H,A6r .u64 (iI (v:Int)) a=.ok (.int .u64 (v:Int)) a:=λa=>A9k v fe (by show(v:Int)<=18446744073709551615;omega) a;refine wk ?_;have p:AeZ (h.new (.cells [(.int .u8 0),(.int .u8 0),(.int .u8 0),(.int .u8 0),(.int .u8 0),(.int .u8 0),(.int .u8 0),(.int .u8 0),(.int .u8 0),(.int .u8 0),(.int .u8 0),(.int .u8 0),(.int .u8 0),(.int .u8 0),(.int .u8 0),(.int .u8 0),(.int .u8 0),(.int .u8 0),(.int .u8 0),(.int .u8 0),(.int .u8 0),(.int .u8 0),(.int .u8 0),(.int .u8 0)] 340 .exact)):=y.gr ((Ai.refl h).new _);have o:(h.new (.cells [(.int .u8 0),(.int .u8 0),(.int .u8 0),(.int .u8 0),(.int .u8 0),(.int .u8 0),(.int .u8 0),(.int .u8 0),(.int .u8 0),(.int .u8 0),(.int .u8 0),(.int .u8 0),(.int .u8 0),(.int .u8 0),(.int .u8 0),(.int .u8 0),(.int .u8 0),(.int .u8 0),(.int .u8 0),(.int .u8 0),(.int .u8 0),(.int .u8 0),(.int .u8 0),(.int .u8 0)] 340 .exact)).m.get h.nx=.cells ([u8C 0]++(List.replicate 23 (u8C 0))) 340 .exact:=Bf _;have E:Ai h (h.new (.cells [(.int .u8 0),(.int .u8 0),(.int .u8 0),(.int .u8 0),(.int .u8 0),(.int .u8 0),(.int .u8 0),(.int .u8 0),(.int .u8 0),(.int .u8 0),(.int .u8 0),(.int .u8 0),(.int .u8 0),(.int .u8 0),(.int .u8 0),(.int .u8 0),(.int .u8 0),(.int .u8 0),(.int .u8 0),(.int .u8 0),(.int .u8 0),(.int .u8 0),(.int .u8 0),(.int .u8 0)] 340 .exact)):=(Ai.refl h).new _;have R:h.nx+1=(h.new (.cells [(.int .u8 0),(.int .u8 0),(.int .u8 0),(.int .u8 0),(.int .u8 0),(.int .u8 0),(.int .u8 0),(.int .u8 0),(.int .u8 0),(.int .u8 0),(.int .u8 0),(.int .u8 0),(.int .u8 0),(.int .u8 0),(.int .u8 0),(.int .u8 0),(.int .u8 0),(.int .u8 0),(.int .u8 0),(.int .u8 0),(.int .u8 0),(.int .u8 0),(.int .u8 0),(.int .u8 0)] 340 .exact)).nx:=rfl;generalize h.new (.cells [(.int .u8 0),(.int .u8 0),(.int .u8 0),(.int .u8 0),(.int .u8 0),(.int .u8 0),(.int .u8 0),(.int .u8 0),(.int .u8 0),.int _ 0,.int _ 0,.int _ 0,.int _ 0,.int _ 0,.int _ 0,.int _ 0,.int _ 0,.int _ 0,.int _ 0,.int _ 0,.int _ 0,.int _ 0,.int _ 0,.int _ 0] ..)=h2 at *;rw[Bmu];refine Fj (g v _ om u p) λC K z L j F=>?_;subst F;have⟨d1,d2,d3⟩:=Bwa u;have⟨D,t⟩:∃D,D=nd v:=⟨_,rfl⟩;rw[<- t]at d1 d2 d3 ⊢;have w:=Am1 (k:=.i64) (ty:=3) (c:=true) 1 D fe (by show(1+D:Int)<=9223372036854775807;omega);refine Ey (w _) (Ey (BoI _ D d2 _) ?_);have f:K.m.get h.nx=.cells ([u8C 0]++(List.replicate D (u8C 0)++List.replicate (23-D) (u8C 0))) 340 .exact:=by rw[j _ om,o,List.replicate_append_replicate,show D+(23-D)=23 by omega]
  refine zu1 (s _ D v _ _ _ _ _ _ _ f om (by simp) d2 d3) λM P e4 O x q T=>(Ey ((λa=>rfl:∀a,bo .lss 2 true (iI v) (iI 0) a=.ok ..) _) (Ae5 (Ey (w _) (Ey (BoI _ D d2 _) (Ey (BkD (q om) (by rw[Alh]) λc hc=>?_) ?_)))));. have:=Axd D v c hc;omega
  apply Lo (PG.own (E.trans z) e4 (Yw _));rw[t];rfl
def BtD:Prop:=∀(v:Nat) (h:H),v<=1000000000->AeZ h->Ah h (λr _=>r=.str (V8 v)) (Z.call 226 [iI v] h)
def B3g(a:BtF Z)(g:v<=1000000000)(d:AeZ h):Ah h (λr _=>r=.str (V8 v)) (Ay prog Z N true 226 [iI v] h):=by rw[Bz9];refine Fj (a v h g d) λj h1 e1 l1 f c=>?_;subst c;exact zr e1 rfl
def B2R(a:BtD Z){n}(hn:Num n)(d:AeZ h):Ah h (λr _=>r=.str (V8 n)) (Ay prog Z N true 170 [iI n] h):=by obtain⟨v,rfl⟩:∃v:Nat,n=v:=⟨_,(Qy hn.1).symm⟩;rw[Bzu];refine Fj (a v h (by have:=hn.2;omega) d) λg h1 e1 l1 f c=>?_;subst c;exact zr e1 rfl
end Go.Proofs
