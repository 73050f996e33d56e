/- Itoa, whole. -/
import Derived.Test.YtmjmhajonaelcaaGreatDoorEvLa
set_option linter.all false
set_option maxRecDepth 100000
noncomputable section
namespace Go.Nm
open Go.Ev
def B34:∀m<100,Tdd[m*2]?=some (48+m/10)/\Tdd[m*2+1]?=some (48+m%10):=by decide +kernel
abbrev u8C(c:Nat):AV:=cw (c:Int)
def Dst(pr post:uw)(ds:uq)(cs:uw)(i v:Nat):Prop:=∃a low,cs=pr++(a++(low.map u8C++post))/\a.length=i/\Ao2 i v++low=ds
def Att{α:Type}(a b:List α) i x:(a++b).set (a.length+i) x=a++b.set i x:=by simp
def Dst.two{pr post:uw}{ds:uq}{cs:uw}{i v:Nat}(h:Dst pr post ds cs (i+2) v):Dst pr post ds ((cs.set (pr.length+(i+1)) (u8C (48+v%100%10))).set (pr.length+i) (u8C (48+v%100/10))) i (v/100):=by
 obtain⟨a,low,rfl,f,d⟩:=h;obtain⟨m1,x,y,rfl,c⟩:∃m1 x y,a=m1++[x,y]/\m1.length=i:=by
  refine⟨a.take i,a[i]' om,a[i+1]' om,?_,by grind⟩;conv=>lhs;rw[<- Dt i a]
  rw[bc _,bc _,Ts om]
 subst c;refine⟨_,(48+v%100/10)::(48+v%100%10)::low,?_,rfl,?_⟩;. simp
 .rw[<- d];show _=Ao2 ..++[48+v/10%10]++[48+v%10]++low;grind
def Dst.one{pr post}{ds}{cs}{v}(h:Dst pr post ds cs 1 v)(d:v<10):cs.set pr.length (u8C (48+v))=pr++(ds.map u8C++post):=by
 obtain⟨a,low,rfl,f,c⟩:=h;obtain⟨x,rfl⟩:∃x,a=[x]:=by cases a with
  |nil=>grind
  |cons x r=>grind
 rw[<- c];show _=pr++(([]++[48+v%10]++low).map _++post);grind
def Dst.zero{pr post}{ds}{cs}{v}(h:Dst pr post ds cs 0 v):cs=pr++(ds.map u8C++post):=by obtain⟨c,low,rfl,a,d⟩:=h;rw[Vz.1 a,<- d];rfl
abbrev T36:uq:=wz
def Bw7:∀m<10,(T36.drop m).take 1=Ao2 1 m:=by decide +kernel
def Bw9:∀m<100,(Tdd.drop (m*2)).take 2=Ao2 2 m:=by decide +kernel
def Bw8:∀m<256,∃k,Lc[m]?=some k/\m<2^k/\(0<m->1<=k/\2^(k-1)<=m):=by
 have h:∀m<256,m<2^(Lc.getD m 0)/\(0<m->1<=Lc.getD m 0/\2^(Lc.getD m 0-1)<=m):=by decide +kernel
 have a:∀m<256,Lc[m]?=some (Lc.getD m 0):=by decide +kernel
 grind
end Go.Nm
namespace Go.Proofs
open Go Go.Ev Go.Nm Tryz Go.Ev.Sx
attribute [local irreducible] Aa Al Af Ad
variable (Z cx:Ac)(N:Nat)
variable {h h1 h0:H}
def AoH k:kEq k k=true:=by cases k<;>rfl
def AtC k n(h1:k.min<=n)(a:n<=k.max):E1 k n=n:=by unfold E1 fits;rw[Il,Il,Yc om,Yc om]
def Az9{k}{ty}{c}(a b:Nat)(d:b≠0) hh:Aj prog .rem ty c (.int k a) (.int k b) hh=.ok (.int k (a%b:Nat)) hh:=by show @Bool.rec _ _ ..=_;rw[AoH,X7,Yc om,<- Int.ofNat_tmod]
def Az8{k:IntKind}{ty}{c} a b(f:b≠0)(h1:k.min<=0)(d:(a/b:Nat)<=k.max) hh:Aj prog .quo ty c (.int k a) (.int k b) hh=.ok (.int k (a/b:Nat)) hh:=by show @Bool.rec _ _ ..=_;rw[AoH,X7,Yc om,<- Int.ofNat_tdiv,AtC k _ (eu h1 (bj _)) d]
def At6{k:IntKind}{ty}{c} a b(h1:k.min<=0)(d:(a*b:Nat)<=k.max) hh:Aj prog .mul ty c (.int k a) (.int k b) hh=.ok (.int k (a*b:Nat)) hh:=by show @Bool.rec _ _ ..=_;rw[AoH,show Int.mul ..=(a*b:Nat)from(Int.natCast_mul a b).symm,AtC k _ (eu h1 (bj _)) d]
def Am1{k:IntKind}{ty}{c} a b(h1:k.min<=0)(d:(a+b:Nat)<=k.max) hh:Aj prog .add ty c (.int k a) (.int k b) hh=.ok (.int k (a+b:Nat)) hh:=by show @Bool.rec _ _ ..=_;rw[AoH,show Int.add ..=(a+b:Nat)from(Int.natCast_add a b).symm,AtC k _ (eu h1 (bj _)) d]
def Beg{k}{ty}{c}(a b:Nat) hh:Aj prog .geq ty c (.int k a) (.int k b) hh=.ok (.bool (decide (b<=a))) hh:=by
 show @Bool.rec (λ_=>OR) _ (.ok (.bool (Ib _)) _) _=_;rw[AoH,Il];by_cases d:b<=a;. rw[Yc om,Ws d];rfl
 .rw[Ws om,Yc d];rfl
def A9k{k k':IntKind}(a:Nat)(h1:k'.min<=0)(c:a<=k'.max) hh:A6r k' (.int k a) hh=.ok (.int k' a) hh:=by rw[Awb,AtC _ _ (eu h1 (bj _)) c]
def A9c{b i}{cs}{e}{x}(c:h.m.get b=cz cs e)(hi:i<cs.length)(a:Ge x=true/\cellsOf x=some [x]):A4 1 (.ptr b i) x h=.ok (.Bj []) (h.put b (cz (cs.set i x) e)):=by simp[Adt,a.2,AiA,Auc,Awo,a.1,eh,Y7,Gx,Rx,Qg,Jr];simp[c,lw,(by rw[Tz,Xo hi]:cs.set i x=cs.take i++x::cs.drop _),hi];rw[Xo om];rfl
def AzP{k}{h}{s:List _}{i:Nat}{c}(hc:s[i]?=some c):xIx prog .str (.str s) (.int k i) h=.ok (cw c) h:=by show Uv _ h=_;rw[AuO,hc];rfl
def A6n{b off n cap i}{ex}(hi:i<n) hh:Gc 1 (.sl b off n cap 1 ex) (iI i) hh=.ok (.ptr b (off+i)) hh:=by rw[Agr _ _ _ _ _ _ _ _ hi,ae]
def BaH{Q:AV->H->Prop}{K:AV->AV->AV->AV->AV->AV->AV->H->OR}{b off cap i1 i2 m n:Nat}{f k2 d:Int}{cs:uw}{e:TypeId}{ex:Bool}(M:h.m.get b=cz cs e)(J:b<h.nx)(T:m<100)(e1:d=(i1:Int)+f)(X:d=(i2:Int)+k2)(l1:i1<n)(U:i2<n)(Y:n<=1000)(W:0<=f/\f<=10/\0<=k2/\k2<=10)(C:off+n<=cs.length)
 (hk:∀h',PG b (cz ((cs.set (off+i1) (u8C (48+m%10))).set (off+i2) (u8C (48+m/10))) e) h h'->h'.nx=h.nx->Ah h0 Q (K (iI i1) (iI i2) (.int .u32 ((m*2+1:Nat):Int)) (u8C (48+m%10)) (u8C (48+m/10)) (.ptr b (off+i1)) (.ptr b (off+i2)) h')):
 Ah h0 Q (Aa (bo .sub 3 true (iI d) (iI f) (Ab h)) λz k=>Aa (bo .sub 3 true (iI d) (iI k2) (Ab k)) λw l=>Aa (bo .add 226 true (.int .u32 ((m*2:Nat):Int)) (.int .u32 1) (Ab l)) λB q=>Aa (xIx prog .str (.str Tdd) B (Ab q)) λA o=>Aa (xIx prog .str (.str Tdd) (.int .u32 ((m*2:Nat):Int)) (Ab o)) λy r=>Aa (Gc 1 (.sl b off n cap 1 ex) z (Ab r)) λj s=>Aa (A4 1 j A (Ab s)) λI t=>Aa (Gc 1 (.sl b off n cap 1 ex) w (Ab t)) λF g=>Aa (A4 1 F y (Ab g)) λJm E=>Ff h.lg [eW 16384 16383 .all g E,eW 8192 8191 .none t g,eW 4096 2503 .all s t,eW 2048 455 .none r s,eW 1024 512 .none (Ab o) r,eZ 512 0 .none o,eW 256 192 .none q o,eW 128 64 .none (Ab l) q,eZ 64 0 .none l,eW 32 16 .none (Ab k) l,eZ 16 0 .none (Ab k),eZ 8 0 .none k,eW 4 2 .none (Ab h) k,eZ 2 0 .none (Ab h),eZ 1 0 .none h] E λu=>K z w B A y j F u):=by
 obtain⟨R,G⟩:=B34 m T;have L:∀a:H,bo .sub 3 true (iI d) (iI f) a=.ok (iI i1) a:=λa=>by show Aj prog .sub 3 true (iI d) (iI f) a=_;rw[As3,show d-f=i1 by omega,Cr _ om om]
 have V:∀a:H,bo .sub 3 true (iI d) (iI k2) a=.ok (iI i2) a:=λa=>by show Aj prog .sub 3 true (iI d) (iI k2) a=_;rw[As3,show d-k2=i2 by omega,Cr _ om om]
 have O:∀a:H,bo .add 226 true (.int .u32 ((m*2:Nat):Int)) (.int .u32 1) a=.ok (.int .u32 ((m*2+1:Nat):Int)) a:=λa=>Am1 (m*2) 1 fe (by show((m*2+1:Nat):Int)<=4294967295;omega) a;have S:∀a:H,xIx prog .str (.str Tdd) (.int .u32 ((m*2+1:Nat):Int)) a=.ok (u8C (48+m%10)) a:=λa=>AzP G;have P:∀a:H,xIx prog .str (.str Tdd) (.int .u32 ((m*2:Nat):Int)) a=.ok (u8C (48+m/10)) a:=λa=>AzP R;have z1:=A9c (h:=Ab (Ab (Ab (Ab (Ab (Ab (Ab h))))))) (b:=b) (i:=off+i1) (x:=u8C (48+m%10)) M om ⟨rfl,rfl⟩;refine Ey (L _) (Ey (V _) (Ey (O _) (Ey (S _) (Ey (P _) (Ey (A6n l1 _) (Ey z1 (Ey (A6n U _) ?_)))))));refine Ey (A9c (A2 _ _) (by rw[List.length_set];omega) ⟨rfl,rfl⟩) ?_;refine B8 ?_ ?_;. simp(disch:=first|decide|omega|(simp only[C9];omega)) [Aw,Am,Ar,Ax,J]
 .refine hk _ ?_ rfl;refine⟨Ye _,λc hc=>?_,λx D=>?_⟩
  .show(((h.put b _).put b _).m.get c)=(h.put b _).m.get c;by_cases p:c=b;. subst p;rw[A2,A2]
   simp_all
  .refine .inl ?_;rw[Ca]at D;simp(disch:=first|exact Ce|fail) only[Aw,Am,Bx,Ap,At,I3,Ia,B9,Dp,Dn,C9,Ca]at D;simp_all
variable {hd:H}{b cap n i v:Nat}{ex:Bool}{e:TypeId}{pr post cs:uw}{ds:uq}
structure Buf(b:Nat)(e:TypeId)(pr post:List AV)(ds:List Nat)(n:Nat)(h hd:H)(cs:List AV)(i v:Nat):Prop where
 g:PG b (.cells cs e .exact) h hd
 lt:b<h.nx
 d:Dst pr post ds cs i v
 hn:ds.length=n
 i10:i<=n
 n10:n<=10
 vi:v<10^i
def Al6(d:Dst pr post ds cs i v):cs.length=pr.length+ds.length+post.length:=by obtain⟨c,low,rfl,a,f⟩:=d;rw[<- f];simp[Alh,a];omega
def Buf.get(k:Buf b e pr post ds n h hd cs i v):hd.m.get b=cz cs e:=k.g.get k.lt
def WrQ(b:Nat)(e:TypeId)(pr post:uw)(ds:uq)(h:H):AV->H->Prop:=λr h'=>r=.Bj []/\PG b (cz (pr++(ds.map u8C++post)) e) h h'
def gr0 h:Ai H0 h:=⟨Wy _,λb a=>absurd a (dx b),λx _=>.inr (Wy x)⟩
def Bov(k:Buf b e pr post ds n h hd cs i v)(hi:i<2) f0:Ah H0 (WrQ b e pr post ds h) (A3v Z N (.sl b pr.length n cap 1 ex) (iI i) (.int .u32 v) f0 hd):=by have j:=Al6 k.d;have hn:=k.hn;rw[Bmw];cases i with
|zero=>refine wk ?_;refine Lo (gr0 _) ⟨rfl,?_⟩;rw[<- k.d.zero];exact k.g
|succ i=>
 obtain rfl:i=0:=by omega
 have f:=k.vi;have c:=k.i10;refine Ey ((λa=>rfl:∀a,bo .gtr 3 true (iI (0+1)) (iI 0) a=.ok ..) _) (Zx (Ey ((λa=>Am1 _ v fe (by show(48+v:Int)<=4294967295;omega) _) _) (Ey ((λa=>A9k _ fe (by show(48+v:Int)<=255;omega) _:∀a,A6r _ _ a=.ok ..) _) (Ey (A6n c _) (Ey (A9c k.get om ⟨rfl,rfl⟩) (Lo (gr0 _) ⟨rfl,?_⟩))))));rw[<- k.d.one f];exact k.g.put _
def Bou(k:Buf b e pr post ds n h hd cs i v)(hi:i<4)(f0:L2):Ah H0 (WrQ b e pr post ds h) (A3u Z N (.sl b pr.length n cap 1 ex) (iI i) (.int .u32 v) f0 hd):=by
 have s:=k.get;have z:=Al6 k.d;have hn:=k.hn;have l:=k.i10;have f:=k.n10;rw[Bmv];by_cases p:i<2
 .have c:∀a:H,bo .geq 3 true (iI (i:Int)) (iI 2) a=.ok ux a:=λa=>by show Aj prog .geq 3 true (iI (i:Int)) (iI 2) a=_;rw[As1,Yc om]
  refine Ey (c _) (Ae5 ?_);exact Bov Z N k p _
 .obtain⟨i,rfl⟩:∃j,i=j+2:=⟨i-2,by omega⟩;have o:v<10^(i+2):=k.vi;have q:v<10000:=Xq o (aq (by simp) (by omega:i+2<=4));have c:∀a:H,bo .geq 3 true (iI ((i+2:Nat):Int)) (iI 2) a=.ok uz a:=λa=>by rfl
  have u:∀a:H,bo .rem 226 true (.int .u32 (v:Int)) (.int .u32 100) a=.ok (.int .u32 ((v%100:Nat):Int)) a:=λa=>Az9 v 100 (by simp) a;have t:∀a:H,bo .mul 226 true (.int .u32 ((v%100:Nat):Int)) (.int .u32 2) a=.ok (.int .u32 ((v%100*2:Nat):Int)) a:=λa=>At6 (v%100) 2 fe (by show((v%100*2:Nat):Int)<=4294967295;omega) a;have w:∀a:H,bo .quo 226 true (.int .u32 (v:Int)) (.int .u32 100) a=.ok (.int .u32 ((v/100:Nat):Int)) a:=λa=>Az8 v 100 (by simp) fe (by show((v/100:Nat):Int)<=4294967295;omega) a;refine Ey (c _) (Zx (Ey (u _) (Ey (t _) (Ey (w _) ?_))));refine BaH (m:=v%100) (i1:=i+1) (i2:=i) s (Xq k.lt k.g.lo) om om om om om om om om λh' x y=>?_;have r:∀a:H,bo .sub 3 true (iI ((i+2:Nat):Int)) (iI 2) a=.ok (iI i) a:=λa=>by show Aj prog .sub 3 true (iI ((i+2:Nat):Int)) (iI 2) a=_;rw[As3,show((i+2:Nat):Int)-2=i by omega,Cr _ om om]
  exact Ey (r _) (Bov Z N ⟨k.g.trans x,k.lt,k.d.two,hn,by omega,f,bz (by grind)⟩ om _)
def Buf.two(k:Buf b e pr post ds n h hd cs (i+2) v){m}(a:m=v%100)(c:PG b (cz ((cs.set (pr.length+(i+1)) (u8C (48+m%10))).set (pr.length+i) (u8C (48+m/10))) e) hd h1):∃D7,Buf b e pr post ds n h h1 D7 i (v/100):=by subst a;have f:=k.vi;have:=k.i10;exact⟨_,k.g.trans c,k.lt,k.d.two,k.hn,by omega,k.n10,bz (by grind)⟩
def p3 a c(hc:0<=c/\c<=10)(d:c<=a/\a<=100) hh:bo .sub 3 true (iI a) (iI c) hh=.ok (iI (a-c)) hh:=by show Aj _ _ 3 _ _ ..=_;rw[As3,Cr _ om om]
def BqY a c hh:bo .geq 3 true (iI a) (iI c) hh=.ok (.bool (decide (c<=a))) hh:=by simp
def Bo3(k:Buf b e pr post ds n h hd cs i v)(hi:i<8)(n1:Nat)(f0:L2):Ah H0 (WrQ b e pr post ds h) (AwN Z N (n1+1) (.sl b pr.length n cap 1 ex) (cn v) (iI i) f0 hd):=by
 have y:=Al6 k.d;have hn:=k.hn;have o:=k.i10;have u:=k.n10;have c:=k.vi;have r:v<100000000:=Xq c (aq fe (by omega:i<=8));rw[Bdi];refine Ey (BqY _ _ _) ?_;rw[Yc om];refine Ae5 ?_;have f:∀a:H,A6r .u32 (cn (v:Int)) a=.ok (.int .u32 (v:Int)) a:=λa=>A9k v fe (by show(v:Int)<=4294967295;omega) a;refine Ey (f _) (Ey (BqY _ _ _) ?_);by_cases q:i<4;. rw[Yc om];exact Ae5 (Bou Z N k q _)
 .obtain⟨i,rfl⟩:∃j,i=j+2+2:=⟨i-4,by omega⟩;rw[Ws om];refine Zx ?_;refine Ey (Az9 v 10000 fe _) (Ey (Az8 v 10000 fe fe (by show((v/10000:Nat):Int)<=4294967295;omega) _) (Ey (Az8 (v%10000) 100 fe fe (by show((v%10000/100:Nat):Int)<=4294967295;omega) _) (Ey (At6 (v%10000/100) 2 fe (by show((v%10000/100*2:Nat):Int)<=4294967295;omega) _) (Ey (Az9 (v%10000) 100 fe _) (Ey (At6 (v%10000%100) 2 fe (by show((v%10000%100*2:Nat):Int)<=4294967295;omega) _) ?_)))));refine BaH (m:=v%10000%100) (i1:=i+2+1) (i2:=i+2) k.get (Xq k.lt k.g.lo) om om om om om om om om λh' t x=>?_;obtain⟨l,k2⟩:=k.two om t;have B:=Al6 k2.d;refine BaH (m:=v%10000/100) (i1:=i+1) (i2:=i) k2.get (Xq k2.lt k2.g.lo) om om om om om om om om λz w A=>?_;obtain⟨s,p⟩:=k2.two om w;refine Ey (p3 _ _ om om _) ?_;rw[show((i+2+2:Nat):Int)-4=(i:Int)by omega,show v/10000=v/100/100 by omega];exact Bou Z N p om _
def BvT(k:Buf b e pr post ds n h hd cs i v)(n1:Nat)(f0:L2):Ah H0 (WrQ b e pr post ds h) (AwN Z N (n1+2) (.sl b pr.length n cap 1 ex) (cn v) (iI i) f0 hd):=by
 have L:=Al6 k.d;have hn:=k.hn;have u:=k.i10;have l:=k.n10;by_cases x:i<8
 .exact Bo3 Z N k x _ f0
 obtain⟨i,rfl⟩:∃j,i=j+2+2+2+2:=⟨i-8,by omega⟩;have t:v<10000000000:=Xq k.vi (aq fe (by omega:i+2+2+2+2<=10));rw[Bdi];refine Ey (BqY _ _ _) ?_;rw[Ws om];refine Zx ?_;refine Ey (Az9 v 100000000 fe _) (Ey (A9k (v%100000000) fe (by show((v%100000000:Nat):Int)<=4294967295;omega) _) (Ey (Az8 v 100000000 fe fe (by show((v/100000000:Nat):Int)<=18446744073709551615;omega) _) ?_));obtain⟨w,q⟩:∃w,w=v%100000000:=⟨_,rfl⟩;rw[<- q];refine Ey (Az8 w 10000 fe fe (by show((w/10000:Nat):Int)<=4294967295;omega) _) (Ey (Az9 w 10000 fe _) (Ey (Az8 (w%10000) 100 fe fe (by show((w%10000/100:Nat):Int)<=4294967295;omega) _) (Ey (At6 (w%10000/100) 2 fe (by show((w%10000/100*2:Nat):Int)<=4294967295;omega) _) (Ey (Az9 (w%10000) 100 fe _) (Ey (At6 (w%10000%100) 2 fe (by show((w%10000%100*2:Nat):Int)<=4294967295;omega) _) ?_)))));refine Ey (Az8 (w/10000) 100 fe fe (by show((w/10000/100:Nat):Int)<=4294967295;omega) _) (Ey (At6 (w/10000/100) 2 fe (by show((w/10000/100*2:Nat):Int)<=4294967295;omega) _) (Ey (Az9 (w/10000) 100 fe _) (Ey (At6 (w/10000%100) 2 fe (by show((w/10000%100*2:Nat):Int)<=4294967295;omega) _) ?_)));refine BaH (m:=w%10000%100) (i1:=i+2+2+2+1) (i2:=i+2+2+2) k.get (Xq k.lt k.g.lo) om om om om om om om om λh' p E=>?_;obtain⟨f,k2⟩:=k.two om p;have I:=Al6 k2.d;refine BaH (m:=w%10000/100) (i1:=i+2+2+1) (i2:=i+2+2) k2.get (Xq k2.lt k2.g.lo) om om om om om om om om λM D G=>?_;obtain⟨C,a⟩:=k2.two om D;have z:=Al6 a.d;refine BaH (m:=w/10000%100) (i1:=i+2+1) (i2:=i+2) a.get (Xq a.lt a.g.lo) om om om om om om om om λJ r n4=>?_;obtain⟨s,c⟩:=a.two om r;have y:=Al6 c.d;refine BaH (m:=w/10000/100) (i1:=i+1) (i2:=i) c.get (Xq c.lt c.g.lo) om om om om om om om om λK A F=>?_;obtain⟨B,o⟩:=c.two om A;refine Ey (p3 _ _ om om _) ?_;rw[show((i+2+2+2+2:Nat):Int)-8=(i:Int)by omega,show v/100000000=v/100/100/100/100 by omega];exact Bo3 Z N o om _ _
def BtK:Prop:=∀(b n v cap:Nat) (ex:Bool) (e:TypeId) (pr a post:uw) (h:H),h.m.get b=cz (pr++(a++post)) e->b<h.nx->a.length=n->n<=10->v<10^n ->
 AjT b (cz (pr++((Ao2 n v).map u8C++post)) e) h (λr _=>r=.Bj []) (Z.call 144 [.sl b pr.length n cap 1 ex,cn v] h)
def B3t(o:2<N){a}(k:h.m.get b=cz (pr++(a++post)) e)(j:b<h.nx)(d:a.length=n)(hn:n<=10)(f:v<10^n):
 AjT b (cz (pr++((Ao2 n v).map u8C++post)) e) h (λr _=>r=.Bj []) (Ay prog Z N false 144 [.sl b pr.length n cap 1 ex,cn v] h):=by obtain⟨c,rfl⟩:∃c,N=c+2:=⟨N-2,by omega⟩;rw[BzP];exact AeN (Ey rfl ((BvT Z _ ⟨PG.refl k,j,⟨_,[],rfl,d,by simp⟩,Alh ..,Ye _,hn,f⟩ ..).mono λr h' _ ⟨g,l⟩=>⟨l,g⟩))
def Bk1{k k'}{ty}{c}(a s:Nat) hh:Aj prog .shr ty c (.int k a) (.int k' s) hh=.ok (.int k (a/2^min s k.bits:Nat)) hh:=rfl
def A9Z(v k:Nat):Prop:=1<=k/\k<=32/\2^(k-1)<=v/\v<2^k
def AwW{v s k}(h:A9Z (v/2^s) k)(a:s+k<=32):A9Z v (s+k):=by
 have⟨_,_,d,c⟩:=h;refine⟨by omega,a,?_,?_⟩;. have:=(Nat.le_div_iff_mul_le (Nat.pow_pos (by grind))).1 d;rw[show s+k-1=k-1+s by omega,Nat.pow_add];grind
 .have:=(Nat.div_lt_iff_lt_mul (Nat.pow_pos (by omega))).1 c;grind
def BnN{v}(d:v<256)(h0:0<v):∃k,A9Z v k/\k<=8/\∀a,xIx prog .str (.str Lc) (cw v) a=.ok (cw k) a:=by
 have⟨k,h1,f,l⟩:=Bw8 v d;have⟨g,j⟩:=l h0;have c:k<=8:=by
  have:2^(k-1)<2^8:=by omega
  have:=(ap (by simp)).1 this;omega
 exact⟨k,⟨g,by omega,j,f⟩,c,λa=>AzP h1⟩
def BtN:Prop:=∀(v:Nat) (h:H),0<v->v<4294967296->Ah h (λr _=>∃k:Nat,r=iI (k:Int)/\A9Z v k) (Z.call 170 [cn v] h)
def Bow{c:Nat}(h0:0<v)(j:v<65536)(hc:c=0\/c=16)(f0:L2):Ah h (λr _=>∃k,r=iI ((c+k:Nat):Int)/\k<=16/\A9Z v k) (A3w Z N (cn v) (iI c) f0 h):=by
 rw[Bmz];refine Ey (Beg v 256 _) ?_;by_cases f:256<=v;. rw[Ws f];obtain⟨k,d,g,a⟩:=BnN (v:=v/2^8) om om;refine Zx (Ey (Bk1 v 8 _) ?_);rw[show min 8 (IntKind.bits .u64)=8 from rfl];refine Ey (Am1 (k:=.i64) c 8 fe (by show((c+8:Nat):Int)<=9223372036854775807;omega) _) ?_;refine Ey (A9k (v/2^8) fe (by show((v/2^8:Nat):Int)<=255;omega) _) (Ey (a _) ?_);refine Ey (A9k k fe (by show(k:Int)<=9223372036854775807;omega) _) ?_;refine Ey (Am1 (k:=.i64) (c+8) k fe (by show((c+8+k:Nat):Int)<=9223372036854775807;omega) _) ?_;exact Lo (Ai.refl h) ⟨8+k,by grind,by omega,AwW d om⟩
 .rw[Yc f];obtain⟨k,d,g,a⟩:=BnN (v:=v) om om;refine Ae5 (Ey (A9k v fe (by show(v:Int)<=255;omega) _) (Ey (a _) ?_));exact Ey (A9k k fe (by show(k:Int)<=9223372036854775807;omega) _) (Ey (Am1 c k fe (by show(c+k:Int)<=9223372036854775807;omega) _) (Lo (Ai.refl h) ⟨k,rfl,by omega,d⟩))
def B3w(h0:0<v)(f:v<4294967296):Ah h (λr _=>∃k:Nat,r=iI k/\A9Z v k) (mr Z N 170 [cn v] h):=by
 rw[BzU];apply Ey (Beg v 4294967296 _);rw[Yc om];apply Ae5;rw[Bmy];apply Ey (Beg v ..);by_cases c:65536<=v;. rw[Ws c];refine Zx (Ey (Bk1 v ..) ?_);rw[show min ..=16 from rfl];refine Ey (Am1 0 _ fe (by simp) _) ((Bow Z N om om (.inr rfl) _).mono λr h1 _ ⟨k,d,_,a⟩=>⟨_,d,AwW a om⟩)
 .rw[Yc c];refine Ae5 ((Bow Z N om om (.inl rfl) _).mono λr h1 _ ⟨k,_,_,a⟩=>⟨k,by grind,a⟩)
def est(k:Nat):Nat:=k*78913/262144
def Bo6{D v}(c:v<=1000000000)(h1:10^D<=v)(d:v<10^(D+1)):nd v=D+1:=by
 rcases Aqg v c with⟨g,a⟩|⟨E,g,_,_,a,f⟩
 .have:10^D<10^1:=by omega
  have:=(ap (by simp)).1 this;omega
 .have j:=(ap (by omega)).1 (Ut h1 f);have a2:=(ap (by simp)).1 (Ut a d);omega
def BqR{v k:Nat}(o:A9Z v k)(f:v<=1000000000):∃p:Nat,Bkd[est k]?=some (p:Int)/\est k<=10/\nd v=est k+(if p<=v then 1 else 0):=by
 obtain⟨h1,q,m,r⟩:=o;have g:k<31:=by
  have:2^(k-1)<2^30:=by omega
  have:=(ap (by decide:1<2)).1 this;omega
 have d:∀k<31,1<=k->2^k<=10^(est k+1)/\(est k=0\/10^(est k-1)<=2^(k-1))/\est k<=9/\Bkd[est k]?=some ((10^est k:Nat):Int):=by decide +kernel
 obtain⟨s,a,t,j⟩:=d k g h1;refine⟨_,j,by omega,?_⟩;by_cases c:10^est k<=v;. rw[Xo c,Bo6 f c om]
 .rw[X2 c];rcases a with a|a;. simp_all
  .obtain⟨e,l⟩:∃e,est k=e+1:=by
    refine⟨est k-1,?_⟩;have:est k≠0:=λh0=>by simp_all
    omega
   rw[l]at c a ⊢;exact Bo6 f (Ol a m) om
def ArA:∀s,(∀c∈s,c<256)->Yj (s.map u8C)=some s
|[],_=>rfl
|c::s,h=>by
 have d:=ArA s λx a=>h x (Vo _ a);have hc:Xf (u8C c)=some c:=by show @Bool.rec _ _ ..=_;rw[show Nat.blt c _=true by simp[*]]
 show(match Xf _,Yj _ with|some n,some r=>some _|_,_=>none)=_;grind
def BtM:Prop:=∀(k:Nat) (h:H),k<=32->Ah h (λr _=>r=iI (est k:Nat)) (Z.call 169 [iI k] h)
def B3v{k}(a:k<=32):Ah h (λr _=>r=iI (est k)) (mr Z N 169 [iI k] h):=by rw[BzT];exact Ey (At6 k _ fe (by show(k*78913:Int)<=9223372036854775807;omega) _) (Ey (Bk1 _ ..) (Lo (Ai.refl h) rfl))
def BtO:Prop:=∀(b:Bool) (h:H),Ah h (λr _=>r=iI ((if b=true then 1 else 0:Nat):Int)) (Z.call 171 [.bool b] h)
def B3x b:Ah h (λr _=>r=iI (if b=true then 1 else 0:Nat)) (mr Z N 171 [.bool b] h):=by
 cases b;. exact Ae5 (Lo (Ai.refl h) rfl)
 .exact Zx (Lo (Ai.refl h) rfl)
def BtJ:Prop:=∀(v:Nat) (h:H),0<v->v<=1000000000->AeZ h->Ah h (λr _=>r=iI (nd v:Nat)) (Z.call 143 [cn v] h)
def B3s(d:BtN Z)(j:BtM Z)(c:BtO Z)(h0:0<v)(E:v<=1000000000)(m:AeZ h):Ah h (λr _=>r=iI (nd v:Nat)) (mr Z N 143 [cn v] h):=by
 rw[BzO];refine Fj (d v h h0 om) λJ h1 e1 l1 y u=>?_;obtain⟨k,rfl,l⟩:=u;obtain⟨p,A,G,p3⟩:=BqR l E;refine Fj (j k h1 l.2.1) λL f z O C F=>?_;subst F;have g2:=e1.trans z;have t:=(m.gr g2).g;have s:∀a:H,AxM 20 1 (.ptr 1 0) (iI ((est k:Nat):Int)) a=.ok (.ptr 1 (est k)) a:=λa=>by show iaA (.ptr 1 0) 20 (est k) 1 a=_;show(@Bool.rec (λ_=>OR) (.bad 90) (.ok (.ptr 1 (0+est k*1)) a) (Nat.blt (est k) 20):OR)=_;rw[show Nat.blt (est k) 20=true by simp;omega,ae,Rx]
 have c2:Nv f 1 (Bkd.map λx=>AV.int .u64 x):=⟨by have:=(m.gr g2).lt;omega,_,_,t,trivial⟩
 have B:=c2.one (o:=est k) (x:=cn (p:Int)) (by rw[Cn,A];rfl);refine Ey (s _) (Ey (B f (Bi.refl _)) (Ey (Beg v p _) ?_));refine Fj (c _ f) λI M D K q w=>?_;subst w;refine Ey (Am1 (k:=.i64) (est k) _ fe (by show((est k+(if decide (p<=v)=true then 1 else 0):Nat):Int)<=9223372036854775807;split<;>omega) _) ?_
 refine Lo (g2.trans D) ?_;rw[p3];simp
def BtI:Prop:=∀(v:Nat) (h:H),v<100->Ah h (λr _=>r=.str (V8 v)) (Z.call 142 [iI v] h)
def B3r(a:v<100):Ah h (λr _=>r=.str (V8 v)) (mr Z N 142 [iI v] h):=by
 rw[BzN];refine Ey (Hf ..) ?_;by_cases d:v<10;. rw[Ws om];refine Zx (Ey (Am1 (k:=.i64) v 1 fe (by show((v+1:Nat):Int)<=9223372036854775807;omega) _) ?_);refine Ey (Aji xi9 om (by show v+1<=36;omega) _) ?_;refine Lo (Ai.refl h) ?_;rw[show v+1-v=1 by omega,Bw7 v d];show _=AV.str (Ao2 (nd v) v);unfold nd;grind
 .rw[Yc om];refine Ae5 ?_;have y:=At6 (k:=.i64) (ty:=3) (c:=true) v 2 fe (by show((v*2:Nat):Int)<=9223372036854775807;omega);refine Ey (y _) (Ey (y _) (Ey (Am1 (k:=.i64) (v*2) 2 fe (by show((v*2+2:Nat):Int)<=9223372036854775807;omega) _) ?_));refine Ey (Aji xi9 om (by show v*2+2<=200;omega) _) ?_;refine Lo (Ai.refl h) ?_;rw[show v*2+2-v*2=2 by omega,Bw9 v a];show _=AV.str (Ao2 (nd v) v);unfold nd;grind
def BoI b:∀D,D<=10->∀a,xSl prog 200 (.ptr b 0) (some (iI 1)) (some (iI (1+D:Nat))) a=.ok (.sl b 1 D 23 1 true) a
|0,_,a=>by kernel_rfl
|1,_,a=>by kernel_rfl
|2,_,a=>by kernel_rfl
|3,_,a=>by kernel_rfl
|4,_,a=>by kernel_rfl
|5,_,a=>by kernel_rfl
|6,_,a=>by kernel_rfl
|7,_,a=>by kernel_rfl
|8,_,a=>by kernel_rfl
|9,_,a=>by kernel_rfl
|10,_,a=>by kernel_rfl
|D+11,c,_=>absurd c om
def Bwa{v}(a:v<=1000000000):1<=nd v/\nd v<=10/\v<10^nd v:=by
 rcases Aqg v a with⟨d,c⟩|⟨E,d,f,g,c,j⟩;. simp_all
 grind
def Bip pr mid post:Nf (pr++(mid++post)) pr.length mid.length=some mid:=by rw[E5,Xo (by simp),di,eb]
def BkD{b D cap}{ex}{e}{pr post}{s}(d:h.m.get b=cz (pr++(s.map u8C++post)) e)(f:D=s.length)(a:∀c∈s,c<256):Bs6 (.sl b pr.length D cap 1 ex) h=.ok (.str s) h:=by
 show(match h.rd b with
  |some c=>match Nf c _ D with
   |some _=>match Yj _ with|some s=>.ok _ h|none=>.bad _
   |none=>.bad _
  |none=>.bad _:OR)=_;rw[(by rw[AaS,d];rfl:h.rd b=some _),f,show s.length=(s.map u8C).length by simp];simp only[Bip,ArA s a]
def BtF:Prop:=∀(v:Nat) (h:H),v<=1000000000->AeZ h->Ah h (λr _=>r=.str (V8 v)) (Z.call 107 [iI v,iI 10] h)
def B3n(s:BtI Z)(p:BtJ Z)(q:BtK Z)(u:v<=1000000000)(E:AeZ h):Ah h (λr _=>r=.str (V8 v)) (mr Z N 107 [iI v,iI 10] h):=by
 rw[BzI];by_cases d:v<100;. have x:decide ((v:Int)<100)=true:=dt;have k2:decide ((0:Int)<=(v:Int))=true:=dt;have y:decide (v<100)=true:=Ws d;have hc:=λa=>s v a d;refine wk ?_;refine Fj (hc _) λA h1 e1 l1 C z=>?_;subst z;exact zr e1 rfl
 .have x:decide ((v:Int)<100)=false:=df;have k2:decide ((0:Int)<=(v:Int))=true:=dt;have y:decide (v<100)=false:=Yc d;have T:decide ((v:Int)<0)=false:=df;have M:∀a:H,A6r .u64 (iI (v:Int)) a=.ok (cn (v:Int)) a:=λa=>A9k v fe (by show(v:Int)<=18446744073709551615;omega) a;refine wk ?_;have o:AeZ (h.new (cz uk 200)):=E.gr ((Ai.refl h).new _);have l:(h.new (cz uk 200)).m.get h.nx=cz ([u8C 0]++(List.replicate 23 (u8C 0))) 200:=Bf _;have F:Ai h (h.new (cz uk 200)):=(Ai.refl h).new _;have L:h.nx+1=(h.new (cz uk 200)).nx:=rfl;generalize h.new (.cells [cw 0,cw 0,cw 0,cw 0,cw 0,cw 0,cw 0,cw 0,cw 0,.int _ 0,.int _ 0,.int _ 0,.int _ 0,.int _ 0,.int _ 0,.int _ 0,.int _ 0,.int _ 0,.int _ 0,.int _ 0,.int _ 0,.int _ 0,.int _ 0,.int _ 0] ..)=h2 at *;rw[Bmu];refine Fj (p v _ om u o) λA G I P f B=>?_;subst B;have⟨d1,d2,d3⟩:=Bwa u;have⟨D,t⟩:∃D,D=nd v:=⟨_,rfl⟩;rw[<- t]at d1 d2 d3 ⊢;have w:=Am1 (k:=.i64) (ty:=3) (c:=true) 1 D fe (by show(1+D:Int)<=9223372036854775807;omega);refine Ey (w _) (Ey (BoI _ D d2 _) ?_);have j:G.m.get h.nx=cz ([u8C 0]++(List.replicate D (u8C 0)++List.replicate (23-D) (u8C 0))) 200:=by rw[f _ om,l,S5,show D+(23-D)=23 by omega]
  refine zu1 (q _ D v _ _ _ _ _ _ _ j om (by simp) d2 d3) λS O K Q J g R=>(Ey ((λa=>rfl:∀a,bo .lss 2 true (iI v) (iI 0) a=.ok ..) _) (Ae5 (Ey (w _) (Ey (BoI _ D d2 _) (Ey (BkD (g om) (by rw[Alh]) λc hc=>?_) ?_)))));. have:=Axd D v c hc;omega
  apply Lo (PG.own (F.trans I) K (Ye _));rw[t];rfl
def BtD:Prop:=∀(v:Nat) (h:H),v<=1000000000->AeZ h->Ah h (λr _=>r=.str (V8 v)) (Z.call 77 [iI v] h)
def B3g(a:BtF Z)(d:v<=1000000000)(c:AeZ h):Ah h (λr _=>r=.str (V8 v)) (mr Z N 77 [iI v] h):=by rw[Bz9];refine Fj (a v h d c) λj h1 e1 l1 g f=>?_;subst f;exact zr e1 rfl
def B2R(a:BtD Z){n}(hn:Num n)(c:AeZ h):Ah h (λr _=>r=.str (V8 n)) (mr Z N 45 [iI n] h):=by obtain⟨v,rfl⟩:∃v:Nat,n=v:=⟨_,(Tb hn.1).symm⟩;rw[Bzu];refine Fj (a v h (by have:=hn.2;omega) c) λg h1 e1 l1 f d=>?_;subst d;exact zr e1 rfl
end Go.Proofs
