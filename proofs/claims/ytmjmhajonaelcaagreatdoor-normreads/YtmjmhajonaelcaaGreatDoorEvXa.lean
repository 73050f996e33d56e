/- The stages of reading a query: the source, the factor; all. What is read is read again from what is written. -/
import Derived.Test.YtmjmhajonaelcaaGreatDoorEvRb
set_option linter.all false
set_option maxRecDepth 100000
noncomputable section
namespace Go.Proofs
open Go Go.Ev Go.Nm
variable {o:uq}{p:Int}
def Aj7:List L3->Nat
|[]=>0
|x::r=>(lt x).length+1+Aj7 r
def A0k:∀a b,Aj7 (a++b)=Aj7 a+Aj7 b
|[],b=>by simp[Aj7]
|x::a,b=>by simp[Ia,Aj7,A0k a b];omega
def Boz:∀l p,(jn p l).length<=Aj7 l
|[],p=>Wy _
|x::r,p=>by have h1:=Boz r (some x);simp[jn,Yl,Aj7];grind
def Biy{x}(h:Ah9 x):1<=(lt x).length/\(lt x).length<=20/\∀c∈lt x,c<256:=by
 have hc:∀c,N3 c=2->c<256:=λc a=>by unfold N3 at a;omega
 have b:∀s∈W35++(R2++N1),1<=s.length/\s.length<=20/\∀c∈s,c<256:=λs f=>by have⟨h1,e,d⟩:=A5Q s f;grind
 cases x with
 |sg s=>
  have:∀s∈Sgs,1<=s.length/\s.length<=20/\∀c∈s,c<256:=by decide
  exact this s h
 |kw s=>exact b s (aw _ h)
 |nm s=>exact b s (Gw _ h)
 |nu n=>have⟨h1,_,d,g,_⟩:=Alj h.1 h.2;exact⟨d,by show(V8 n).length<=20;omega,λc a=>by have:=h1 c a;omega⟩
 |wd s=>
  have:∀s∈R9,s.length<=5/\∀c∈s,c<256:=by decide
  have⟨h1,e⟩:=this s h;refine⟨by simp[lt],by simp[lt];omega,λc a=>?_⟩;simp[lt,Ia,Tu,W7,Ww,Oq]at a;grind
def Ba3 c tr l:Aj7 (brk c tr l)<=Aj7 l+4:=by
 unfold brk;split;. split<;>simp[Aj7,A0k,lt]<;>omega
 simp
def NmG s:=(∀c∈s,N3 c∈[2,3,4])/\AoC s
def LxG:L3->Prop
|.sg s=>s∈Sgs
|.kw s=>s∈W35
|.nm s=>NmG s
|.nu n=>Num n
|.wd s=>NmG s
def Bjq{s}(h:NmG s):∃c r,s=c::r/\N3 c=2:=by have⟨_,_,_,_,_⟩:=h;cases s with
|nil=>grind
|cons c r=>grind
def Bjm{y}(a:LxG y):∃c r,lt y=c::r/\N3 c≠1/\(glB y=true->c∈nk):=by cases y with
|sg x=>exact Bix a
|kw x=>exact Bix a
|nm x=>obtain⟨c,r,rfl,h1⟩:=Bjq a;exact⟨c,r,rfl,by omega,λh=>by cases h⟩
|nu n=>exact Bix a
|wd x=>exact⟨_,_,rfl,by decide,λh=>by cases h⟩
def Bje{r}(b:∀x∈r,LxG x):∀c∈(jb r).head?,N3 c ∉ [1]:=by intro c hc;cases r with
|nil=>cases hc
|cons y r=>
 have⟨a,d,_,_,_⟩:=Bjm (b y Wm ..);have:jb (y::r)=a::d++jn (some y) r:=by show lt y++jn _ r=_;grind
 grind
def B90{x:L3}{r:List L3}(g:LxG x)(h:∀y∈r,LxG y):BoR x (jn (some x) r):=by
 have e:∀c∈(jn (some x) r).head?,c=32\/glA x=true\/c∈nk:=by intro c hc;cases r with
  |nil=>cases hc
  |cons y r=>
   obtain⟨o,m,h1,_,a⟩:=Bjm (h y (Wm ..));replace hc:c∈((if sep (some x) y then[32]else[])++(lt y++jn (some y) r)).head?:=hc;split at hc;. cases hc;exact .inl rfl
   .rename_i k;rw[h1]at hc;cases hc;cases f:glA x with
    |true=>exact .inr (.inl rfl)
    |false=>refine .inr (.inr (a ?_));cases i:glB y with
     |true=>rfl
     |false=>exact absurd (show sep (some x) y=true by simp[sep,f,i]) k
 have d:glA x=false->∀c∈(jn (some x) r).head?,N3 c ∉ [(2:Int),3,4]:=by
  intro f c hc;rcases e c hc with rfl|b|b;. decide
  .rw[f]at b;cases b
  .have:∀c∈nk,N3 c ∉ [(2:Int),3,4]:=by decide
   exact this c b
 cases x with
 |sg s=>
  intro h1 c hc;rcases e c hc with rfl|b|b
  .have:∀s∈Sgs,s++[32] ∉ Sgs:=by decide
   exact this s g
  .have a:s∈[[40],[91],[47],[46,46]]:=az b;rcases Tu.1 a with rfl|a;. simp[Sgs]
   rcases Tu.1 a with rfl|a;. simp[Sgs]
   rcases Tu.1 a with rfl|a;. simp[Sgs]
   rcases Tu.1 a with rfl|a;. cases h1
   .cases a
  .have:∀s∈Sgs,s.length=1->∀c∈nk,s++[c] ∉ Sgs:=by decide
   exact this s g h1 c b
 |kw s=>exact d rfl
 |nm s=>exact d rfl
 |nu s=>intro c hc a;refine d rfl c hc ?_;simp at a ⊢;omega
 |wd s=>exact trivial
def A9j{p:Nat->Bool}:∀{x rest:List _},(∀c∈x,p c=true)->(∀c∈rest.head?,p c=false)->(x++rest).takeWhile p=x/\(x++rest).dropWhile p=rest
|[],[],_,_=>⟨rfl,rfl⟩
|[],c::r,_,h=>by simp_all
|c::x,rest,h1,a=>by have⟨_,_⟩:=A9j (λd hd=>h1 d (Vo _ hd)) a;simp_all
def BiW{x rest:List _}(h1:∀c∈x,N3 c∈[2,3,4])(a:∀c∈rest.head?,N3 c ∉ [2,3,4]):(x++rest).takeWhile idC=x/\(x++rest).dropWhile idC=rest:=
 A9j (λc hc=>Ws (h1 c hc)) λc hc=>Yc (a c hc)
def Bs4{s rest}(h1:∀c∈s,N3 c∈[2,3,4])(b:∃c r,s=c::r/\N3 c=2)(e:s.length<=20)(d:∀c∈rest.head?,N3 c ∉ [2,3,4]):nxF (s++rest)=some (if s∈W35 then .kw s else .nm s):=by have a:=(BiW h1 d).1;obtain⟨c,r,rfl,hc⟩:=b;rw[Ia]at a ⊢;rw[nxF];grind
def B5h{x:L3}{rest:uq}(f:LxG x)(g:BoR x rest):nxF (lt x++rest)=some x:=by cases x with
|sg s=>
 obtain⟨c,r,rfl,hc,_⟩:=BoH s f;have h:sgF (c::r++rest)=some (c::r):=by
  have i:(c::r).length<=2:=by
   have:∀s∈Sgs,s.length<=2:=by decide
   exact this _ f
  unfold sgF;by_cases h1:(c::r).length=2
  .have e:(c::r++rest).take 2=c::r:=by rw[<- h1,eb]
   rw[e,Xo ⟨by rw[Yl];omega,f⟩]
  .have y:r=[]:=by cases r with|nil=>rfl|cons a b=>simp_all
   subst y;cases rest with
   |nil=>rw[X2 (by simp),Xo (by exact f)];rfl
   |cons d u=>have:=g rfl d rfl;rw[X2 (λm=>this m.2),Xo (by exact f)];rfl
 show nxF (c::(r++rest))=_;rw[nxF];grind
|kw s=>obtain⟨h1,i,v⟩:=A5Q s (aw _ f);have:=Bs4 (s:=s) (rest:=rest) (λc hc=>by rw[h1 c hc];decide) (by cases s with|nil=>exact absurd rfl i|cons c r=>simp_all) v g;rwa[Xo (by exact f)]at this
|nm s=>have:=Bs4 (rest:=rest) f.1 (Bjq f) f.2.2.1 g;rwa[X2 f.2.2.2.2]at this
|nu n=>
 have hn:Num n:=f;obtain⟨d1,d2,d3,d4,d5⟩:=Alj hn.1 hn.2;obtain⟨c,r,e,hc⟩:=BqK hn;have o:∀c∈V8 n,dgC c=true:=λc hc=>by
  have:=d1 c hc;have:N3 c=3:=by unfold N3;rw[X2 om,Xo om]
  unfold dgC;rw[this];rfl
 have k:=(A9j (p:=dgC) (rest:=rest) o (λc hc=>Yc (g c hc))).1;have z:Ang (V8 n)=some (AnE (V8 n)):=by
  unfold Ang;rw[X2];rintro (⟨h1,i⟩|h1);. simp_all
  .have:=hn.2;omega
 show nxF (V8 n++rest)=_;rw[e,Ia]at k ⊢;rw[nxF];grind
|wd s=>
 have e:lt (.wd s)++rest=39::(s++(39::rest)):=by simp[lt]
 obtain⟨q,w⟩:=BiW (rest:=39::rest) f.1 (λc hc=>by cases hc;decide);rw[e];rw[nxF];rw[X2 fe,X2 fe,Xo fe,q,w,Xo ⟨rfl,f.2⟩]
def BqO{a b}(h1:∀c∈a,N3 c∈[1])(d:∀c∈b.head?,N3 c ∉ [1]):blB (a++b)=a/\skB (a++b)=b:=
 A9j (λc hc=>Ws (h1 c hc)) λc hc=>Yc (d c hc)
def Bft:∀(xs:List L3) (n:Nat) (a:Bool),(∀x∈xs,LxG x)->xs.length<n->(a=true->∀x∈xs.head?,Ar8 x=true)->AtG n a (jb xs)=some xs
|[],n+1,a,_,_,_=>by rfl
|x::r,n+1,a,h,p,q=>by
 have h1:=h x (Wm ..);have d:∀y∈r,LxG y:=λy f=>h y (Vo _ f);obtain⟨c,u,e,_⟩:=Bjm h1;obtain⟨i,b2⟩:=BqO (BrE (some x) r) (Bje d);have m:jb (x::r)=lt x++jn (some x) r:=rfl;have b:(a&&!Ar8 x)=false:=by grind
 have k:=Bft r n (!Ar8 x&&decide (jm (some x) r=[])) d (by grind) λg y f=>by cases o:Ar8 y with
  |true=>rfl
  |false=>cases r with
   |nil=>grind
   |cons z r=>simp at g;have:=Bie (r:=r) g.1 o;simp_all
 unfold AtG;rw[X2 (by simp_all),m,B5h h1 (B90 h1 d),Yr,b,di,Bif,i,b2,k];rfl
def Bnb{xs}(b:∀x∈xs,LxG x)(d:(jn none xs).length<=2000)(hn:xs.length<=(jn none xs).length):AsA (jn none xs)=some xs:=by unfold AsA;rw[X2 om];have:=(BqO (a:=[]) (λc hc=>nomatch hc) (Bje b)).2;rw[<- (by cases xs<;>rfl:jn none xs=[]++jb _)]at this;rw[this];exact Bft _ _ _ b om λh=>by grind
def B5i{r:uq}{x:L3}(h:nxF r=some x):LxG x:=by cases r with
|nil=>cases h
|cons c t=>
 rw[nxF]at h;have d:=λl:uq=>(AnD idC l).2.1;have b:∀l:uq,∀c∈l.takeWhile idC,N3 c∈[(2:Int),3,4]:=λl c hc=>az (d l c hc);split at h
 .rename_i c2;split at h;. cases h
  .rename_i i;have hi:idC c=true:=by unfold idC;rw[c2];rfl
   have e:(c::t).takeWhile idC=c::t.takeWhile idC:=V6 hi;split at h;. cases h;assumption
   .rename_i f;cases h;refine⟨b _,?_,by omega,?_,f⟩;. simp[*]
    .rw[e];exact c2
 .split at h;. cases hn:Ang ((c::t).takeWhile dgC)with
    |none=>rw[hn]at h;cases h
    |some m=>
     rw[hn]at h;cases h;unfold Ang at hn;split at hn;. cases hn
     .cases hn;exact⟨bj _,by omega⟩
  .split at h
   .split at h;. rename_i hq;cases h;exact⟨b _,hq.2⟩
    .cases h
   .cases a:sgF (c::t)with
    |none=>rw[a]at h;cases h
    |some y=>
     rw[a]at h;cases h;unfold sgF at a;split at a;. cases a;rename_i g;exact g.2
     .split at a;. cases a;assumption
      .cases a
def BjC r:(skB r).length<=r.length:=by have h:=Jh List.length (Axj r).1;grind
def Bfu:∀n a r xs,AtG n a r=some xs->(∀x∈xs,LxG x)/\Aj7 xs<=2*r.length
|0,_,_,_,h=>by cases h
|n+1,a,r,xs,h=>by
 unfold AtG at h;split at h;. cases h;exact⟨(λ_ h=>nomatch h),Wy _⟩
 .cases b:nxF r with
  |none=>grind
  |some x=>
   rw[b,Yr]at h;split at h;. grind
   .cases c:AtG n (!Ar8 x&&decide (blB (r.drop (lt x).length)=[])) (skB (r.drop (lt x).length))with
    |none=>grind
    |some k=>rw[c]at h;cases h;have⟨h1,_⟩:=Bfu n _ _ _ c;have⟨_,e,g⟩:=A8I b;have f:=BjC (r.drop (lt x).length);have i:=Kd.2 g;have d:=Jh List.length e;rw[Yl]at d;rw[bg]at f;exact⟨Tl.2 ⟨B5i b,h1⟩,by simp[Aj7];omega⟩
def Bfv{s}{xs}(h:AsA s=some xs):(∀x∈xs,LxG x)/\Aj7 xs<=2*s.length:=by
 unfold AsA at h;split at h;. grind
 .have⟨h1,_⟩:=Bfu _ _ _ _ h;exact⟨h1,by have:=BjC s;omega⟩
def Bjn{x}(h:LxG x):1<=(lt x).length/\∀c∈lt x,c<256:=by
 have hi:∀{s},NmG s->∀c∈s,c<256:=λa c hc=>by have:=Bd0 (a.1 c hc);omega
 cases x with
 |sg s=>exact⟨(Biy (x:=.sg s) h).1,(Biy (x:=.sg s) h).2.2⟩
 |kw s=>exact⟨(Biy (x:=.kw s) h).1,(Biy (x:=.kw s) h).2.2⟩
 |nu n=>exact⟨(Biy (x:=.nu n) h).1,(Biy (x:=.nu n) h).2.2⟩
 |nm s=>exact⟨Kd.2 h.2.1,hi h⟩
 |wd s=>
  refine⟨by simp[lt],λc hc=>?_⟩;simp[lt,Ia,Tu,W7,Ww,Oq]at hc;rcases hc with rfl|hc|rfl;. simp
  .exact hi h c hc
  omega
def BrL:∀l p,(∀x∈l,LxG x)->(∀c∈jn p l,c<256)/\l.length<=(jn p l).length
|[],p,_=>⟨(λ_ h=>nomatch h),Wy _⟩
|x::r,p,h=>by have⟨_,_⟩:=BrL r (some x) λy a=>h y (Vo _ a);have⟨_,_⟩:=Bjn (h x Wm ..);refine⟨λc hc=>?_,by simp[jn,Yl,Y7];omega⟩;simp[jn,W7]at hc;grind
def DG:Dom:=⟨NmG,λ_ w=>NmG w⟩
def nst:Tr->Nat
|.leaf _=>0
|.one o a=>(Ag1 o a.op false).toNat+nst a+1
|.two o a b=>max ((Ag1 o a.op false).toNat+nst a) ((Ag1 o b.op true).toNat+nst b)
|.three c a b=>max (nst c) (max (nst a) (nst b))+1
def lvc
|false,0,p=>Ag1 4 p false
|false,1,p=>Ag1 6 p false
|false,_,p=>Ag1 7 p false
|true,0,p=>Ag1 16 p false
|true,1,p=>Ag1 15 p false
|true,_,p=>Ag1 17 p false
def Aq8{op p}(h:p≠8/\p≠4/\p≠5/\p≠6/\p≠16/\p≠15) r:Ag1 op p r=false:=by unfold Ag1;grind
def p6(p:Int):(p=8\/p=4\/p=5\/p=6\/p=16\/p=15)\/p≠8/\p≠4/\p≠5/\p≠6/\p≠16/\p≠15:=by omega
def A6l{o}{c}{k}(h:c=false/\((o=4\/o=5)/\k=0\/o=6/\k=1)\/c=true/\(o=16/\k=0\/o=15/\k=1)) p:Ag1 o p false=lvc c k p/\Ag1 o p true=lvc c (k+1) p:=by rcases h with⟨rfl,⟨rfl|rfl,rfl⟩|⟨rfl,rfl⟩⟩|⟨rfl,⟨rfl,rfl⟩|⟨rfl,rfl⟩⟩;all_goals first|exact⟨rfl,rfl⟩
def Bsg{c:Bool}{k:Nat}(a:k<2){p:Int}(h:lvc c k p=true):lvc c (k+1) p=true:=by
 have:k=0\/k=1:=by omega
 rcases this with rfl|rfl<;>cases c<;>rcases p6 p with(rfl|rfl|rfl|rfl|rfl|rfl)|hp;all_goals first|(revert h;decide)|(simp[lvc]at h;rw[Aq8 hp]at h;grind)
def wx(xs:List _) i:=Aj7 (xs.drop i)
variable {l:List Tok}{xs:List L3}
def A9a:∀{l} {xs} {i:Nat} {t},Tk2 l xs->l[i]?=some t->∃x,xs[i]?=some x/\AeT t x
|t::l,x::xs,0,u,K,h=>by cases h;exact⟨x,rfl,K.1⟩
|t::l,x::xs,i+1,u,K,h=>A9a (xs:=xs) K.2 h
|[],[],i,u,K,h=>by grind
def Bon(K:Tk2 l xs)(d:∀x∈xs,LxG x){i}{t}(h:l[i]?=some t):∃x,LxG x/\AeT t x/\wx xs i=(lt x).length+1+wx xs (i+1):=by have⟨x,h1,a⟩:=A9a K h;have⟨c,b⟩:=Wp.1 h1;refine⟨x,d x (Vl h1),a,?_⟩;unfold wx;rw[bc c,b];rfl
def B4R(K:Tk2 l xs)(e:∀x∈xs,LxG x){i}{t}(h:kAt l i 3=some t):Num t.n/\wx xs i=(V8 t.n).length+1+wx xs (i+1):=by have⟨h1,b⟩:=Agu h;have⟨x,d,a,c⟩:=Bon K e h1;cases x with
|nu n=>have⟨_,rfl⟩:=a;exact⟨d,c⟩
|_=>exact absurd (a.1.symm.trans b) (by simp)
def Bxr(K:Tk2 l xs)(e:∀x∈xs,LxG x){i}{t}(h:kAt l i 1=some t):NmG t.t/\wx xs i=t.t.length+1+wx xs (i+1):=by have⟨h1,b⟩:=Agu h;have⟨x,d,a,c⟩:=Bon K e h1;cases x with
|nm n=>have⟨_,rfl⟩:=a;exact⟨d,c⟩
|_=>exact absurd (a.1.symm.trans b) (by simp)
def Cbr(K:Tk2 l xs)(e:∀x∈xs,LxG x){i}{t}(h:kAt l i 4=some t):NmG t.t/\wx xs i=t.t.length+3+wx xs (i+1):=by have⟨h1,b⟩:=Agu h;have⟨x,d,a,c⟩:=Bon K e h1;cases x with
|wd n=>have⟨_,rfl⟩:=a;exact⟨d,by rw[c];simp[lt]⟩
|_=>exact absurd (a.1.symm.trans b) (by simp)
def BmX(K:Tk2 l xs)(c:∀x∈xs,LxG x){i}{t}(h1:l[i]?=some t)(d:t.k=2\/t.k=5):wx xs i=t.t.length+1+wx xs (i+1):=by have⟨x,_,a,b⟩:=Bon K c h1;cases x with
|sg s=>have⟨_,rfl⟩:=a;exact b
|kw s=>have⟨_,rfl⟩:=a;exact b
|nm n=>have:=a.1;omega
|nu n=>have:=a.1;omega
|wd n=>have:=a.1;omega
def Avr(K:Tk2 l xs)(b:∀x∈xs,LxG x){i:Nat}{s}(h:AfM l i s=true):wx xs i=s.length+1+wx xs (i+1):=by unfold AfM at h;rw[Lm]at h;cases a:l[i]? with
|none=>grind
|some t=>rw[a]at h;simp[Wx,W8]at h;rw[<- h.2];exact BmX K b a h.1
def Cbp(K:Tk2 l xs)(c:∀x∈xs,LxG x){i:Nat}(h:AqN l i≠[]):wx xs i=(AqN l i).length+1+wx xs (i+1):=by unfold AqN AeL at h ⊢;rw[Lm]at h ⊢;cases a:l[i]? with
|none=>grind
|some t=>
 by_cases b:t.k∈[2,5];. simp only[Xo b];exact BmX K c a (by grind)
 grind
def Cbq(K:Tk2 l xs)(c:∀x∈xs,LxG x){i}(h:sgT l i≠[]):wx xs i=(sgT l i).length+1+wx xs (i+1):=by unfold sgT at h ⊢;cases b:kAt l i 5 with
|none=>grind
|some t=>have⟨h1,a⟩:=Agu b;exact BmX K c h1 (.inr a)
def A88:∀{r} {s},(lvF r s).2=true->(s,(lvF r s).1)∈r
|[],s,h=>by cases h
|p::r,s,h=>by
 unfold lvF at h ⊢;split at h;. grind
 .rename_i e;rw[X2 e];exact Vo _ (A88 h)
def B5a{c}{k}(b:k<2){s}(h:(lvF (lvO c k) s).2=true):s≠[]/\(lt (opX (lvF (lvO c k) s).1)).length=s.length /\
 (c=false/\(((lvF (lvO c k) s).1=4\/(lvF (lvO c k) s).1=5)/\k=0\/(lvF (lvO c k) s).1=6/\k=1)\/c=true/\((lvF (lvO c k) s).1=16/\k=0\/(lvF (lvO c k) s).1=15/\k=1))/\lvc c k (lvF (lvO c k) s).1=false:=by
 have a:=A88 h;generalize (lvF _ s).1=op at *;have:k=0\/k=1:=by omega
 rcases this with rfl|rfl<;>cases c;. have a:(s,op)∈[([43],4),([45],5)]:=a;simp[Tu,Ww,Oq,Vn]at a;rcases a with⟨rfl,rfl⟩|⟨rfl,rfl⟩<;>decide
 .have a:(s,op)∈[([111,114],16)]:=a;simp[Tu,Ww,Oq,Vn]at a;obtain⟨rfl,rfl⟩:=a;decide
 .have a:(s,op)∈[([42],6)]:=a;simp[Tu,Ww,Oq,Vn]at a;obtain⟨rfl,rfl⟩:=a;decide
 .have a:(s,op)∈[(bm,15)]:=a;simp[Tu,Ww,Oq,Vn]at a;obtain⟨rfl,rfl⟩:=a;decide
def B3C{s}(h:(lvF BmG s).2=true):s≠[]/\(lt (opX (lvF BmG s).1)).length=s.length/\9<=(lvF BmG s).1/\(lvF BmG s).1<=14:=by have a:=A88 h;generalize (lvF _ s).1=op at *;simp[BmG,Tu,Ww,Oq,Vn]at a;rcases a with⟨rfl,rfl⟩|⟨rfl,rfl⟩|⟨rfl,rfl⟩|⟨rfl,rfl⟩|⟨rfl,rfl⟩|⟨rfl,rfl⟩<;>decide
def Bdc c tr x:Aj7 x<=Aj7 (brk c tr x):=by
 unfold brk;split;. split<;>simp[Aj7,A0k]<;>omega
 simp
def Btl{a b}(h:a=true->b=true) tr x:Aj7 (brk a tr x)<=Aj7 (brk b tr x):=by cases a with
|false=>exact Bdc b _ x
|true=>grind
def op9{D}{b}{t}(h:E7 D b t):decide (9<=t.op)=b:=by cases b with
|false=>have:=Bay h;grind
|true=>exact Ws (Bcz h).1
def toN(b:Bool):b.toNat<=1:=by cases b<;>decide
def BxO{a b}(h:a=true->b=true):a.toNat<=b.toNat:=by cases a with
|false=>simp
|true=>simp_all
def Bf2{m}{c}{k}{a x}{n}{o}(h:sp l m (.lp c k a) n o=some (x,n)):x=a:=by cases m with
|zero=>cases h
|succ m=>
 unfold sp at h;split at h;. cases b:sp l m (.ch c (k+1)) (n+1) o with
   |none=>grind
   |some y=>rw[b]at h;have h1:=(Afv l _ _ _ _ _ _ b).1;have d:=(Afv l _ _ _ _ _ _ h).1;grind
 simp_all
def B3G{m n:Nat}{tk:Tok}{x:Tr}(d:kAt l n 1=some tk)(h:sp l m .ex n p=some (x,n+1)):x=.leaf ⟨2,0,tk.t⟩:=by
 obtain⟨h1,g⟩:=Agu d;have f:∀s,¬ AfM l (n:Nat) s=true:=λs e=>by unfold AfM at e;grind
 have i:kAt l n 3=none:=by unfold kAt;grind
 cases m with
 |zero=>cases h
 |succ m=>unfold sp at h;rw[X2 (f _)]at h;cases m with
 |zero=>cases h
 |succ m=>unfold sp at h;rw[X2 fe]at h;cases a:sp l m (.ch false 1) n p with
 |none=>simp_all
 |some y=>
 obtain⟨y,j⟩:=y;rw[a]at h;have l1:=(Afv l _ _ _ _ _ _ a).1;have c:=(Afv l _ _ _ _ _ _ h).1;simp only[fr1]at l1 c;have:j=n+1:=by omega
 subst this;have e1:=Bf2 h;subst e1;cases m with
 |zero=>cases a
 |succ m=>unfold sp at a;rw[X2 fe]at a;cases b:sp l m (.ch false 2) n p with
 |none=>simp_all
 |some y=>
 obtain⟨y,j⟩:=y;rw[b]at a;have l1:=(Afv l _ _ _ _ _ _ b).1;have c:=(Afv l _ _ _ _ _ _ a).1;simp only[fr1]at l1 c;have:j=n+1:=by omega
 subst this;have e1:=Bf2 a;subst e1;cases m with
 |zero=>cases b
 |succ m=>unfold sp at b;rw[Xo fe,X2 (by simp)]at b;cases m with
 |zero=>cases b
 |succ m=>unfold sp at b;simp_all
def ct:NS->Bool
|.un=>false
|.ng=>true
|.cm=>true
|.ex=>false
|.cd=>true
|.ch c _=>c
|.lp c ..=>c
def cb:NS->Int->Bool
|.un,p=>lvc false 2 p
|.ng,p=>lvc true 2 p
|.ch c k,p=>lvc c k p
|.lp c k _,p=>lvc c k p
|_,_=>false
def bw:NS->Nat
|.lp c k a=>Aj7 (brk (lvc c k a.op) c (wr a))
|_=>0
def InA(o:Int):NS->Prop
|.lp c k a=>k<2/\E7 DG c a/\o+(lvc c k a.op).toNat+nst a<=50
|_=>True
structure B71(xs:List L3)(s:NS)(o:Int)(W:Nat)(t:Tr)(j:Nat):Prop where
 ty:E7 DG (ct s) t
 ns:o+(cb s t.op).toNat+nst t<=50
 w:Aj7 (brk (cb s t.op) (ct s) (wr t))+wx xs j<=W
 cm:s=.cm->t.op<=14
def BsF(K:Tk2 l xs)(B:∀x∈xs,LxG x):∀(m:Nat) (s:NS) (n:Nat) (o:Int) (t:Tr) (j:Nat),sp l m s n o=some (t,j)->o<=50->InA o s->B71 xs s o (bw s+wx xs n) t j:=by
 intro m;induction m with
 |zero=>intro s n o t j h;cases h
 |succ m v=>
  intro s n o t j h G hi;cases s with
  |un=>
   unfold sp at h;split at h
   .rename_i H;have w0:=Avr K B H;obtain⟨h,J⟩:=Ag2 h;cases q:sp l m .un (n+1) (o+1)with
    |none=>rw[q]at h;cases h
    |some x=>
     obtain⟨g,E⟩:=x;rw[q]at h;have h':some (Tr.one 7 g,E)=some (t,j):=h;cases h';obtain⟨d,u,i,_⟩:=v _ _ _ _ _ q om trivial;have d:E7 DG false g:=d;have u:o+1+((Ag1 7 g.op false).toNat:Nat)+nst g<=50:=u;have i:Aj7 (brk (Ag1 7 g.op false) false (wr g))+wx xs j<=0+wx xs (n+1):=i;refine⟨.inl ⟨rfl,rfl,d⟩,?_,?_,λe=>by cases e⟩
     .show o+((0:Nat):Int)+(((Ag1 7 g.op false).toNat+nst g+1:Nat):Int)<=50;omega
     .show(1+1+Aj7 (brk (Ag1 7 g.op false) (decide (9<=g.op)) (wr g)))+wx xs j<=0+wx xs n;rw[op9 d];simp only[Y7,Gx]at w0;omega
   .split at h
    .rename_i H;have w0:=Avr K B H;obtain⟨h,J⟩:=Ag2 h;obtain⟨E,q,rfl,hj,O⟩:=ApI h;have F:=Avr K B O;obtain⟨d,u,i,_⟩:=v _ _ _ _ _ q om trivial;have d:E7 DG false t:=d;have u:o+1+((0:Nat):Int)+(nst t:Int)<=50:=u;have i:Aj7 (wr t)+wx xs E<=0+wx xs (n+1):=i;have W:=Ba3 (cb .un t.op) false (wr t);have b2:=toN (cb .un t.op);refine⟨d,by omega,?_,λe=>by cases e⟩;show Aj7 (brk (cb .un t.op) false (wr t))+_<=0+wx xs n;simp only[Y7,Gx]at w0 F;omega
    .split at h
     .rename_i tk C;obtain⟨F,w0⟩:=B4R K B C;cases h;refine⟨⟨rfl,.inl ⟨rfl,rfl,F.1,F.2⟩⟩,?_,?_,λe=>by cases e⟩
      .show o+((0:Nat):Int)+((0:Nat):Int)<=50;omega
      .show(Nm.V8 tk.n).length+1+0+wx xs (n+1)<=0+wx xs n;omega
     .cases C:kAt l n 1 with
      |none=>rw[C]at h;cases h
      |some x=>
       obtain⟨F,w0⟩:=Bxr K B C;rw[C]at h;have h':some (Tr.leaf ⟨2,0,x.t⟩,n+1)=some (t,j):=h;cases h';refine⟨⟨rfl,.inr ⟨rfl,rfl,F⟩⟩,?_,?_,λe=>by cases e⟩
       .show o+((0:Nat):Int)+((0:Nat):Int)<=50;omega
       .show x.t.length+1+0+wx xs (n+1)<=0+wx xs n;omega
  |ng=>
   unfold sp at h;split at h
   .rename_i H;have w0:=Avr K B H;obtain⟨h,J⟩:=Ag2 h;cases q:sp l m .ng (n+1) (o+1)with
    |none=>rw[q]at h;cases h
    |some x=>
     obtain⟨g,E⟩:=x;rw[q]at h;have h':some (Tr.one 17 g,E)=some (t,j):=h;cases h';obtain⟨d,u,i,_⟩:=v _ _ _ _ _ q om trivial;have d:E7 DG true g:=d;have u:o+1+((Ag1 17 g.op false).toNat:Nat)+nst g<=50:=u;have i:Aj7 (brk (Ag1 17 g.op false) true (wr g))+wx xs j<=0+wx xs (n+1):=i;refine⟨.inr ⟨rfl,rfl,d⟩,?_,?_,λe=>by cases e⟩
     .show o+((0:Nat):Int)+(((Ag1 17 g.op false).toNat+nst g+1:Nat):Int)<=50;omega
     .show(3+1+Aj7 (brk (Ag1 17 g.op false) (decide (9<=g.op)) (wr g)))+wx xs j<=0+wx xs n;rw[op9 d];simp only[Y7,Gx]at w0;omega
   .split at h
    .rename_i H;have w0:=Avr K B H;obtain⟨h,J⟩:=Ag2 h;obtain⟨E,q,rfl,hj,O⟩:=ApI h;have F:=Avr K B O;obtain⟨d,u,i,_⟩:=v _ _ _ _ _ q om trivial;have d:E7 DG true t:=d;have u:o+1+((0:Nat):Int)+(nst t:Int)<=50:=u;have i:Aj7 (wr t)+wx xs E<=0+wx xs (n+1):=i;have W:=Ba3 (cb .ng t.op) true (wr t);have b2:=toN (cb .ng t.op);refine⟨d,by omega,?_,λe=>by cases e⟩;show Aj7 (brk (cb .ng t.op) true (wr t))+_<=0+wx xs n;simp only[Y7,Gx]at w0 F;omega
    .obtain⟨d,u,i,q4⟩:=v _ _ _ _ _ h G trivial;have q4:=q4 rfl;have d:E7 DG true t:=d;have hc:cb .ng t.op=false:=Aq8 (by have:=(Bcz d).1;omega) false
     refine⟨d,?_,?_,λe=>by cases e⟩
     .rw[hc];exact u
     .rw[hc];exact i
  |cm=>
   unfold sp at h;cases q:sp l m .ex n o with
   |none=>rw[q]at h;cases h
   |some x=>
    obtain⟨g,E⟩:=x;rw[q]at h;obtain⟨d,u,i,_⟩:=v _ _ _ _ _ q G trivial;have d:E7 DG false g:=d;have u:o+((0:Nat):Int)+(nst g:Int)<=50:=u;have i:Aj7 (wr g)+wx xs E<=0+wx xs n:=i;simp only[Yr]at h;split at h
    .rename_i hc;obtain⟨c1,c2,c3⟩:=B3C hc;have w0:=Cbq K B c1;generalize (lvF BmG (sgT l E)).1=op at *
     split at h
     .rename_i w hw;split at hw
      .rename_i hh;obtain⟨T,rfl,X⟩:=hh;obtain⟨F,w2⟩:=Cbr K B hw;cases C:kAt l n 1 with
       |none=>rw[C]at T;cases T
       |some tk=>
        have e:=B3G C q;subst e;cases h;have n1:=(Bxr K B C).1;refine⟨.inr (.inr (.inl ⟨rfl,X,⟨rfl,rfl,n1⟩,rfl,rfl,F⟩)),?_,?_,λ_=>c3.2⟩
        .show o+((0:Nat):Int)+((max ((Ag1 op 2 false).toNat+0) ((Ag1 op 3 true).toNat+0):Nat):Int)<=50;rw[Avg c3,Avg c3];show o+((0:Nat):Int)+((0:Nat):Int)<=50;omega
        .show Aj7 (brk (Ag1 op 2 false) (decide (9<=(2:Int))) [.nm tk.t]++opX op::brk (Ag1 op 3 true) (decide (9<=(3:Int))) [.wd w.t])+wx xs (n+1+2)<=0+wx xs n;rw[Avg c3,Avg c3,A0k];have i:tk.t.length+1+0+wx xs (n+1)<=0+wx xs n:=i;have w2:wx xs (n+1+1)=w.t.length+3+wx xs (n+1+2):=w2;show tk.t.length+1+0+((lt (opX op)).length+1+((39::w.t++[39]).length+1+0))+wx xs (n+1+2)<=0+wx xs n;simp only[Yl,Y7,Gx];omega
      .cases hw
     .cases A:sp l m .ex (E+1) o with
      |none=>rw[A]at h;cases h
      |some y=>
       obtain⟨z,U⟩:=y;rw[A]at h;obtain⟨r1,r2,r3,_⟩:=v _ _ _ _ _ A G trivial;have r1:E7 DG false z:=r1;have r2:o+((0:Nat):Int)+(nst z:Int)<=50:=r2;have r3:Aj7 (wr z)+wx xs U<=0+wx xs (E+1):=r3;simp only[dy,ef,Vn]at h;obtain⟨rfl,rfl⟩:=h;refine⟨.inr (.inl ⟨rfl,c3,d,r1⟩),?_,?_,λ_=>c3.2⟩
       .show o+((0:Nat):Int)+((max ((Ag1 op g.op false).toNat+nst g) ((Ag1 op z.op true).toNat+nst z):Nat):Int)<=50;rw[Avg c3,Avg c3];show o+((0:Nat):Int)+((max (0+nst g) (0+nst z):Nat):Int)<=50;omega
       .show Aj7 (brk (Ag1 op g.op false) (decide (9<=g.op)) (wr g)++opX op::brk (Ag1 op z.op true) (decide (9<=z.op)) (wr z))+wx xs U<=0+wx xs n;rw[Avg c3,Avg c3,A0k];show Aj7 (wr g)+((lt (opX op)).length+1+Aj7 (wr z))+wx xs U<=0+wx xs n;omega
    .cases h
  |ex=>
   unfold sp at h;split at h
   .rename_i H;have w0:=Avr K B H;obtain⟨h,J⟩:=Ag2 h;cases q:fo l uf (sp l m .cd (n+1) (o+1))with
    |none=>rw[q]at h;cases h
    |some x=>
     obtain⟨f,L⟩:=x;rw[q]at h;obtain⟨V,hz1,rfl,hj1,s1⟩:=ApI q;have F:=Avr K B s1;simp only[Yr]at h;cases A:fo l ug (sp l m .ex (V+1) (o+1))with
     |none=>rw[A]at h;cases h
     |some y=>
      obtain⟨z,U⟩:=y;rw[A]at h;obtain⟨k2,Y,rfl,hj2,s2⟩:=ApI A;have w2:=Avr K B s2;simp only[Yr]at h;cases P:sp l m .ex (k2+1) (o+1)with
      |none=>rw[P]at h;cases h
      |some w=>
       obtain⟨t3,j3⟩:=w;rw[P]at h;simp only[dy,ef,Vn]at h;obtain⟨rfl,rfl⟩:=h;obtain⟨I,a2,M,_⟩:=v _ _ _ _ _ hz1 om trivial;obtain⟨W,b2,b3,_⟩:=v _ _ _ _ _ Y om trivial;obtain⟨c1,c2,c3,_⟩:=v _ _ _ _ _ P om trivial;have a2:o+1+((0:Nat):Int)+(nst f:Int)<=50:=a2;have b2:o+1+((0:Nat):Int)+(nst z:Int)<=50:=b2;have c2:o+1+((0:Nat):Int)+(nst t3:Int)<=50:=c2;have M:Aj7 (wr f)+wx xs V<=0+wx xs (n+1):=M;have b3:Aj7 (wr z)+wx xs k2<=0+wx xs (V+1):=b3;have c3:Aj7 (wr t3)+wx xs j3<=0+wx xs (k2+1):=c3;refine⟨⟨rfl,I,W,c1⟩,?_,?_,λe=>by cases e⟩
       .show o+((0:Nat):Int)+((max (nst f) (max (nst z) (nst t3))+1:Nat):Int)<=50;omega
       .show Aj7 (.kw [105,102]::wr f++.kw uf::wr z++.kw ug::wr t3)+wx xs j3<=0+wx xs n;simp only[A0k,Aj7,Ia,lt,Y7,Gx]at *
        omega
   .obtain⟨d,u,i,_⟩:=v _ _ _ _ _ h G trivial;have i:Aj7 (brk (lvc false 0 t.op) false (wr t))+wx xs j<=0+wx xs n:=i;have b:=Bdc (lvc false 0 t.op) false (wr t);refine⟨d,?_,?_,λe=>by cases e⟩
    .show o+((0:Nat):Int)+(nst t:Int)<=50;omega
    .show Aj7 (wr t)+wx xs j<=0+wx xs n;omega
  |cd=>
   have h':sp l m (.ch true 0) n o=some (t,j):=h;obtain⟨d,u,i,_⟩:=v _ _ _ _ _ h' G trivial;have i:Aj7 (brk (lvc true 0 t.op) true (wr t))+wx xs j<=0+wx xs n:=i;have b:=Bdc (lvc true 0 t.op) true (wr t);refine⟨d,?_,?_,λe=>by cases e⟩
   .show o+((0:Nat):Int)+(nst t:Int)<=50;omega
   .show Aj7 (wr t)+wx xs j<=0+wx xs n;omega
  |ch c k=>
   unfold sp at h;split at h
   .rename_i C;obtain⟨k',rfl⟩:∃k',k=k'+2:=⟨k-2,by omega⟩;split at h
    .rename_i hc;subst hc;obtain⟨d,u,i,_⟩:=v _ _ _ _ _ h G trivial;exact⟨d,u,i,λe=>by cases e⟩
    .rename_i hc;have:c=false:=by simpa using hc
     subst this;obtain⟨d,u,i,_⟩:=v _ _ _ _ _ h G trivial;exact⟨d,u,i,λe=>by cases e⟩
   .rename_i C;cases q:sp l m (.ch c (k+1)) n o with
    |none=>rw[q]at h;cases h
    |some x=>obtain⟨f,L⟩:=x;rw[q]at h;obtain⟨I,a2,M,_⟩:=v _ _ _ _ _ q G trivial;have I:E7 DG c f:=I;have a2:o+((lvc c (k+1) f.op).toNat:Nat)+nst f<=50:=a2;have M:Aj7 (brk (lvc c (k+1) f.op) c (wr f))+wx xs L<=0+wx xs n:=M;have u1:=BxO (Bsg (c:=c) (k:=k) (p:=f.op) om);have u2:=Btl (Bsg (c:=c) (k:=k) (p:=f.op) om) c (wr f);have h:sp l m (.lp c k f) L o=some (t,j):=h;obtain⟨d,u,i,_⟩:=v _ _ _ _ _ h G ⟨by omega,I,by omega⟩;have i:Aj7 (brk (lvc c k t.op) c (wr t))+wx xs j<=Aj7 (brk (lvc c k f.op) c (wr f))+wx xs L:=i;refine⟨d,u,?_,λe=>by cases e⟩;show Aj7 (brk (lvc c k t.op) c (wr t))+wx xs j<=0+wx xs n;omega
  |lp c k a=>
   obtain⟨C,i1,i2⟩:=hi;unfold sp at h;split at h
   .rename_i H;obtain⟨v1,v2,R,v4⟩:=B5a C H;have w0:=Cbp K B v1;generalize (lvF (lvO c k) (AqN l (n:Nat))).1=op at *;cases q:sp l m (.ch c (k+1)) (n+1) o with
    |none=>rw[q]at h;cases h
    |some x=>
     obtain⟨f,L⟩:=x;rw[q]at h;obtain⟨I,a2,M,_⟩:=v _ _ _ _ _ q G trivial;have I:E7 DG c f:=I;have a2:o+((lvc c (k+1) f.op).toNat:Nat)+nst f<=50:=a2;have M:Aj7 (brk (lvc c (k+1) f.op) c (wr f))+wx xs L<=0+wx xs (n+1):=M;have e1:=(A6l R a.op).1;have e2:=(A6l R f.op).2;have hty:E7 DG c (.two op a f):=by
      rcases R with⟨rfl,R⟩|⟨rfl,R⟩;. exact .inl ⟨rfl,by omega,i1,I⟩
      .exact .inr (.inr (.inr ⟨rfl,by omega,i1,I⟩))
     have hns:o+((lvc c k op).toNat:Nat)+(nst (.two op a f):Nat)<=50:=by rw[v4];show o+((0:Nat):Int)+((max ((Ag1 op a.op false).toNat+nst a) ((Ag1 op f.op true).toNat+nst f):Nat):Int)<=50;rw[e1,e2];omega
     have h:sp l m (.lp c k (.two op a f)) L o=some (t,j):=h;obtain⟨d,u,i,_⟩:=v _ _ _ _ _ h G ⟨C,hty,hns⟩;have i:Aj7 (brk (lvc c k t.op) c (wr t))+wx xs j<=Aj7 (brk (lvc c k op) c (wr (.two op a f)))+wx xs L:=i;refine⟨d,u,?_,λe=>by cases e⟩;show Aj7 (brk (lvc c k t.op) c (wr t))+wx xs j<=Aj7 (brk (lvc c k a.op) c (wr a))+wx xs n;have e3:Aj7 (brk (lvc c k op) c (wr (.two op a f)))=Aj7 (brk (lvc c k a.op) c (wr a))+((lt (opX op)).length+1+Aj7 (brk (lvc c (k+1) f.op) c (wr f))):=by rw[v4];show Aj7 (brk (Ag1 op a.op false) (decide (9<=a.op)) (wr a)++opX op::brk (Ag1 op f.op true) (decide (9<=f.op)) (wr f))=_;rw[e1,e2,op9 i1,op9 I,A0k];rfl
     omega
   .cases h;exact⟨i1,i2,Ye _,λe=>by cases e⟩
variable {D:Dom}{t:Tr}{lx:List L3}{N:Nat}
def RdN nt t l N:=∃d m,d<=N/\Aan nt d m t l
def RdN.le{nt}{M}(h:RdN nt t lx N)(h1:N<=M):RdN nt t lx M:=by have⟨d,m,_,a⟩:=h;exact⟨d,m,by omega,a⟩
def RdN.s{nt a}{b}{c}{k}(h:RdN nt t lx N)(f:∀d m,Aan nt d m t lx->Aan a (d+k) (m+1) b c):RdN a b c (N+k):=by have⟨d,m,_,e⟩:=h;exact⟨_,_,by omega,f d m e⟩
def RdN.up{c}:∀{k j},RdN (.ch c k) t lx N->k<=2->j<=k->RdN (.ch c j) t lx N
|k,j,h,a,hj=>by
 by_cases e:j=k;. grind
 .obtain⟨k,rfl⟩:∃k',k=k'+1:=⟨k-1,by omega⟩;exact RdN.up (h.s (k:=0) λd m=>.up om) om om
def RdN.un(h:RdN .un t lx N){k}(a:k<=2):RdN (.ch false k) t lx N:=(h.s (k:=0) λd m=>.opn).up (Ye _) a
def RdN.ng(h:RdN .ng t lx N){k}(a:k<=2):RdN (.ch true k) t lx N:=(h.s (k:=0) λd m=>.opc).up (Ye _) a
def RdN.ex(h:RdN (.ch false 0) t lx N):RdN .ex t lx N:=h.s (k:=0) λd m=>.ext
def RdN.cd(h:RdN (.ch true 0) t lx N):RdN .cd t lx N:=h.s (k:=0) λd m=>.cnd
def Bf4{o}(h:9<=o/\o<=14):nl o=.cm:=by unfold nl;grind
def AtN(a:E7 D false t)(h:RdN (nl t.op) t lx N):RdN .ex t lx N:=by
 rcases Bay a with e|e|e|e|e|e|e<;>rw[e]at h;. exact(RdN.un h (by simp)).ex
 .exact(RdN.un h (by omega)).ex
 .exact RdN.ex h
 .exact RdN.ex h
 .exact(RdN.up h (by simp) (by omega)).ex
 .exact(RdN.un h (by simp)).ex
 .exact h
def A7H(a:E7 D true t)(h:RdN (nl t.op) t lx N):RdN .cd t lx N:=by
 have:t.op=15\/t.op=16\/t.op=17\/9<=t.op/\t.op<=14:=by have:=Bcz a;omega
 rcases this with e|e|e|e;. rw[e]at h;exact(RdN.up h (by simp) (by omega)).cd
 .rw[e]at h;exact RdN.cd h
 .rw[e]at h;exact(RdN.ng h (by simp)).cd
 .rw[Bf4 e]at h;exact(RdN.ng (h.s (k:=0) λd m=>.cmp) (by omega)).cd
def BsH(a:E7 D false t)(h:RdN (nl t.op) t (wr t) N):RdN .un t (brk (lvc false 2 t.op) false (wr t)) ((lvc false 2 t.op).toNat+N):=by cases hc:lvc _ 2 _ with
|true=>exact((AtN a h).s λd m=>.par).le (show N+1<=1+N by omega)
|false=>
 rcases Bay a with e|e|e|e|e|e|e<;>rw[e]at h hc;. exact h.le om
 .exact h.le om
 .cases hc
 .cases hc
 .cases hc
 .exact h.le om
 .cases hc
def Bss(a:E7 D true t)(h:RdN (nl t.op) t (wr t) N):RdN .ng t (brk (lvc true 2 t.op) true (wr t)) ((lvc true 2 t.op).toNat+N):=by cases hc:lvc _ 2 _ with
|true=>exact((A7H a h).s λd m=>.bra).le (show N+1<=1+N by omega)
|false=>
 have:t.op=15\/t.op=16\/t.op=17\/9<=t.op/\t.op<=14:=by have:=Bcz a;omega
 rcases this with e|e|e|e;. rw[e]at hc;cases hc
 .rw[e]at hc;cases hc
 .rw[e]at h;exact h.le om
 .rw[Bf4 e]at h;exact(h.s (k:=0) λd m=>.cmp).le om
def BeX{c:Bool}{k:Nat}(a:E7 D c t)(h:RdN (nl t.op) t (wr t) N)(d:k<=2):RdN (.ch c k) t (brk (lvc c k t.op) c (wr t)) ((lvc c k t.op).toNat+N):=by
 have f:RdN (.ch c 2) t (brk (lvc c 2 t.op) c (wr t)) ((lvc c 2 t.op).toNat+N):=by
  cases c;. exact(BsH a h).un (Ye _)
  .exact(Bss a h).ng (Ye _)
 have same:lvc c k t.op=lvc c 2 t.op->RdN (.ch c k) t (brk (lvc c k t.op) c (wr t)) ((lvc c k t.op).toNat+N):=λe=>by rw[e];exact f.up (Ye _) d
 have:k=0\/k=1\/k=2:=by omega
 have b:∀{j:Nat},k<=j->j<=2->lvc c k t.op=false->RdN (.ch c j) t (wr t) N->RdN (.ch c k) t (brk (lvc c k t.op) c (wr t)) ((lvc c k t.op).toNat+N):=λh1 i e g=>by rw[e];exact(g.up i h1).le om
 rcases p6 t.op with(e|e|e|e|e|e)|hp
 .rw[e]at h same ⊢;cases c;. exact same (by rcases this with rfl|rfl|rfl<;>rfl)
  .have:=Bcz a;omega
 .cases c
  .rcases this with rfl|rfl|rfl;. exact b (j:=0) fe fe (by rw[e];rfl) (by rw[e]at h;exact h)
   .exact same (by rw[e];rfl)
   omega
  .have:=Bcz a;omega
 .cases c
  .rcases this with rfl|rfl|rfl;. exact b (j:=0) fe fe (by rw[e];rfl) (by rw[e]at h;exact h)
   .exact same (by rw[e];rfl)
   .exact same rfl
  .have:=Bcz a;omega
 .cases c
  .rcases this with rfl|rfl|rfl;. exact b (j:=1) fe fe (by rw[e];rfl) (by rw[e]at h;exact h)
   .exact b (j:=1) fe fe (by rw[e];rfl) (by rw[e]at h;exact h)
   .exact same rfl
  .have:=Bcz a;omega
 .cases c;. have:=Bay a;omega
  .rcases this with rfl|rfl|rfl;. exact b (j:=0) fe fe (by rw[e];rfl) (by rw[e]at h;exact h)
   .exact same (by rw[e];rfl)
   .exact same rfl
 .cases c;. have:=Bay a;omega
  .rcases this with rfl|rfl|rfl;. exact b (j:=1) fe fe (by rw[e];rfl) (by rw[e]at h;exact h)
   .exact b (j:=1) fe fe (by rw[e];rfl) (by rw[e]at h;exact h)
   .exact same rfl
 .refine same ?_;have hn:∀k,lvc c k t.op=false:=λk=>by cases c<;>rcases k with _|_|_<;>exact Aq8 hp _
  rw[hn,hn]
def Bf9{c}{k}{o}{a b}{d lb}{N1 R9}(h:c=false/\((o=4\/o=5)/\k=0\/o=6/\k=1)\/c=true/\(o=16/\k=0\/o=15/\k=1))(f:RdN (.ch c k) a d N1)(i:RdN (.ch c (k+1)) b lb R9):RdN (.ch c k) (.two o a b) (d++opX o::lb) (max N1 R9):=by
 have:opW c k o=some (opX o)/\k<2:=by rcases h with⟨rfl,⟨rfl|rfl,rfl⟩|⟨rfl,rfl⟩⟩|⟨rfl,⟨rfl,rfl⟩|⟨rfl,rfl⟩⟩<;>exact⟨rfl,by simp⟩
 have⟨h1,g⟩:=this;have⟨_,_,_,m⟩:=f;have⟨_,_,_,e⟩:=i;exact⟨_,_,by omega,.bin g h1 m e⟩
def AkN:∀{t:Tr} {b:Bool},E7 D b t->RdN (nl t.op) t (wr t) (nst t)
|.leaf x,b,h=>by
 obtain⟨_,⟨h1,e,f,M⟩|⟨h1,e,f⟩⟩:=h;. obtain⟨o,n,c⟩:=x;simp only at h1 e;subst h1;subst e;exact⟨0,0,Wy _,.num n⟩
 .obtain⟨o,n,c⟩:=x;simp only at h1 e;subst h1;subst e;exact⟨0,0,Wy _,.Zn c⟩
|.one o a,b,h=>by
 rcases h with⟨rfl,rfl,e⟩|⟨rfl,rfl,e⟩;. have B:=BsH e (AkN e);have:RdN .un (.one 7 a) (.sg [45]::brk (lvc false 2 a.op) false (wr a)) ((lvc false 2 a.op).toNat+nst a+1):=B.s λd m q=>.neg q;show RdN .un _ (.sg [45]::brk (Ag1 7 a.op false) (decide (9<=a.op)) (wr a)) _;rw[op9 e];exact this
 .have B:=Bss e (AkN e);have:RdN .ng (.one 17 a) (.kw ur::brk (lvc true 2 a.op) true (wr a)) ((lvc true 2 a.op).toNat+nst a+1):=B.s λd m q=>.not q;show RdN .ng _ (.kw ur::brk (Ag1 17 a.op false) (decide (9<=a.op)) (wr a)) _;rw[op9 e];exact this
|.two o a c,b,h=>by
 rcases h with⟨rfl,h1,e,f⟩|⟨rfl,h1,e,f⟩|⟨rfl,h1,e⟩|⟨rfl,h1,e,f⟩
 .obtain⟨k,v,hn,J⟩:∃k,((o=4\/o=5)/\k=0\/o=6/\k=1)/\nl o=.ch false k/\k<=1:=by
   rcases h1 with rfl|rfl|rfl;. exact⟨0,by decide,rfl,by decide⟩
   .exact⟨0,by decide,rfl,by decide⟩
   .exact⟨1,by decide,rfl,by decide⟩
  have g:=(.inl ⟨rfl,v⟩:(false=false/\((o=4\/o=5)/\k=0\/o=6/\k=1))\/(false=true/\(o=16/\k=0\/o=15/\k=1)));have:=Bf9 g (BeX (k:=k) e (AkN e) om) (BeX (k:=k+1) f (AkN f) om);rw[<- (A6l g a.op).1,<- (A6l g c.op).2]at this;show RdN (nl o) _ (brk (Ag1 o a.op false) (decide (9<=a.op)) (wr a)++opX o::brk (Ag1 o c.op true) (decide (9<=c.op)) (wr c)) _;rw[hn,op9 e,op9 f];exact this
 .show RdN (nl o) _ (brk (Ag1 o a.op false) (decide (9<=a.op)) (wr a)++opX o::brk (Ag1 o c.op true) (decide (9<=c.op)) (wr c)) (max ((Ag1 o a.op false).toNat+nst a) ((Ag1 o c.op true).toNat+nst c));obtain⟨d1,m1,I,w⟩:=AtN e (AkN e);obtain⟨d2,u,r1,i⟩:=AtN f (AkN f);obtain⟨e1,z⟩:=A6K h1;rw[Bf4 h1,Avg h1,Avg h1,z];exact⟨max d1 d2,m1+u+1,by show _<=max (0+_) (0+_);omega,.two e1 w i⟩
 .obtain⟨x,y,rfl,rfl,⟨F,E,K⟩,C,G,L⟩:=Agn e;obtain⟨P,n1,A⟩:=x;obtain⟨O,T,c2⟩:=y;simp only at F E C G;subst F E C G;obtain⟨e1,z⟩:=A6K (o:=o) om;refine⟨0,5,Wy _,?_⟩;show Aan (nl o) 0 5 _ (brk (Ag1 o 2 false) _ [.nm A]++opX o::brk (Ag1 o 3 true) _ [.wd c2]);rw[Bf4 om,Avg om,Avg om,z];exact .wrd o _ A c2 h1 e1 (.ext (.up fe (.up fe (.opn (.Zn A)))))
 .obtain⟨k,v,hn,J⟩:∃k,(o=16/\k=0\/o=15/\k=1)/\nl o=.ch true k/\k<=1:=by
   rcases h1 with rfl|rfl;. exact⟨1,by decide,rfl,by decide⟩
   .exact⟨0,by decide,rfl,by decide⟩
  have g:=(.inr ⟨rfl,v⟩:(true=false/\((o=4\/o=5)/\k=0\/o=6/\k=1))\/(true=true/\(o=16/\k=0\/o=15/\k=1)));have:=Bf9 g (BeX (k:=k) e (AkN e) om) (BeX (k:=k+1) f (AkN f) om);rw[<- (A6l g a.op).1,<- (A6l g c.op).2]at this;show RdN (nl o) _ (brk (Ag1 o a.op false) (decide (9<=a.op)) (wr a)++opX o::brk (Ag1 o c.op true) (decide (9<=c.op)) (wr c)) _;rw[hn,op9 e,op9 f];exact this
|.three p a c,b,h=>by obtain⟨rfl,h1,e,f⟩:=h;obtain⟨d1,m1,I,w⟩:=A7H h1 (AkN h1);obtain⟨d2,u,r1,i⟩:=AtN e (AkN e);obtain⟨d3,H,R,s3⟩:=AtN f (AkN f);exact⟨max d1 (max d2 d3)+1,m1+u+H+1,by simp only[nst];omega,.iff w i s3⟩
def hdV(x:L3):=(∃n,x=.nu n)\/(∃c,x=.nm c)\/x=.sg [45]\/x=.sg [40]
def hdF x:=hdV x\/x=.kw [105,102]
def HdN:NT->L3->Prop
|.un,x=>hdV x
|.ch false _,x=>hdV x
|.ex,x=>hdF x
|.cm,x=>hdF x
|_,_=>True
def Bj6{nt}{d m}{t}{xs}(h:Aan nt d m t xs):∃x r,xs=x::r/\HdN nt x:=by induction h with
|num n=>exact⟨_,_,rfl,.inl ⟨n,rfl⟩⟩
|Zn c=>exact⟨_,_,rfl,.inr (.inl ⟨c,rfl⟩)⟩
|neg _ _=>exact⟨_,_,rfl,.inr (.inr (.inl rfl))⟩
|par _ _=>exact⟨_,_,rfl,.inr (.inr (.inr rfl))⟩
|opn _ a=>exact a
|opc _ a=>obtain⟨x,r,rfl,_⟩:=a;exact⟨x,r,rfl,trivial⟩
|@up c k _ _ _ _ _ _ a=>cases c<;>exact a
|@bin c k _ _ _ _ _ _ _ _ _ _ _ _ _ _ a _=>grind
|ext _ a=>obtain⟨x,r,rfl,h1⟩:=a;exact⟨x,r,rfl,.inl h1⟩
|iff _ _ _ _ _ _=>exact⟨_,_,rfl,.inr rfl⟩
|cnd _ a=>obtain⟨x,r,rfl,_⟩:=a;exact⟨x,r,rfl,trivial⟩
|not _ _=>exact⟨_,_,rfl,trivial⟩
|bra _ _=>exact⟨_,_,rfl,trivial⟩
|cmp _ a=>obtain⟨x,r,rfl,_⟩:=a;exact⟨x,r,rfl,trivial⟩
|two _ _ _ a _=>obtain⟨y,r,rfl,h1⟩:=a;exact⟨y,_,rfl,h1⟩
|wrd op s c w _ _ _ _=>exact⟨_,_,rfl,.inl (.inr (.inl ⟨c,rfl⟩))⟩
variable {n:Nat}{r:List L3}{x:L3}
def nxt:L3->uq
|.sg s=>s
|.kw s=>s
|_=>[]
def kix:L3->Int
|.sg _=>5
|.kw _=>2
|.nm _=>1
|.nu _=>3
|.wd _=>4
def BfD{t}(h:AeT t x):t.k=kix x:=by cases x<;>exact h.1
def Wf(h:AaO l n (x::r)){s}:AfM l n s=(decide (kix x=2\/kix x=5)&&decide (nxt x=s)):=by have⟨⟨t,h1,a⟩,_⟩:=h;unfold AfM;rw[Lm,h1];simp[BfD a];cases x with
|sg u=>rw[a.2];rfl
|kw u=>rw[a.2];rfl
|_=>rfl
def B1r(h:AaO l n (x::r)){k}(b:kix x≠k):kAt l n k=none:=by have⟨⟨t,h1,a⟩,_⟩:=h;unfold kAt;rw[h1];show(if t.k=k then some t else none)=none;rw[X2 (by rw[BfD a];omega)]
def A7t(h:AaO l n (x::r)):∃t,kAt l n (kix x)=some t/\AeT t x:=by have⟨⟨t,h1,a⟩,_⟩:=h;unfold kAt;rw[h1];exact⟨t,Xo (BfD a),a⟩
def BeU(h:AaO l n (x::r)):AqN l n=nxt x:=by have⟨⟨t,h1,a⟩,_⟩:=h;unfold AqN AeL;rw[Lm,h1];cases x with
|sg u=>simp only[Xo (by rw[a.1];decide:t.k∈[2,5])];exact a.2
|kw u=>simp only[Xo (by rw[a.1];simp:t.k∈[2,5])];exact a.2
|nm u=>simp only[X2 (by rw[a.1];simp:¬ t.k∈[2,5])];rfl
|nu u=>simp only[X2 (by rw[a.1];decide:¬ t.k∈[2,5])];rfl
|wd u=>simp only[X2 (by rw[a.1];decide:¬ t.k∈[2,5])];rfl
def StC c k l j:=AmQ c k l j/\(c=true->AmQ false 0 l j)
def Sto:NT->List Tok->Nat->Prop
|.un,_,_=>True
|.ch c k,l,j=>StC c k l j
|.cd,l,j=>StC true 0 l j
|_,l,j=>AmQ false 0 l j
def StC.le{c}{k k'}{j}(h:StC c k l j)(a:k<=k'):StC c k' l j:=⟨λq h1=>h.1 q om,h.2⟩
def nop s:=!(lvF (lvO false 0) s).2&&!(lvF (lvO false 1) s).2&&!(lvF (lvO true 0) s).2&&!(lvF (lvO true 1) s).2
def A0K(h:AaO l n (x::r))(b:nop (nxt x)=true) c k:StC c k l n:=by
 have a:∀c,AmQ c 0 l n:=λc k' _ d=>by
  rw[BeU h];unfold nop at b;have:k'=0\/k'=1:=by omega
  simp[Wx,Bool.not_eq_true']at b;have⟨⟨⟨_,_⟩,_⟩,_⟩:=b;rcases this with rfl|rfl<;>cases c<;>assumption
 exact StC.le ⟨a c,λ_=>a _⟩ (Wy _)
def AaO.tl{y}(h:AaO l n (y::r)):AaO l (n+1) r:=h.2
def nsO:NT->NS
|.ex=>.ex
|.un=>.un
|.cd=>.cd
|.ng=>.ng
|.cm=>.cm
|.ch c k=>.ch c k
def Bsp nt(d:Nat) t lx:=∀l n (o:Int),AaO l n lx->o+d<=50->Sto nt l (n+lx.length)->∀m,12*lx.length+rk (nsO nt)<=m->sp l m (nsO nt) n o=some (t,n+lx.length)
def T2 c k(d:Nat) t lx:=∀l n (o:Int),AaO l n lx->o+d<=50->StC c (k+1) l (n+lx.length)->∀m,12*lx.length+rk (.ch c k)<=m->∃a,m<=a+lx.length/\sp l m (.ch c k) n o=sp l a (.lp c k t) (n+lx.length) o
def B5D{c}{k}(a:k<2):rk (.ch c (k+1))+1=rk (.ch c k):=by
 have:k=0\/k=1:=by omega
 rcases this with rfl|rfl<;>cases c<;>rfl
def BsC{c}{k}(a:k<=2):2<=rk (.ch c k)/\rk (.ch c k)<=10:=by
 have:k=0\/k=1\/k=2:=by omega
 rcases this with rfl|rfl|rfl<;>cases c<;>decide
def BhR{c}{k d}(f:k<2)(q:0<lx.length)(h:T2 c k d t lx):Bsp (.ch c k) d t lx:=by intro l n o i g b m e;have⟨a,_,p⟩:=h l n o i g (StC.le b (U3 _)) m e;show sp l m (.ch c k) n o=_;rw[p];obtain⟨a,rfl⟩:∃m1,a=m1+1:=⟨a-1,by omega⟩;unfold sp;rw[X2 (by rw[b.1 k (Ye _) f];simp)]
def Btj{c}{k d}(a:k<2)(g:0<lx.length)(h:Bsp (.ch c (k+1)) d t lx):T2 c k d t lx:=by
 intro l n o e b f m i;have p:=B5D (c:=c) a;obtain⟨m,rfl⟩:∃m1,m=m1+1:=⟨m-1,by omega⟩;have:=h l n o e b f m (by show _+rk (.ch c _)<=m;omega);refine⟨m,by omega,?_⟩;conv=>lhs;unfold sp
 rw[X2 om,show sp l m (.ch c _) n o=_ from this];rfl
def B5k{c}{k}{op}{x}(d:k<2)(h:opW c k op=some x):lvF (lvO c k) (nxt x)=(op,true)/\(∀k',k+1<=k'->k'<2->(lvF (lvO c k') (nxt x)).2=false)/\(c=true->∀k',k'<2->(lvF (lvO false k') (nxt x)).2=false):=by
 have hc:∀{p:Nat->Bool},p 0=false->p 1=false->∀k',k'<2->p k'=false:=λg h1 k' a=>by grind
 have b:∀{p:Nat->Bool},p 1=false->∀k',0+1<=k'->k'<2->p k'=false:=λh1 k' f a=>by grind
 unfold opW at h;split at h<;>first|cases h
 .exact⟨rfl,b rfl,λe=>by cases e⟩
 .exact⟨rfl,b rfl,λe=>by cases e⟩
 .exact⟨rfl,λk' _ _=>by omega,λe=>by grind⟩
 .exact⟨rfl,b rfl,λ_=>hc rfl rfl⟩
 .exact⟨rfl,λk' _ _=>by omega,λ_=>hc rfl rfl⟩
def Brl{op}{s}(h:cmW op=some s):lvF BmG s=(op,true)/\nop s=true:=by unfold cmW at h;split at h<;>first|(cases h;decide)|grind
def BwW{x}(h:hdV x):(decide (kix x=2\/kix x=5)&&decide (nxt x=[105,102]))=false:=by rcases h with⟨n,rfl⟩|⟨c,rfl⟩|rfl|rfl<;>rfl
def BiH{x}(h:hdF x):(decide (kix x=2\/kix x=5)&&decide (nxt x=ur))=false/\(decide (kix x=2\/kix x=5)&&decide (nxt x=[91]))=false/\kix x≠4:=by rcases h with(⟨n,rfl⟩|⟨c,rfl⟩|rfl|rfl)|rfl<;>exact⟨rfl,rfl,by simp[kix]⟩
def BsA{nt:NT}{d m:Nat}{t:Tr}{lx:List L3}(h:Aan nt d m t lx):Bsp nt d t lx/\0<lx.length/\∀c k,nt=.ch c k->k<2->T2 c k d t lx:=by
 induction h with
 |num v=>refine⟨λl n o f z q m i=>?_,by(simp only[Yl,Y7];omega),λc k e=>by cases e⟩;obtain⟨m,rfl⟩:∃m1,m=m1+1:=⟨m-1,by simp[rk,nsO]at i;omega⟩;obtain⟨tk,h1,A⟩:=A7t f;have h1:kAt l n 3=some tk:=h1;show sp l (m+1) .un n o=_;unfold sp;rw[X2 (by simp[Wf f,kix,nxt]),X2 (by simp[Wf f,kix,nxt]),h1];show some (Tr.leaf ⟨1,tk.n,[]⟩,n+1)=_;rw[A.2];rfl
 |Zn c=>refine⟨λl n o f z q m i=>?_,by(simp only[Yl,Y7];omega),λc k e=>by cases e⟩;obtain⟨m,rfl⟩:∃m1,m=m1+1:=⟨m-1,by simp[rk,nsO]at i;omega⟩;obtain⟨tk,h1,A⟩:=A7t f;have h1:kAt l n 1=some tk:=h1;show sp l (m+1) .un n o=_;unfold sp;rw[X2 (by simp[Wf f,kix,nxt]),X2 (by simp[Wf f,kix,nxt]),B1r f (by simp[kix]),h1];show some (Tr.leaf ⟨2,0,tk.t⟩,n+1)=_;rw[A.2];rfl
 |@neg d m a g _ p=>
  refine⟨λl n o f z q m i=>?_,by(simp only[Yl,Y7];omega),λc k e=>by cases e⟩;simp only[Y7,nsO,rk]at i;obtain⟨m,rfl⟩:∃m1,m=m1+1:=⟨m-1,by omega⟩;have h1:=p.1 l (n+1) (o+1) f.tl om trivial m (by simp only[nsO,rk];omega);show sp l (m+1) .un n o=_;unfold sp;rw[Xo (by simp[Wf f,kix,nxt]),show sp l m .un (n+1) (o+1)=_ from h1]
  unfold ow;rw[X2 om];show some (Tr.one 7 a,n+1+g.length)=some (_,n+(g.length+1));rw[show n+1+g.length=n+(g.length+1)by omega]
 |@par d m a g _ p=>
  refine⟨λl n o f z q m i=>?_,by(simp only[Yl,Y7];omega),λc k e=>by cases e⟩;simp only[Y7,Yl,Gx,nsO,rk,Ia]at i;obtain⟨m,rfl⟩:∃m1,m=m1+1:=⟨m-1,by omega⟩;have u:=AaO.app.1 f.tl;have h1:=p.1 l (n+1) (o+1) u.1 om (A0K u.2 rfl false 0).1 m (by simp only[nsO,rk];omega);show sp l (m+1) .un n o=_;unfold sp;rw[X2 (by simp[Wf f,kix,nxt]),Xo (by simp[Wf f,kix,nxt]),show sp l m .ex (n+1) (o+1)=_ from h1]
  unfold ow fo;rw[X2 om,Yr,Xo (by rw[Wf u.2];rfl)];simp only[Y7,Yl,Gx,Ia,ef,Vn,U4];omega
 |@opn d m t lx _ p=>refine⟨λl n o f z q m i=>?_,p.2.1,λc k e A=>by cases e;omega⟩;have i:12*lx.length+2<=m:=i;obtain⟨m,rfl⟩:∃m1,m=m1+1:=⟨m-1,by omega⟩;have h1:=p.1 l n o f z trivial m (by simp only[nsO,rk];omega);show sp l (m+1) (.ch false 2) n o=_;unfold sp;rw[Xo fe,X2 fe];exact h1
 |@opc d m t lx _ p=>refine⟨λl n o f z q m i=>?_,p.2.1,λc k e A=>by cases e;omega⟩;have i:12*lx.length+8<=m:=i;obtain⟨m,rfl⟩:∃m1,m=m1+1:=⟨m-1,by omega⟩;have h1:=p.1 l n o f z (q.2 rfl) m (by simp only[nsO,rk];omega);show sp l (m+1) (.ch true 2) n o=_;unfold sp;rw[Xo fe,Xo rfl];exact h1
 |@up c k d m t lx H _ p=>have h1:=Btj H p.2.1 p.1;exact⟨BhR H p.2.1 h1,p.2.1,λc' k' e _=>by cases e;exact h1⟩
 |@bin c k d1 d2 m1 m2 a g b lb op x H hx _ _ Rs Y=>
  have hp:0<(g++x::lb).length:=by simp only[Yl,Y7];omega
  obtain⟨x1,x2,x3⟩:=B5k H hx;have h1:T2 c k (max d1 d2) (.two op a b) (g++x::lb):=by
   intro l n o f z q m i;obtain⟨K,u⟩:=AaO.app.1 f;simp only[Yl,Y7]at i q;have E:=BsC (c:=c) (k:=k) om;have hr1:=BsC (c:=c) (k:=k+1) om;obtain⟨G,q1,q2⟩:=Rs.2.2 c k rfl H l n o K om ⟨λk' p1 O=>by rw[BeU u];exact x2 k' p1 O,λe k' _ O=>by rw[BeU u];exact x3 e k' O⟩ m om;obtain⟨G,rfl⟩:∃m1,G=m1+1:=⟨G-1,by omega⟩;have R:=Y.1 l (n+g.length+1) o u.tl om (by rw[show n+g.length+1+lb.length=n+(g.length+(lb.length+1))by omega];exact q) G (by simp only[nsO];omega)
   have R:sp l G (.ch c (k+1)) (n+g.length+1) o=some (b,n+g.length+1+lb.length):=R;refine⟨G,by simp only[Yl,Y7];omega,?_⟩;rw[q2];show sp l (G+1) (.lp c k a) (n+g.length) o=_;conv=>lhs;unfold sp
   rw[BeU u,x1,Xo rfl,R,Yr];simp only[Yl,Y7];rw[show n+g.length+1+lb.length=n+(g.length+(lb.length+1))by omega]
  exact⟨BhR H hp h1,hp,λc' k' e _=>by cases e;exact h1⟩
 |@ext d m t lx E p=>refine⟨λl n o f z q m i=>?_,p.2.1,λc k e=>by cases e⟩;have i:12*lx.length+5<=m:=i;obtain⟨m,rfl⟩:∃m1,m=m1+1:=⟨m-1,by omega⟩;obtain⟨y,r,rfl,I⟩:=Bj6 E;have h1:=p.1 l n o f z ⟨q,λe=>by cases e⟩ m (by simp only[nsO,rk];omega);show sp l (m+1) .ex n o=_;unfold sp;rw[X2 (by rw[Wf f,BwW I];decide)];exact h1
 |@iff d1 d2 d3 m1 m2 m3 c lvc a g b lb _ _ _ B F P=>
  refine⟨λl n o f z q m i=>?_,by(simp only[Yl,Y7];omega),λc k e=>by cases e⟩;simp only[Y7,Yl,nsO,rk,Ia]at i q;obtain⟨m,rfl⟩:∃m1,m=m1+1:=⟨m-1,by omega⟩;have J:AaO l n (.kw [105,102]::(lvc++.kw uf::(g++.kw ug::lb))):=by simpa using f
  obtain⟨a1,a2⟩:=AaO.app.1 J.tl;obtain⟨a3,U⟩:=AaO.app.1 a2.tl;have h1:=B.1 l (n+1) (o+1) a1 om (A0K a2 rfl true 0) m (by simp only[nsO,rk];omega);have A:=F.1 l (n+1+lvc.length+1) (o+1) a3 om (A0K U rfl false 0).1 m (by simp only[nsO,rk];omega);have X:=P.1 l (n+1+lvc.length+1+g.length+1) (o+1) U.tl om (by
   show AmQ false 0 l _;rw[show n+1+lvc.length+1+g.length+1+lb.length=n+(lvc.length+(g.length+1)+(lb.length+1)+1)by omega]
   exact q) m (by simp only[nsO,rk];omega)
  have h1:sp l m .cd (n+1) (o+1)=_:=h1;have A:sp l m .ex (n+1+lvc.length+1) (o+1)=_:=A;have X:sp l m .ex (n+1+lvc.length+1+g.length+1) (o+1)=_:=X;show sp l (m+1) .ex n o=_;unfold sp;rw[Xo (by rw[Wf J];rfl),h1];unfold ow fo;rw[X2 om,Yr,Xo (by show AfM l ((n+1+lvc.length:Nat):Int) _=true;rw[Wf a2];rfl),Yr,A,Yr,Xo (by show AfM l ((n+1+lvc.length+1+g.length:Nat):Int) _=true;rw[Wf U];rfl),Yr,X]
  simp only[Y7,Yl,Ia,dy,ef,Vn,U4];omega
 |@cnd d m t lx _ p=>refine⟨λl n o f z q m i=>?_,p.2.1,λc k e=>by cases e⟩;have i:12*lx.length+11<=m:=i;obtain⟨m,rfl⟩:∃m1,m=m1+1:=⟨m-1,by omega⟩;exact p.1 l n o f z q m (by simp only[nsO,rk];omega)
 |@not d m a g _ p=>
  refine⟨λl n o f z q m i=>?_,by(simp only[Yl,Y7];omega),λc k e=>by cases e⟩;simp only[Y7,nsO,rk]at i q;obtain⟨m,rfl⟩:∃m1,m=m1+1:=⟨m-1,by omega⟩;have h1:=p.1 l (n+1) (o+1) f.tl om (by rw[show n+1+g.length=n+(g.length+1)by omega];exact q) m (by simp only[nsO,rk];omega)
  show sp l (m+1) .ng n o=_;unfold sp;rw[Xo (by simp[Wf f,kix,nxt]),show sp l m .ng (n+1) (o+1)=_ from h1]
  unfold ow;rw[X2 om];show some (Tr.one 17 a,n+1+g.length)=some (_,n+(g.length+1));rw[show n+1+g.length=n+(g.length+1)by omega]
 |@bra d m a g _ p=>
  refine⟨λl n o f z q m i=>?_,by(simp only[Yl,Y7];omega),λc k e=>by cases e⟩;simp only[Y7,Yl,Gx,nsO,rk,Ia]at i;obtain⟨m,rfl⟩:∃m1,m=m1+1:=⟨m-1,by omega⟩;have u:=AaO.app.1 f.tl;have h1:=p.1 l (n+1) (o+1) u.1 om (A0K u.2 rfl true 0) m (by simp only[nsO,rk];omega);show sp l (m+1) .ng n o=_;unfold sp;rw[X2 (by simp[Wf f,kix,nxt]),Xo (by simp[Wf f,kix,nxt]),show sp l m .cd (n+1) (o+1)=_ from h1]
  unfold ow fo;rw[X2 om,Yr,Xo (by rw[Wf u.2];rfl)];simp only[Y7,Yl,Gx,Ia,ef,Vn,U4];omega
 |@cmp d m t lx E p=>refine⟨λl n o f z q m i=>?_,p.2.1,λc k e=>by cases e⟩;have i:12*lx.length+7<=m:=i;obtain⟨m,rfl⟩:∃m1,m=m1+1:=⟨m-1,by omega⟩;obtain⟨y,r,rfl,I⟩:=Bj6 E;obtain⟨y1,y2,_⟩:=BiH I;have h1:=p.1 l n o f z q m (by simp only[nsO,rk];omega);show sp l (m+1) .ng n o=_;unfold sp;rw[X2 (by rw[Wf f,y1];decide),X2 (by rw[Wf f,y2];decide)];exact h1
 |@two d1 d2 m1 m2 a g b lb op s hc _ E B F=>
  refine⟨λl n o f z q m i=>?_,by(simp only[Yl,Y7];omega),λc k e=>by cases e⟩;simp only[Yl,Y7,nsO,rk]at i q;obtain⟨m,rfl⟩:∃m1,m=m1+1:=⟨m-1,by omega⟩;obtain⟨a1,a2⟩:=AaO.app.1 f;obtain⟨T,c2⟩:=Brl hc;have h1:=B.1 l n o a1 om (A0K a2 c2 false 0).1 m (by simp only[nsO,rk];omega);have A:=F.1 l (n+g.length+1) o a2.tl om (by rw[show n+g.length+1+lb.length=n+(g.length+(lb.length+1))by omega];exact q) m (by simp only[nsO,rk];omega)
  have h1:sp l m .ex n o=_:=h1;have A:sp l m .ex (n+g.length+1) o=_:=A;obtain⟨tk,W,L⟩:=A7t a2;have C:sgT l (n+g.length)=s:=by unfold sgT;rw[show kAt l (n+g.length) 5=some tk from W];exact L.2
  obtain⟨y,r,rfl,I⟩:=Bj6 E;have V:kAt l (n+g.length+1) 4=none:=B1r a2.tl (BiH I).2.2;show sp l (m+1) .cm n o=_;unfold sp;rw[h1,Yr];simp only[C,T,Jr,V,ite_self,A,dy,ef,Vn,U4,Yl,Y7];omega
 |@wrd m op s c w ho2 hc E p=>
  refine⟨λl n o f z q m i=>?_,by(simp only[Yl,Y7];omega),λc k e=>by cases e⟩;simp only[Y7,Gx,nsO,rk]at i q;obtain⟨m,rfl⟩:∃m1,m=m1+1:=⟨m-1,by omega⟩;obtain⟨T,c2⟩:=Brl hc;have h1:=p.1 l n o ⟨f.1,trivial⟩ om (A0K f.tl c2 false 0).1 m (by simp only[nsO,rk,Y7,Gx];omega);have h1:sp l m .ex n o=some (.leaf ⟨2,0,c⟩,n+1):=h1;obtain⟨t0,u1,u2⟩:=A7t f;obtain⟨W,v1,v2⟩:=A7t f.tl;obtain⟨L,M,w2⟩:=A7t f.tl.tl;have u1:kAt l n 1=some t0:=u1;have M:kAt l (n+1+1) 4=some L:=M;have C:sgT l (n+1)=s:=by unfold sgT;rw[show kAt l (n+1) 5=some W from v1];exact v2.2
  have V:=w2.2;show sp l (m+1) .cm n o=_;unfold sp;rw[h1,Yr];have De:(op=9\/op=10)=True:=eq_true ho2;simp only[C,T,Jr,u1,M,db,De,Qg,V,Y7,Gx]
def B5M{b}(h:E7 D b t){n}(c:AaO l n (wr t))(e:StC b 0 l (n+(wr t).length))(g:p+nst t<=50){m}(f:12*(wr t).length+11<=m):sp l m (if b=true then .cd else .ex) n p=some (t,n+(wr t).length):=by cases b with
|false=>have⟨d,k,_,a⟩:=AtN h (AkN h);exact(BsA a).1 l n p c om e.1 m (by simp[nsO,rk];omega)
|true=>have⟨d,k,_,a⟩:=A7H h (AkN h);exact(BsA a).1 l n p c om e m (by simp[nsO,rk];omega)
abbrev A2p:L3:=.kw wv
abbrev Bo2:L3:=.kw bm
abbrev Bij:L3:=.kw [98,121]
abbrev A1X:L3:=.sg [47]
abbrev Bin:L3:=.kw [111,102]
abbrev A5H:L3:=.kw tf
abbrev Bim:L3:=.kw tg
abbrev Bil:L3:=.kw tn
abbrev BvS:L3:=.kw [111,110]
abbrev BdJ:L3:=.kw tz
abbrev Al7:L3:=.kw bn
abbrev AlF:L3:=.kw wb
abbrev AyL:L3:=.kw wq
abbrev Bih:L3:=.kw tv
abbrev Bik:L3:=.kw uh
abbrev Bsq:L3:=.sg [46,46]
abbrev An9:L3:=.sg [44]
abbrev AjV:L3:=.kw tq
def ilx(n:Int):List L3:=if n<0 then[.sg [45],.nu (-n)]else[.nu n]
def vlx xs lo hi:=xs++A2p::(ilx lo++Bo2::ilx hi)
def AwB xs lo hi:(vlx xs lo hi).length=xs.length+1+(ilx lo).length+1+(ilx hi).length:=by simp[vlx];omega
def jlx(Q:Qr):=if Q.Wu=[]then[]else[Bil,.nm Q.Wu,BvS,.nm Q.s14,.sg [61],.nm Q.s15,BdJ,.nu Q.c16]
def klx(Q:Qr):=if Q.W0=0 then[]else[Bim,.nu Q.W0]
def slx Q xs:=A5H::.nm Q.Uw::(klx Q++(jlx Q++xs))
def elx(Q:Qr):=Bih::.nu Q.Mg::if Q.Wz=true then[Bik]else[]
def wlx Q xs:=AlF::AyL::(xs++elx Q)
def rlx(r:Int × Int):=ilx r.1++Bsq::ilx r.2
def rsx:List (Int × Int)->List L3
|[]=>[]
|[r]=>rlx r
|r::a::rs=>rlx r++An9::rsx (a::rs)
def blx s6 rs w:=.nm s6::(rsx rs++[AjV,.kw w])
def kbx(Q:Qr) xs:=
 if Q.c0=1 then[]else if Q.c0=2 then vlx xs Q.c2 Q.c3 else if Q.c0=4 then vlx xs Q.c2 Q.c3++[Bij,.nm Q.s6]
 else if Q.c0=5 then[.nu Q.c4,A1X,.nu Q.c5,Bin]++vlx xs Q.c2 Q.c3 else if Q.c0=7 then ilx Q.c7++[.nm Q.s6]
 else if Q.c0=10 then blx Q.s6 Q.ord (Ala.getD Q.c9.toNat [])else[.nm Q.s6]
abbrev kno(Q:Qr):=(Q.c0-1).toNat
def qlx Q xe xw xf:=.kw (kdW.getD (kno Q) ([],0)).1::(kbx Q xe++(slx Q xw++wlx Q xf))
variable {j:Nat}
structure T3(xs ws:List L3)(n j:Nat):Prop where
 ok:∀x∈ws,LxG x
 w:Aj7 ws+wx xs j<=wx xs n
def T3.nil:T3 xs [] n n:=⟨(λ_ h=>nomatch h),by simp[Aj7]⟩
def T3.app{a b}{i}(h1:T3 xs a n i)(c:T3 xs b i j):T3 xs (a++b) n j:=
 ⟨λx d=>(W7.1 d).elim (h1.ok x) (c.ok x),by have:=h1.w;have:=c.w;rw[A0k];omega⟩
def T3.cons{i}{b}(h1:T3 xs [x] n i)(a:T3 xs b i j):T3 xs (x::b) n j:=h1.app a
def T3.one(h:LxG x){m}(a:wx xs n=m+1+wx xs j)(c:(lt x).length<=m):T3 xs [x] n j:=⟨λy b=>by grind,by simp[Aj7];omega⟩
structure Src(l:List Tok)(xs:List L3):Prop where
 k:Tk2 l xs
 x:∀x∈xs,LxG x
variable (S:Src l xs)
include S
def Anj{s}(h:AfM l n s=true)(a:LxG x)(b:lt x=s):T3 xs [x] n (n+1):=.one a (Avr S.k S.x h) (by grind)
def AjG{s}(h:Aax l n s=some j)(c:LxG x)(b:lt x=s):j=n+1/\T3 xs [x] n j:=by
 unfold Aax at h;split at h;. rename_i a;cases h;exact⟨rfl,Anj S a c b⟩
 grind
def A6s{t}(h:kAt l n 1=some t):NmG t.t/\T3 xs [.nm t.t] n (n+1):=by have⟨h1,a⟩:=Bxr S.k S.x h;exact⟨h1,.one h1 a (Ye _)⟩
def A2m{t}(h:kAt l n 3=some t):Num t.n/\T3 xs [.nu t.n] n (n+1):=by have⟨h1,a⟩:=B4R S.k S.x h;exact⟨h1,.one h1 a (Ye _)⟩
def Bev{t}(h:AwC l n=some t):t.n≠0/\Num t.n/\T3 xs [.nu t.n] n (n+1):=by unfold AwC at h;cases a:kAt l n 3 with
|none=>grind
|some u=>
 rw[a,Yr]at h;split at h;. grind
 .cases h;exact⟨by omega,A2m S a⟩
def A2l(h:AqM l n=some (p,j)):Sml p/\T3 xs (ilx p) n j:=by
 unfold AqM at h;split at h
 .rename_i i;cases c:kAt l (n+1) 3 with
  |none=>rw[c]at h;cases h
  |some t=>
   rw[c]at h;cases h;obtain⟨h1,d⟩:=A2m S c;obtain⟨a,b⟩:=h1;have g:=Anj S (x:=.sg [45]) i (by show[45]∈Sgs;decide) rfl
   refine⟨⟨by omega,by omega⟩,?_⟩;unfold ilx;by_cases f:-t.n<0
   .rw[Xo f,Int.neg_neg];exact g.cons d
   .have:t.n=0:=by omega
    rw[X2 f];have e:-t.n=t.n:=by omega
    rw[e];have k:=d.w;have m:=g.w;exact⟨d.ok,by have:n+2=n+1+1:=rfl;rw[this];omega⟩
 .cases c:kAt l n 3 with
  |none=>rw[c]at h;cases h
  |some t=>
   rw[c]at h;cases h;obtain⟨h1,d⟩:=A2m S c;refine⟨⟨by have:=h1.1;omega,h1.2⟩,?_⟩
   unfold ilx;rw[X2 (by have:=h1.1;omega)]
   exact d
omit S
def BhQ{c b}{l}(h:∀x∈l,LxG x):∀x∈brk c b l,LxG x:=by
 intro x d;unfold brk at d;have e:∀s∈[[91],[93],[40],[41]],LxG (.sg s):=by intro s a;exact(by decide:∀s∈[[91],[93],[40],[41]],s∈Sgs) s a
 grind
def Bs7{o}(h:4<=o/\o<=17)(a:o≠8):LxG (opX o):=by
 have:o=4\/o=5\/o=6\/o=7\/o=9\/o=10\/o=11\/o=12\/o=13\/o=14\/o=15\/o=16\/o=17:=by omega
 rcases this with rfl|rfl|rfl|rfl|rfl|rfl|rfl|rfl|rfl|rfl|rfl|rfl|rfl;all_goals first|(show _∈Sgs;decide)|(show _∈W35;decide)
def A0i:∀{t:Tr} {b:Bool},E7 DG b t->∀x∈wr t,LxG x
|.leaf x,b,h,y,d=>by
 obtain⟨_,⟨h1,e,f⟩|⟨h1,e,f⟩⟩:=h;. unfold wr at d;rw[Xo h1,W9]at d;subst d;exact f
 .unfold wr at d;rw[X2 om,X2 om,W9]at d;subst d;exact f
|.one o a,b,h,y,d=>by
 have i:(4<=o/\o<=17)/\o≠8:=by rcases h with⟨_,h1,_⟩|⟨_,h1,_⟩<;>omega
 obtain⟨m,u⟩:∃m,E7 DG m a:=by rcases h with⟨_,_,e⟩|⟨_,_,e⟩<;>exact⟨_,e⟩
 rcases Tu.1 d with rfl|d;. exact Bs7 i.1 i.2
 .exact BhQ (A0i u) y d
|.two o a c,b,h,y,d=>by
 have i:(4<=o/\o<=17)/\o≠8:=by rcases h with⟨_,h1,_⟩|⟨_,h1,_⟩|⟨_,h1,_⟩|⟨_,h1,_⟩<;>omega
 have g:(∀y∈wr a,LxG y)/\∀y∈wr c,LxG y:=by
  rcases h with⟨_,_,e,f⟩|⟨_,_,e,f⟩|⟨_,_,e⟩|⟨_,_,e,f⟩;. exact⟨A0i e,A0i f⟩
  .exact⟨A0i e,A0i f⟩
  .obtain⟨x,z,rfl,rfl,⟨B,C,v⟩,A,q5,q⟩:=Agn e;refine⟨λy d=>?_,λy d=>?_⟩;. unfold wr at d;rw[X2 om,X2 om,W9]at d;subst d;exact v
   .unfold wr at d;rw[X2 om,Xo om,W9]at d;subst d;exact q
  .exact⟨A0i e,A0i f⟩
 rcases W7.1 d with d|d;. exact BhQ g.1 y d
 .rcases Tu.1 d with rfl|d;. exact Bs7 i.1 i.2
  .exact BhQ g.2 y d
|.three p a c,b,h,y,d=>by
 obtain⟨_,h1,e,f⟩:=h;have k:∀s∈[[105,102],uf,ug],LxG (.kw s):=by intro s w;exact(by decide:∀s∈[[105,102],uf,ug],s∈W35) s w
 simp only[wr,Ia,Wq,Tu,W7]at d;rcases d with rfl|d|rfl|d|rfl|d;. exact k _ fe
 .exact A0i h1 y d
 .exact k _ fe
 .exact A0i e y d
 .exact k _ fe
 .exact A0i f y d
structure ExQ(b:Bool)(t:Tr):Prop where
 ty:E7 DG b t
 ns:nst t<=50
 sz:t.nodes.length<=200
include S
def BsE{b:Bool}{t:Tr}(h:A5m l (if b=true then .cd else .ex) n=some (t,j)):ExQ b t/\T3 xs (wr t) n j:=by
 unfold A5m at h;cases e:sp l (fu l) (if b=true then .cd else .ex) n 0 with
 |none=>rw[e]at h;cases h
 |some y=>
  rw[e,Yr]at h;split at h
  .cases h
  .cases h;rename_i f;cases b with
   |false=>obtain⟨a,d,c,_⟩:=BsF S.k S.x _ .ex _ _ _ _ e fe trivial;have d:0+((0:Nat):Int)+nst t<=50:=d;have c:Aj7 (wr t)+wx xs j<=0+wx xs n:=c;exact⟨⟨a,by omega,by simpa using f⟩,A0i a,by omega⟩
   |true=>obtain⟨a,d,c,_⟩:=BsF S.k S.x _ .cd _ _ _ _ e fe trivial;have d:0+((0:Nat):Int)+nst t<=50:=d;have c:Aj7 (wr t)+wx xs j<=0+wx xs n:=c;exact⟨⟨a,by omega,by simpa using f⟩,A0i a,by omega⟩
omit S
def Aec(h:AaO l n (x::r))(a:kix x=2\/kix x=5):Aax l n (nxt x)=some (n+1):=by unfold Aax;rw[Xo (by rw[Wf h];grind)]
def A5I{s}(h:AaO l n (.nm s::r)):∃t,kAt l n 1=some t/\t.t=s:=by have⟨t,h1,a⟩:=A7t h;exact⟨t,h1,a.2⟩
def AyW{v}(h:AaO l n (.nu v::r)):∃t,kAt l n 3=some t/\t.n=v:=by have⟨t,h1,a⟩:=A7t h;exact⟨t,h1,a.2⟩
def A0J{v}(h:AaO l n (.nu v::r))(a:v≠0):∃t,AwC l n=some t/\t.n=v:=by have⟨t,_,_⟩:=AyW h;unfold AwC;grind
def A0H{v}(h:AaO l n (ilx v++r)):AqM l n=some (v,n+(ilx v).length):=by
 unfold ilx at h ⊢;unfold AqM;by_cases a:v<0;. rw[Xo a]at h ⊢;have⟨t,h1,_⟩:=AyW h.tl;rw[Xo (by rw[Wf h];rfl),h1];grind
 .rw[X2 a]at h ⊢;have⟨t,h1,_⟩:=AyW h;rw[X2 (by rw[Wf h];simp[kix]),h1];grind
def BhM:∀{lx} {n},AaO l n lx->lx.length<=l.length-n
|[],n,_=>Wy _
|x::r,n,h=>by have h1:=BhM h.2;have⟨_,_⟩:=h;grind
def BqI{b}{t}(E:ExQ b t)(h:AaO l n (wr t++x::r))(c:nop (nxt x)=true):A5m l (if b=true then .cd else .ex) n=some (t,n+(wr t).length):=by have⟨h1,a⟩:=AaO.app.1 h;have d:=BhM h1;have:=E.ns;unfold A5m;rw[B5M E.ty h1 (A0K a c b 0) om (by unfold fu;omega),Yr,X2 (by have:=E.sz;grind)]
variable {Q AbF:Qr}
structure KiQ(Q:Qr)(xe:List L3):Prop where
 k:1<=Q.c0/\Q.c0<=10
 v:Q.c0=2\/Q.c0=4\/Q.c0=5->∃t,ExQ false t/\Q.code=t.nodes/\xe=wr t/\Sml Q.c2/\Sml Q.c3
 nm:Q.c0≠1->Q.c0≠2->Q.c0≠5->NmG Q.s6
 q5:Q.c0=5->Num Q.c4/\Num Q.c5
 b7:Sml Q.c7
 o10:Q.c0=10->(∀x∈Q.ord,Sml x.1/\Sml x.2)/\Q.ord.length<=64/\0<=Q.c9/\Q.c9<=2
 ex:Q.c0≠2->Q.c0≠4->Q.c0≠5->Q.code=[]/\xe=[]
 od:Q.ord.length<=64
def T4(Q:Qr):=Q.Wz=false/\Q.W0=0/\Q.Wu=[]/\Q.s14=[]/\Q.s15=[]/\Q.c16=0/\Q.E9=[]
def AuV(h:o∈W35:=by decide):LxG (.kw o):=h
def BfZ(h:o∈Sgs:=by decide):LxG (.sg o):=h
structure Stg(f:List Tok->Nat->Option (Qr × Nat))(xs ws fol:List L3)(n j:Nat)(Q:Qr):Prop where
 w:T3 xs ws n j
 b:∀(l:List Tok) (n:Nat),AaO l n (ws++fol)->f l n=some (Q,n+ws.length)
def A9o(S:Src l xs){k}(h:Avi l n AbF k=some (Q,j)):∃t lo hi,ExQ false t/\Sml lo/\Sml hi/\Q={ AbF with c0:=k,code:=t.nodes,c2:=lo,c3:=hi } /\
 ∀c,Stg (λl n=>Avi l n AbF k) xs (vlx (wr t) lo hi) c n j Q:=by
 have⟨⟨t,_⟩,h1,h⟩:=X4.1 h;have⟨i,f,h⟩:=X4.1 h;have⟨_,p,h⟩:=X4.1 h;have⟨_,g,h⟩:=X4.1 h;have⟨_,o,h⟩:=X4.1 h;cases h;have⟨d,a2⟩:=BsE S (b:=false) h1;have⟨_,b2⟩:=AjG S f AuV rfl;have⟨s,c2⟩:=A2l S p;have⟨_,d2⟩:=AjG S g AuV rfl;have⟨e1,q⟩:=A2l S o;refine⟨t,_,_,d,s,e1,rfl,λc=>⟨a2.app (b2.cons (c2.app (d2.cons q))),λl n m=>?_⟩⟩;have a:=by simpa[vlx]using m
 have⟨_,u2⟩:=AaO.app.1 a;have⟨_,u4⟩:=AaO.app.1 u2.tl;unfold Avi;have e:A5m l .ex n=some _:=BqI d a rfl;rw[e,Yr,show Aax l _ wv=_ from Aec u2 (.inl rfl),Yr,A0H u2.tl,Yr,show Aax l _ bm=_ from Aec u4 (.inl rfl),Yr,A0H u4.tl,Yr];simp[ef,Vn,U4,AwB];omega
def AtL(S:Src l xs){k}(h:AlC l n AbF k=some (Q,j)):∃s,NmG s/\Q={ AbF with c0:=k,s6:=s }/\∀a,Stg (λl n=>AlC l n AbF k) xs [.nm s] a n j Q:=by have⟨t,h1,h⟩:=X4.1 h;cases h;have⟨b,a2⟩:=A6s S h1;refine⟨_,b,rfl,λa=>⟨a2,λl n c=>?_⟩⟩;have⟨u,_,_⟩:=A5I c;unfold AlC;grind
def Bok(S:Src l xs)(h:AkH l n AbF 3 0=some (Q,j)):∃i:Nat,i<3/\Q={ AbF with c9:=(i:Int) }/\∀a,Stg (λl n=>AkH l n AbF 3 0) xs [.kw (Ala.getD i [])] a n j Q:=by
 have c:∀(i:Nat),i<3->AfM l (n:Nat) ((Ala[i]?).getD [])=true->j=n+1->Q={ AbF with c9:=(i:Int) }->∃i:Nat,i<3/\Q={ AbF with c9:=(i:Int) }/\∀a,Stg (λl n=>AkH l n AbF 3 0) xs [.kw (Ala.getD i [])] a n j Q:=by
  intro i hi e hj hq;subst hj hq;have:i=0\/i=1\/i=2:=by omega
  refine⟨i,hi,rfl,λa=>⟨Anj S e ?_ (by rcases this with rfl|rfl|rfl<;>rfl),λl n d=>?_⟩⟩;. rcases this with rfl|rfl|rfl<;>exact AuV
  .show AkH l n AbF 3 0=_;have b:∀s,AfM l (n:Nat) s=decide (Ala.getD i []=s):=λs=>by rw[Wf d];rfl
   rcases this with rfl|rfl|rfl
   .unfold AkH;rw[Xo (by rw[b];rfl)];rfl
   .unfold AkH;rw[X2 (by rw[b];decide)];unfold AkH;grind
   .unfold AkH;rw[X2 (by rw[b];decide)];unfold AkH;rw[X2 (by rw[b];decide)];unfold AkH;rw[Xo (by rw[b];rfl)];rfl
 unfold AkH at h;split at h;. grind
 unfold AkH at h;split at h;. grind
 unfold AkH at h;split at h;. grind
 .cases h
def BlG(S:Src l xs):∀(m:Nat) (c:List (Int × Int)) (n:Nat),Asu l AbF m n c=some (Q,j)->∃(rs:List (Int × Int)) (i:Nat),rs≠[]/\c.length+rs.length<=64/\(∀x∈rs,Sml x.1/\Sml x.2)/\i<3/\Q={ AbF with ord:=c++rs,c9:=(i:Int) } /\
 ∀d,Stg (λl n=>Asu l AbF m n c) xs (rsx rs++[AjV,.kw (Ala.getD i [])]) d n j Q:=by intro m;induction m with
 |zero=>intro c n h;cases h
 |succ m L=>
  intro c n h;unfold Asu at h;split at h;. cases h
  rename_i p;obtain⟨⟨lo,O⟩,h1,g1⟩:=X4.1 h;obtain⟨i,A,g2⟩:=X4.1 g1;obtain⟨⟨hi,o⟩,J,s⟩:=X4.1 g2;clear h g1 g2;replace h:(if AfM l (o:Nat) [44]=true then Asu l AbF m (o+1) (c++[(lo,hi)])else BgE l o { AbF with ord:=c++[(lo,hi)] })=some (Q,j):=s;clear s;obtain⟨z,a2⟩:=A2l S h1;obtain⟨rfl,b2⟩:=AjG S (x:=Bsq) A BfZ rfl;obtain⟨v,c2⟩:=A2l S J;have q:T3 xs (rlx (lo,hi)) n o:=a2.app (b2.cons c2);have k:∀(l:List Tok) (n:Nat) (r:List L3),AaO l n (rlx (lo,hi)++r)->Asu l AbF (m+1) n c=if AfM l (n+(rlx (lo,hi)).length:Nat) [44]=true then Asu l AbF m (n+(rlx (lo,hi)).length+1) (c++[(lo,hi)])else BgE l (n+(rlx (lo,hi)).length) { AbF with ord:=c++[(lo,hi)] }:=by
   intro l n r g;have f:AaO l n (ilx lo++(Bsq::(ilx hi++r))):=by simpa[rlx]using g
   obtain⟨u1,u2⟩:=AaO.app.1 f;have B:n+(rlx (lo,hi)).length=n+(ilx lo).length+1+(ilx hi).length:=by simp[rlx];omega
   rw[B];conv=>lhs;unfold Asu;rw[X2 p,A0H f,Yr];simp only[];rw[show Aax l (n+(ilx lo).length) [46,46]=_ from Aec u2 (.inr rfl),Yr,A0H u2.tl,Yr]
  split at h
  .rename_i K;obtain⟨rs,i,E,M,G,I,q5,u⟩:=L _ _ h;simp only[Yl,Y7,Gx]at M;have e:rsx ((lo,hi)::rs)=rlx (lo,hi)++An9::rsx rs:=by cases rs with
    |nil=>exact absurd rfl E
    |cons a rs=>rfl
   have w2:=Anj S (x:=An9) K BfZ rfl;refine⟨(lo,hi)::rs,i,Uy _ _,by simp only[Y7];omega,Tl.2 ⟨⟨z,v⟩,G⟩,I,by rw[q5,Wq];rfl,λd=>⟨?_,λl n g=>?_⟩⟩;. rw[e];have:=(u d).w;simpa using q.app (w2.cons this)
   .rw[e]at g ⊢;have f:AaO l n (rlx (lo,hi)++(An9::((rsx rs++[AjV,.kw (Ala.getD i [])])++d))):=by simpa using g
    obtain⟨u1,u2⟩:=AaO.app.1 f;show Asu l AbF (m+1) n c=_;rw[k l n _ f,Xo (by rw[Wf u2];rfl)];have:=(u d).b l _ u2.tl;grind
  .unfold BgE at h;obtain⟨i1,C,F⟩:=X4.1 h;obtain⟨rfl,d2⟩:=AjG S (x:=AjV) C AuV rfl;obtain⟨i,e1,H,y⟩:=Bok S F;refine⟨[(lo,hi)],i,Uy _ _,by simp only[Y7,Gx];omega,Tl.2 ⟨⟨z,v⟩,λ_ h=>nomatch h⟩,e1,H,λd=>⟨q.app (d2.cons (y d).w),λl n g=>?_⟩⟩;have f:AaO l n (rlx (lo,hi)++(AjV::([.kw (Ala.getD i [])]++d))):=by simpa[rsx]using g
   obtain⟨u1,u2⟩:=AaO.app.1 f;show Asu l AbF (m+1) n c=_;rw[k l n _ f,X2 (by rw[Wf u2];decide)];unfold BgE;rw[show Aax l (n+(rlx (lo,hi)).length) tq=_ from Aec u2 (.inl rfl),Yr];have:=(y d).b l _ u2.tl;rw[show AkH l (n+(rlx (lo,hi)).length+1) { AbF with ord:=c++[(lo,hi)] } 3 0=_ from this];simp only[rsx,Yl,Y7,Gx,ef,Vn,U4];omega
def BoN:Sml 0:=⟨by simp,by simp⟩
def Bjj(S:Src l xs){g:FuncId}(V:(o,g)∈kdW)(h:AzC l n g=some (Q,j)):∃U,KiQ Q U/\T4 Q/\kdW.getD (kno Q) ([],0)=(o,g)/\∀d,Stg (λl n=>AzC l n g) xs (kbx Q U) d n j Q:=by
 have zq:∀{c0 c2 c3 c4 c5 c7 c9:Int} {code:List Nd} {s6:uq} {ord:List (Int × Int)},T4 ⟨c0,code,c2,c3,c4,c5,s6,c7,ord,c9,false,[],0,[],[],[],0,[],[],0⟩:=⟨rfl,rfl,rfl,rfl,rfl,rfl,rfl⟩;have p:∀{k c7 c9:Int} {s:uq} {ord:List (Int × Int)},(1<=k/\k<=10)->(k≠2/\k≠4/\k≠5)->(k≠1->NmG s)->Sml c7->(k=10->(∀x∈ord,Sml x.1/\Sml x.2)/\0<=c9/\c9<=2)->ord.length<=64->KiQ ⟨k,[],0,0,0,0,s,c7,ord,c9,false,[],0,[],[],[],0,[],[],0⟩ []:=by intro k c7 c9 s ord h1 w z m C W;refine⟨h1,λB=>?_,λh _ _=>z h,λB=>absurd B w.2.2,m,λh=>⟨(C h).1,W,(C h).2⟩,λ_ _ _=>⟨rfl,rfl⟩,W⟩;have B:k=2\/k=4\/k=5:=B;omega
 have Zn:∀{k:Int} {s:uq},NmG s->(k=3\/k=6\/k=8\/k=9)->KiQ ⟨k,[],0,0,0,0,s,0,[],0,false,[],0,[],[],[],0,[],[],0⟩ []:=
  λL hk=>p om om (λ_=>L) BoN (λh=>by omega) fe
 have y:∀{k c4 c5 lo hi:Int} {s:uq} {t:Tr},ExQ false t->Sml lo->Sml hi->Num c4->Num c5->NmG s\/k≠4->(k=2\/k=4\/k=5)->KiQ { z0 with c0:=k,code:=t.nodes,c2:=lo,c3:=hi,c4:=c4,c5:=c5,s6:=s } (wr t):=by
  intro k c4 c5 lo hi s t ht hl B n4 Y L hk;refine⟨by show 1<=k/\k<=10;omega,λ_=>⟨t,ht,rfl,rfl,hl,B⟩,λ_ w C=>?_,λ_=>⟨n4,Y⟩,BoN,λR=>?_,λa b c=>?_,(show([]:List (Int × Int)).length<=64 by decide)⟩
  .have w:k≠2:=w;have C:k≠5:=C;exact L.resolve_right om
  .have R:k=10:=R;omega
  .have a:k≠2:=a;have b:k≠4:=b;have c:k≠5:=c;omega
 have F:Num 0:=⟨by decide,by decide⟩;simp only[kdW,Tu,Ww,Oq,Vn]at V;rcases V with⟨rfl,rfl⟩|⟨rfl,rfl⟩|⟨rfl,rfl⟩|⟨rfl,rfl⟩|⟨rfl,rfl⟩|⟨rfl,rfl⟩|⟨rfl,rfl⟩|⟨rfl,rfl⟩|⟨rfl,rfl⟩|⟨rfl,rfl⟩
 .have h:some (({ z0 with c0:=1 }:Qr),n)=some (Q,j):=h;cases h;exact⟨[],p fe fe (λh=>absurd rfl h) BoN (λh=>by cases h) fe,zq,rfl,λd=>⟨.nil,λl n _=>rfl⟩⟩
 .have h:Avi l n z0 2=some (Q,j):=h;obtain⟨t,lo,hi,h1,w,z,rfl,m⟩:=A9o S h;exact⟨wr t,y (s:=[]) h1 w z F F (.inr fe) (.inl rfl),zq,rfl,λd=>m d⟩
 .have h:AlC l n z0 3=some (Q,j):=h;obtain⟨s,h1,rfl,m⟩:=AtL S h;exact⟨[],Zn (k:=3) h1 fe,zq,rfl,λd=>m d⟩
 .have h:BgC l n z0=some (Q,j):=h;unfold BgC at h;obtain⟨⟨T5,G⟩,h1,h⟩:=X4.1 h;obtain⟨i,w,h⟩:=X4.1 h;obtain⟨tk,z,h⟩:=X4.1 h;cases h;obtain⟨t,lo,hi,A,a2,a3,rfl,E⟩:=A9o S h1;obtain⟨rfl,b2⟩:=AjG S (x:=Bij) w AuV rfl;obtain⟨I,c2⟩:=A6s S z;refine⟨wr t,y A a2 a3 F F (.inl I) (.inr (.inl rfl)),zq,rfl,λd=>⟨(E d).w.app (b2.cons c2),λl n q=>?_⟩⟩;have f:AaO l n (vlx (wr t) lo hi++(Bij::.nm tk.t::d)):=by
   have:kbx { z0 with c0:=4,code:=t.nodes,c2:=lo,c3:=hi,s6:=tk.t } (wr t)=vlx (wr t) lo hi++[Bij,.nm tk.t]:=rfl;rw[show(kbx _ (wr t)++d)=_ from Jh (·++d) this]at q
   simpa using q
  obtain⟨u1,u2⟩:=AaO.app.1 f;obtain⟨v,H,J⟩:=A5I u2.tl;show BgC l n z0=some (_,n+(vlx (wr t) lo hi++[Bij,.nm tk.t]).length);unfold BgC;rw[show Avi l n z0 4=_ from(E _).b l n f,Yr]
  simp only[];rw[show Aax l (n+(vlx (wr t) lo hi).length) [98,121]=_ from Aec u2 (.inl rfl),Yr,H,Yr,J]
  simp only[Yl,Y7,Gx,ef,Vn,U4];omega
 .have h:Bg4 l n z0=some (Q,j):=h;unfold Bg4 at h;obtain⟨T,h1,h⟩:=X4.1 h;obtain⟨i,w,h⟩:=X4.1 h;obtain⟨P,z,h⟩:=X4.1 h;obtain⟨i2,m,h⟩:=X4.1 h;obtain⟨A,a2⟩:=A2m S h1;obtain⟨rfl,b2⟩:=AjG S (x:=A1X) w BfZ rfl;obtain⟨I,c2⟩:=A2m S z;obtain⟨rfl,d2⟩:=AjG S (x:=Bin) m AuV rfl;obtain⟨t,lo,hi,e1,e2,e3,rfl,X⟩:=A9o S h;refine⟨wr t,y (s:=[]) e1 e2 e3 A I (.inr fe) (.inr (.inr rfl)),zq,rfl,λd=>⟨a2.cons (b2.cons (c2.cons (d2.cons (X d).w))),λl n q=>?_⟩⟩;have f:AaO l n (.nu T.n::A1X::.nu P.n::Bin::(vlx (wr t) lo hi++d)):=q;obtain⟨v,H,J⟩:=AyW f;obtain⟨u,u1,u2⟩:=AyW f.tl.tl;show Bg4 l n z0=some (_,n+(.nu T.n::A1X::.nu P.n::Bin::vlx (wr t) lo hi:List L3).length);unfold Bg4;rw[H,Yr,show Aax l (n+1) [47]=_ from Aec f.tl (.inr rfl),Yr,u1,Yr,show Aax l (n+1+1+1) [111,102]=_ from Aec f.tl.tl.tl (.inl rfl),Yr,J,u2];rw[show Avi l (n+1+1+1+1) _ 5=_ from(X _).b l _ f.tl.tl.tl.tl];simp only[Y7,ef,Vn,U4];omega
 .have h:AlC l n z0 6=some (Q,j):=h;obtain⟨s,h1,rfl,m⟩:=AtL S h;exact⟨[],Zn (k:=6) h1 fe,zq,rfl,λd=>m d⟩
 .have h:BfP l n z0=some (Q,j):=h;unfold BfP at h;obtain⟨⟨b,G⟩,h1,h⟩:=X4.1 h;obtain⟨A,a2⟩:=A2l S h1;obtain⟨s,M,rfl,K⟩:=AtL S h;refine⟨[],p (k:=7) fe fe (λ_=>M) A (λh=>by cases h) (show([]:List (Int × Int)).length<=64 by decide),zq,rfl,λd=>⟨a2.app (K d).w,λl n q=>?_⟩⟩;have f:AaO l n (ilx b++(.nm s::d)):=by have:kbx { z0 with c0:=7,c7:=b,s6:=s } []=ilx b++[.nm s]:=rfl;rw[show(kbx _ []++d)=_ from Jh (·++d) this]at q;simpa using q
  obtain⟨u1,u2⟩:=AaO.app.1 f;show BfP l n z0=some (_,n+(ilx b++[L3.nm s]).length);unfold BfP;rw[A0H f,Yr];rw[show AlC l (n+(ilx b).length) _ 7=_ from(K d).b l _ u2];simp only[Yl,Y7,Gx,ef,Vn,U4];omega
 .have h:AlC l n z0 8=some (Q,j):=h;obtain⟨s,h1,rfl,m⟩:=AtL S h;exact⟨[],Zn (k:=8) h1 fe,zq,rfl,λd=>m d⟩
 .have h:AlC l n z0 9=some (Q,j):=h;obtain⟨s,h1,rfl,m⟩:=AtL S h;exact⟨[],Zn (k:=9) h1 fe,zq,rfl,λd=>m d⟩
 .have h:BcZ l n z0=some (Q,j):=h;unfold BcZ at h;obtain⟨⟨T5,G⟩,h1,h⟩:=X4.1 h;obtain⟨s,A,rfl,E⟩:=AtL S h1;obtain⟨rs,i,M,b2,b3,K,rfl,O⟩:=BlG S 65 [] G h;simp only[Gx,Rx,I3]at b2;refine⟨[],p (k:=10) fe fe (λ_=>A) BoN (λ_=>⟨b3,by omega,by omega⟩) b2,zq,rfl,λd=>⟨(E d).w.cons (O d).w,λl n q=>?_⟩⟩;have f:AaO l n (.nm s::((rsx rs++[AjV,.kw (Ala.getD i [])])++d)):=q;show BcZ l n z0=some (_,n+(.nm s::(rsx rs++[AjV,.kw (Ala.getD i [])])).length);unfold BcZ;rw[show AlC l n z0 10=_ from(E ((rsx rs++[AjV,.kw (Ala.getD i [])])++d)).b l n f,Yr];have e:Asu l { z0 with c0:=10,s6:=s } 65 (n+1) []=_:=(O d).b l _ f.tl;show Asu l { z0 with c0:=10,s6:=s } 65 (n+1) []=_;rw[e];simp only[Yl,Y7,Gx,I3,ef,Vn,U4];omega
variable {xw:List L3}
def MaQ ms xw:=ms=[]/\xw=[]\/∃t,ExQ true t/\ms=t.nodes/\xw=Al7::wr t
def B4t{ms}(d:MaQ ms xw){r}(b:AaO l n (xw++AlF::r)){s}(h1:s≠bn)(c:s≠wb):AfM l n s=false:=by
 refine dj.2 λa=>?_;rcases d with⟨_,rfl⟩|⟨t,_,_,rfl⟩;. rw[show AfM l _ s=_ from Wf b]at a;exact c (az (Bool.and_eq_true_iff.1 a).2).symm
 .rw[show AfM l n s=_ from Wf b]at a;exact h1 (az (Bool.and_eq_true_iff.1 a).2).symm
def BfI(S:Src l xs)(h:A2Q l n AbF=some (Q,j))(d:AbF.E9=[]):∃ms xw,Q={ AbF with E9:=ms }/\MaQ ms xw/\Stg (λl n=>A2Q l n AbF) xs xw [AlF] n j Q:=by
 unfold A2Q at h;split at h;. rename_i g;have⟨⟨t,_⟩,h1,f⟩:=X4.1 h;cases f;have⟨c,a2⟩:=BsE S (b:=true) h1;refine⟨_,_,rfl,.inr ⟨t,c,rfl,rfl⟩,(Anj S g AuV rfl).cons a2,λl n a=>?_⟩;have e:A5m l .cd _=_:=BqI c a.tl rfl;unfold A2Q;rw[Xo (by rw[Wf a];rfl),e];grind
 .cases h;refine⟨_,_,by rw[<- d],.inl ⟨rfl,rfl⟩,.nil,λl n a=>?_⟩;unfold A2Q;rw[X2 (by rw[show AfM l ..=_ from Wf a];decide)];rfl
def Bfq(S:Src l xs)(h:A1t l n AbF=some (Q,j))(s:AbF.E9=[])(p:AbF.Wu=[]):∃Wu s14 s15 c16 ms xw,Q={ AbF with Wu:=Wu,s14:=s14,s15:=s15,c16:=c16,E9:=ms }/\MaQ ms xw/\(Wu=[]\/(NmG Wu/\NmG s14/\NmG s15/\Num c16)) /\
 Stg (λl n=>A1t l n AbF) xs (jlx Q++xw) [AlF] n j Q:=by
 unfold A1t at h;split at h
 .rename_i P;obtain⟨k,h1,g1⟩:=X4.1 h;obtain⟨i,z,g2⟩:=X4.1 g1;obtain⟨d,M,v⟩:=X4.1 g2;obtain⟨i2,F,q⟩:=X4.1 v;obtain⟨t3,H,u⟩:=X4.1 q;obtain⟨X,U,m⟩:=X4.1 u;obtain⟨g,G,J⟩:=X4.1 m;clear h g1 g2 v q u m;have V:=Anj S (x:=Bil) P AuV rfl;obtain⟨o,b2⟩:=A6s S h1;obtain⟨rfl,c2⟩:=AjG S (x:=BvS) z AuV rfl;obtain⟨d1,d2⟩:=A6s S M;obtain⟨rfl,K⟩:=AjG S (x:=.sg [61]) F BfZ rfl;obtain⟨C,T⟩:=A6s S H;obtain⟨rfl,k2⟩:=AjG S (x:=BdJ) U AuV rfl;obtain⟨m0,m1,y⟩:=Bev S G;obtain⟨ms,xw,rfl,f,w2⟩:=BfI S J s;have c:jlx { AbF with Wu:=k.t,s14:=d.t,s15:=t3.t,c16:=g.n,E9:=ms }=[Bil,.nm k.t,BvS,.nm d.t,.sg [61],.nm t3.t,BdJ,.nu g.n]:=X2 o.2.1;refine⟨k.t,d.t,t3.t,g.n,ms,xw,rfl,f,.inr ⟨o,d1,C,m1⟩,?_,λl n a=>?_⟩;. rw[c];exact V.cons (b2.cons (c2.cons (d2.cons (K.cons (T.cons (k2.cons (y.cons w2.w)))))))
  .rw[c]at a ⊢;have a:AaO l n (Bil::.nm k.t::BvS::.nm d.t::.sg [61]::.nm t3.t::BdJ::.nu g.n::(xw++[AlF])):=a;obtain⟨u1,I,B⟩:=A5I a.tl;obtain⟨u2,L,W⟩:=A5I a.tl.tl.tl;obtain⟨u3,A,E⟩:=A5I a.tl.tl.tl.tl.tl;obtain⟨u4,O,R⟩:=A0J a.tl.tl.tl.tl.tl.tl.tl m0;have e:=w2.b l _ a.tl.tl.tl.tl.tl.tl.tl.tl;show A1t l n AbF=_;unfold A1t;rw[Xo (by rw[Wf a];rfl),I,Yr,show Aax l _ [111,110]=_ from Aec a.tl.tl (.inl rfl),Yr,L,Yr,show Aax l _ [61]=_ from Aec a.tl.tl.tl.tl (.inr rfl),Yr,A,Yr,show Aax l _ tz=_ from Aec a.tl.tl.tl.tl.tl.tl (.inl rfl),Yr,O,Yr,B,W,E,R,show A2Q l ..=_ from e];simp[Yl,Y7,Gx,ef,Vn,U4];omega
 .obtain⟨ms,xw,rfl,f,w2⟩:=BfI S h s;have c:jlx { AbF with E9:=ms }=[]:=Xo p;refine⟨_,_,_,_,_,_,rfl,f,.inl p,?_,λl n a=>?_⟩;. rw[c];exact w2.w
  .rw[c]at a ⊢;unfold A1t;rw[X2 (by rw[B4t f a (by simp) (by simp)];simp)];exact w2.b l n a
def BmZ(S:Src l xs)(h:A80 l n AbF=some (Q,j))(k:AbF.E9=[])(o:AbF.Wu=[])(m:AbF.W0=0):∃W0 Wu s14 s15 c16 ms xw,Q={ AbF with W0:=W0,Wu:=Wu,s14:=s14,s15:=s15,c16:=c16,E9:=ms }/\MaQ ms xw/\(Wu=[]\/(NmG Wu/\NmG s14/\NmG s15/\Num c16))/\Num W0 /\
 Stg (λl n=>A80 l n AbF) xs (klx Q++(jlx Q++xw)) [AlF] n j Q:=by
 unfold A80 at h;split at h
 .rename_i u;obtain⟨c,h1,g1⟩:=X4.1 h;have q:=Anj S (x:=Bim) u AuV rfl;obtain⟨m0,m1,s⟩:=Bev S h1;obtain⟨Wu,s14,s15,c16,ms,xw,rfl,g,w2,f⟩:=Bfq S g1 k o;have d:klx { AbF with W0:=c.n,Wu:=Wu,s14:=s14,s15:=s15,c16:=c16,E9:=ms }=[Bim,.nu c.n]:=X2 m0;refine⟨c.n,Wu,s14,s15,c16,ms,xw,rfl,g,w2,m1,?_,λl n a=>?_⟩;. rw[d];exact q.cons (s.cons f.w)
  .rw[d]at a ⊢;have a:AaO l n (Bim::.nu c.n::((jlx { AbF with W0:=c.n,Wu:=Wu,s14:=s14,s15:=s15,c16:=c16,E9:=ms }++xw)++[AlF])):=a;obtain⟨u4,v,y⟩:=A0J a.tl m0;have e:=f.b l _ a.tl.tl;show A80 l n AbF=_;unfold A80;rw[Xo (by rw[Wf a];rfl),v,Yr,y];grind
 .obtain⟨Wu,s14,s15,c16,ms,xw,rfl,g,w2,f⟩:=Bfq S h k o;have d:klx { AbF with Wu:=Wu,s14:=s14,s15:=s15,c16:=c16,E9:=ms }=[]:=Xo m;refine⟨AbF.W0,Wu,s14,s15,c16,ms,xw,rfl,g,w2,by rw[m];exact⟨by decide,by decide⟩,?_,λl n a=>?_⟩;. rw[d];exact f.w
  .rw[d]at a ⊢;have p:AfM l (n:Nat) tg=false:=by
    by_cases hj:Wu=[];. have i:jlx { AbF with Wu:=Wu,s14:=s14,s15:=s15,c16:=c16,E9:=ms }=[]:=Xo hj;rw[i]at a;exact B4t g a fe fe
    .have i:jlx { AbF with Wu:=Wu,s14:=s14,s15:=s15,c16:=c16,E9:=ms }=[Bil,.nm Wu,BvS,.nm s14,.sg [61],.nm s15,BdJ,.nu c16]:=X2 hj;rw[i]at a;rw[show AfM l (n:Nat) _=_ from Wf a];decide
   show A80 l n AbF=_;unfold A80;rw[X2 (by rw[p];decide)];exact f.b l n a
def Boh(S:Src l xs)(h:A0f l n AbF=some (Q,j))(e:AbF.E9=[])(p:AbF.Wu=[])(k:AbF.W0=0):∃Uw W0 Wu s14 s15 c16 ms xw,Q={ AbF with Uw:=Uw,W0:=W0,Wu:=Wu,s14:=s14,s15:=s15,c16:=c16,E9:=ms }/\MaQ ms xw/\(Wu=[]\/NmG Wu/\NmG s14/\NmG s15/\Num c16)/\Num W0/\NmG Uw /\
 Stg (λl n=>A0f l n AbF) xs (slx Q xw) [AlF] n j Q:=by have⟨i,h1,g1⟩:=X4.1 h;have⟨t,g,g2⟩:=X4.1 g1;have⟨rfl,a2⟩:=AjG S h1 AuV rfl;have⟨f,b2⟩:=A6s S g;obtain⟨W0,Wu,s14,s15,c16,ms,xw,rfl,d,w2,m,c⟩:=BmZ S g2 e p k;refine⟨_,_,_,_,_,_,_,_,rfl,d,w2,m,f,a2.cons (b2.cons c.w),λl n a=>?_⟩;have⟨_,o,q⟩:=A5I a.tl;unfold A0f;rw[show Aax l n tf=_ from Aec a (.inl rfl),Yr,o,Yr,q,show A80 l ..=_ from c.b l _ a.tl.tl];simp[slx,Yl,Y7,Gx,ef,Vn,U4];omega
def Ba5{a b:Nat}(h:a<=b)(e:b<=1000000000):(Nm.V8 a).length<=(Nm.V8 b).length:=by
 unfold Nm.V8;rw[Alh,Alh,Lm,Lm];rcases Aqg b e with⟨h1,d⟩|⟨D,h1,d,k,g,i⟩<;>rcases Aqg a om with⟨c,k2⟩|⟨E,c,k2,f,m,o⟩;. omega
 .grind
 .omega
 .have:=(ap (show 1<10 by grind)).1 (show 10^E<10^(D+1)by omega);omega
def FaQ s xf:=∃a d:Nat,a<=1000000000/\d<=1000000000/\0<d/\Nat.gcd a d=1/\s=fTx a d/\xf=if d=1 then[.nu a]else[.nu a,A1X,.nu d]
def A8X(a d:Nat):rmk a d=fTx (a/Nat.gcd a d) (d/Nat.gcd a d):=by unfold rmk fTx;rw[Int.gcd_natCast_natCast,<- Int.natCast_ediv,<- Int.natCast_ediv];grind
def Bti(a:AaO l n r)(b:l.length=n+r.length):∀s,AfM l (n+r.length:Nat) s=false:=λs=>by unfold AfM;grind
def BeV(S:Src l xs)(h:A0L l n AbF=some (Q,j))(q:AbF.Wz=false):∃Mg Wz,Q={ AbF with Mg:=Mg,Wz:=Wz }/\Num Mg/\T3 xs (elx Q) n j/\∀(l:List Tok) (n:Nat),AaO l n (elx Q)->l.length=n+(elx Q).length->A0L l n AbF=some (Q,n+(elx Q).length):=by
 unfold A0L at h;obtain⟨i,h1,g1⟩:=X4.1 h;obtain⟨t,k,g2⟩:=X4.1 g1;clear h g1;obtain⟨rfl,a2⟩:=AjG S (x:=Bih) h1 AuV rfl;obtain⟨m0,m1,d⟩:=Bev S k;have e:∀{l:List Tok} {n:Nat} {g:Qr},A4b l n g=some (Q,j)->Q=g/\j=n:=λo=>by unfold A4b at o;simp_all
 split at g2
 .rename_i c;split at g2;. rename_i p;have m:=Anj S (x:=Bik) p AuV rfl;obtain⟨rfl,rfl⟩:=e g2;refine⟨t.n,true,rfl,m1,a2.cons (d.cons m),λl n a b=>?_⟩;have a:AaO l n [Bih,.nu t.n,Bik]:=a;have b:l.length=n+3:=b;obtain⟨u,v,y⟩:=A0J a.tl m0;unfold A0L;rw[show Aax l n tv=_ from Aec a (.inl rfl),Yr,v,Yr,Xo c,Xo (by rw[show AfM l ((n+1+1:Nat):Int) _=_ from Wf a.tl.tl];rfl),y];unfold A4b;rw[X2 om];rfl
  .obtain⟨rfl,rfl⟩:=e g2;refine⟨t.n,false,rfl,m1,a2.cons d,λl n a b=>?_⟩;have a:AaO l n [Bih,.nu t.n]:=a;have b:l.length=n+2:=b;obtain⟨u,v,y⟩:=A0J a.tl m0;unfold A0L;rw[show Aax l n tv=_ from Aec a (.inl rfl),Yr,v,Yr,Xo c,X2 (by rw[show AfM l ((n+1+1:Nat):Int) _=_ from Bti a b _];grind),y];unfold A4b;grind
 .rename_i c;obtain⟨rfl,rfl⟩:=e g2;have f:elx { AbF with Mg:=t.n }=[Bih,.nu t.n]:=by unfold elx;grind
  refine⟨t.n,AbF.Wz,rfl,m1,by rw[f];exact a2.cons d,λl n a b=>?_⟩;rw[f]at a b ⊢;have b:l.length=n+2:=b;obtain⟨u,v,y⟩:=A0J a.tl m0;unfold A0L;rw[show Aax l n tv=_ from Aec a (.inl rfl),Yr,v,Yr,X2 c,y];unfold A4b;simp_all
def BoC(S:Src l xs)(h:AxY l n AbF=some (Q,j))(H:AbF.Wz=false):∃Oi Mg Wz c,Q={ AbF with Oi:=Oi,Mg:=Mg,Wz:=Wz }/\Num Mg/\FaQ Oi c/\T3 xs (wlx Q c) n j/\∀(l:List Tok) (n:Nat),AaO l n (wlx Q c)->l.length=n+(wlx Q c).length->AxY l n AbF=some (Q,n+(wlx Q c).length):=by
 unfold AxY at h;obtain⟨i,h1,g1⟩:=X4.1 h;obtain⟨i2,P,g2⟩:=X4.1 g1;obtain⟨J,Y,q⟩:=X4.1 g2;clear h g1 g2;obtain⟨rfl,a2⟩:=AjG S (x:=AlF) h1 AuV rfl;obtain⟨rfl,b2⟩:=AjG S (x:=AyL) P AuV rfl;obtain⟨K,c2⟩:=A2m S Y;obtain⟨a,b⟩:∃a:Nat,J.n=a:=⟨J.n.toNat,(Tb K.1).symm⟩;have p:a<=1000000000:=by have:=K.2;omega
 have one:∀{f:Qr} {m:Nat} {i:Nat},m<=1000000000->T3 xs [.nu (m:Int)] (n+1+1) i->A0L l i { AbF with Oi:=Nm.V8 (m:Int) }=some (f,j)->∃Oi Mg Wz c,f={ AbF with Oi:=Oi,Mg:=Mg,Wz:=Wz }/\Num Mg/\FaQ Oi c/\T3 xs (wlx f c) n j/\∀(l:List Tok) (n:Nat),AaO l n (wlx f c)->l.length=n+(wlx f c).length->AxY l n AbF=some (f,n+(wlx f c).length):=by
  intro f m i z X B;obtain⟨Mg,Wz,hq,e1,s,C⟩:=BeV S B H;replace hq:f={ AbF with Oi:=Nm.V8 (m:Int),Mg:=Mg,Wz:=Wz }:=hq;subst hq;refine⟨Nm.V8 (m:Int),Mg,Wz,[.nu (m:Int)],rfl,e1,⟨m,1,z,by decide,by decide,Nat.gcd_one_right m,rfl,rfl⟩,a2.cons (b2.cons (X.cons s)),λl n b o=>?_⟩;have b:AaO l n (AlF::AyL::.nu (m:Int)::elx { AbF with Oi:=Nm.V8 (m:Int),Mg:=Mg,Wz:=Wz }):=b;have o:l.length=n+((elx { AbF with Oi:=Nm.V8 (m:Int),Mg:=Mg,Wz:=Wz }).length+1+1+1):=o;obtain⟨u,v,y⟩:=AyW b.tl.tl;have e:=C l _ b.tl.tl.tl om;unfold AxY;rw[show Aax l n wb=_ from Aec b (.inl rfl),Yr,show Aax l (n+1) wq=_ from Aec b.tl (.inl rfl),Yr,v,Yr,y]
  unfold BlO;rw[X2 (by rw[show AfM l ((n+1+1+1:Nat):Int) _=_ from Wf b.tl.tl.tl];decide),e];simp only[wlx,Yl,Y7,Gx,ef,Vn,U4];omega
 unfold BlO at q;split at q
 .rename_i hs;obtain⟨M,U,g⟩:=X4.1 q;have d0:=Anj S (x:=A1X) hs BfZ rfl;obtain⟨d1,d2⟩:=A2m S U;split at g;. cases g
  rename_i hd0;obtain⟨d,hd⟩:∃d:Nat,M.n=d:=⟨M.n.toNat,(Tb d1.1).symm⟩;have E:d<=1000000000:=by have:=d1.2;omega
  have k:0<d:=by omega
  rw[b,hd,A8X]at g;rw[hd]at d2;rw[b]at c2;have I:0<Nat.gcd a d:=Se a k;have l1:a/Nat.gcd a d<=a:=T6 _ _;have l2:d/Nat.gcd a d<=d:=T6 _ _;have W:0<d/Nat.gcd a d:=Nat.div_pos (Nat.le_of_dvd k (Nat.gcd_dvd_right a d)) I;have L:Nat.gcd (a/Nat.gcd a d) (d/Nat.gcd a d)=1:=by rw[Nat.gcd_div (Nat.gcd_dvd_left a d) (Nat.gcd_dvd_right a d),Nat.div_self I]
  have R:=d0.cons d2;have O:=c2.cons R;generalize a/Nat.gcd a d=a' at *;generalize d/Nat.gcd a d=d' at *;have m1:=Ba5 l1 p;have m2:=Ba5 l2 E;have G:=O.w;by_cases A:d'=1
  .have F:fTx a' d'=Nm.V8 (a':Int):=Xo A;rw[F]at g;refine one om ⟨λx hx=>?_,?_⟩ g;. rw[W9.1 hx];exact⟨by omega,by omega⟩
   .simp only[Aj7,lt,Y7,Gx]at G ⊢;omega
  .have F:fTx a' d'=Nm.V8 (a':Int)++47::Nm.V8 (d':Int):=X2 A;obtain⟨Mg,Wz,hq,e1,s,C⟩:=BeV S g H;replace hq:Q={ AbF with Oi:=fTx a' d',Mg:=Mg,Wz:=Wz }:=hq;subst hq;refine⟨fTx a' d',Mg,Wz,[.nu (a':Int),A1X,.nu (d':Int)],rfl,e1,⟨a',d',by omega,by omega,W,L,rfl,(X2 A).symm⟩,?_,λl n b o=>?_⟩
   .refine a2.cons (b2.cons (T3.app (i:=n+1+1+1+1+1) ⟨?_,?_⟩ s));. refine Tl.2 ⟨⟨by omega,by omega⟩,Tl.2 ⟨BfZ,Tl.2 ⟨⟨by omega,by omega⟩,λ_ h=>nomatch h⟩⟩⟩
    .simp only[Aj7,lt,Y7,Gx]at G ⊢;omega
   .have b:AaO l n (AlF::AyL::.nu (a':Int)::A1X::.nu (d':Int)::elx { AbF with Oi:=fTx a' d',Mg:=Mg,Wz:=Wz }):=b;have o:l.length=n+((elx { AbF with Oi:=fTx a' d',Mg:=Mg,Wz:=Wz }).length+1+1+1+1+1):=o;obtain⟨u,v,y⟩:=AyW b.tl.tl;obtain⟨u',v',V⟩:=AyW b.tl.tl.tl.tl;have e:=C l _ b.tl.tl.tl.tl.tl om;have T:rmk (a':Int) (d':Int)=fTx a' d':=by rw[A8X,L,Qf,Qf]
    unfold AxY;rw[show Aax l n wb=_ from Aec b (.inl rfl),Yr,show Aax l (n+1) wq=_ from Aec b.tl (.inl rfl),Yr,v,Yr,y];unfold BlO;rw[Xo (by rw[show AfM l ((n+1+1+1:Nat):Int) _=_ from Wf b.tl.tl.tl];rfl),v',Yr,V,X2 om,T,e];simp only[wlx,Yl,Y7,Gx,ef,Vn,U4];omega
 .rw[b]at q c2;exact one p c2 q
structure TxG(Q:Qr)(xe xw xf:List L3):Prop where
 ki:KiQ Q xe
 tbl:NmG Q.Uw
 By:Num Q.W0
 join:Q.Wu=[]\/(NmG Q.Wu/\NmG Q.s14/\NmG Q.s15/\Num Q.c16)
 E9:MaQ Q.E9 xw
 fac:FaQ Q.Oi xf
 bits:Num Q.Mg
 ok:∀x∈qlx Q xe xw xf,LxG x
 len:Aj7 (qlx Q xe xw xf)<=1800
 again:∀l,Tk2 l (qlx Q xe xw xf)->A0b l=some (Q,l.length)
def Bxv:∀p∈kdW,kdF kdW p.1=some p.2/\p.1∈W35:=by decide
def Bnr(S:Src l xs)(hx:Aj7 xs<=1800)(h:A0b l=some (Q,j)):∃i xw f,TxG Q i xw f:=by unfold A0b at h;obtain⟨g,h1,g1⟩:=X4.1 h;obtain⟨⟨c,W⟩,F,g2⟩:=X4.1 g1;obtain⟨⟨U,j2⟩,R,V⟩:=X4.1 g2;clear h g1 g2;cases o:kAt l 0 2 with
|none=>rw[o]at h1;replace h1:kdF kdW []=some g:=h1;rw[show kdF kdW []=none by rfl]at h1;grind
|some tk=>
 rw[o]at h1;have h1:kdF kdW tk.t=some g:=h1;have B:=A8y h1;obtain⟨_,q⟩:=Bxv _ B;obtain⟨C,k2⟩:=Agu o;have w0:T3 xs [.kw tk.t] 0 1:=.one (x:=.kw tk.t) q (BmX S.k S.x C (.inl k2)) (Ye _);obtain⟨i,d,a2,L,z⟩:=Bjj S B F;obtain⟨z1,J,T,Y,X,z6,G⟩:=a2;obtain⟨Uw,W0,Wu,s14,s15,c16,ms,xw,hq,E,b2,I,P,y⟩:=Boh S R G T J;replace hq:U={ c with Uw:=Uw,W0:=W0,Wu:=Wu,s14:=s14,s15:=s15,c16:=c16,E9:=ms }:=hq;subst hq;obtain⟨Oi,Mg,Wz,f,hq,M,c2,c3,c4⟩:=BoC S V z1;replace hq:Q={ c with Uw:=Uw,W0:=W0,Wu:=Wu,s14:=s14,s15:=s15,c16:=c16,E9:=ms,Oi:=Oi,Mg:=Mg,Wz:=Wz }:=hq;subst hq;have u:T3 xs (qlx { c with Uw:=Uw,W0:=W0,Wu:=Wu,s14:=s14,s15:=s15,c16:=c16,E9:=ms,Oi:=Oi,Mg:=Mg,Wz:=Wz } i xw f) 0 j:=by
  have:(kdW.getD (kno c) ([],0)).1=tk.t:=by grind
  rw[<- this]at w0;exact w0.cons ((z []).w.app (y.w.app c3))
 refine⟨i,xw,f,⟨d.k,d.v,d.nm,d.q5,d.b7,d.o10,d.ex,d.od⟩,P,I,b2,E,c2,M,u.ok,?_,λs K=>?_⟩;. have:=u.w;have e:wx xs 0=Aj7 xs:=rfl;omega
 .have A:=Bed K;have m:=Bky (a:=[]) K;have hq:qlx { c with Uw:=Uw,W0:=W0,Wu:=Wu,s14:=s14,s15:=s15,c16:=c16,E9:=ms,Oi:=Oi,Mg:=Mg,Wz:=Wz } i xw f=.kw tk.t::(kbx c i++(slx { c with Uw:=Uw,W0:=W0,Wu:=Wu,s14:=s14,s15:=s15,c16:=c16,E9:=ms } xw++wlx { c with Uw:=Uw,W0:=W0,Wu:=Wu,s14:=s14,s15:=s15,c16:=c16,E9:=ms,Oi:=Oi,Mg:=Mg,Wz:=Wz } f)):=by
   have:(kdW.getD (kno c) ([],0)).1=tk.t:=by rw[L]
   rw[<- this];rfl
  rw[hq]at m A;have m:AaO s 0 (.kw tk.t::(kbx c i++(slx { c with Uw:=Uw,W0:=W0,Wu:=Wu,s14:=s14,s15:=s15,c16:=c16,E9:=ms } xw++wlx { c with Uw:=Uw,W0:=W0,Wu:=Wu,s14:=s14,s15:=s15,c16:=c16,E9:=ms,Oi:=Oi,Mg:=Mg,Wz:=Wz } f))):=m;obtain⟨u1,u2⟩:=AaO.app.1 m.tl;obtain⟨u3,u4⟩:=AaO.app.1 u2;obtain⟨H,p,O⟩:=A7t m;have p:kAt s 0 2=some _:=p;have e2:=y.b _ _ (AaO.app.2 ⟨u3,u4.1,trivial⟩:AaO _ _ (slx ..++[AlF]));simp[Y7,Yl]at A;unfold A0b;rw[p];show(kdF _ H.t).bind _=_;rw[O.2,h1,Yr,show AzC _ 1 g=_ from((z []).b s (0+1) (by grind)),Yr];grind
def txt Q xe xw xf:=jn none (qlx Q xe xw xf)
def TxG.text{a b}(K:TxG Q a xw b):(txt Q a xw b).length<=1800/\(∀c∈txt Q a xw b,c<256)/\txt Q a xw b≠[]/\(qlx Q a xw b).length<=900/\AsA (txt Q a xw b)=some (qlx Q a xw b):=by
 obtain⟨h1,d⟩:=BrL _ _ K.ok;have o:=Boz (qlx Q a xw b) none;have m:=K.len;have i:∀{l},(∀x∈l,LxG x)->2*l.length<=Aj7 l:=by intro l;induction l with
  |nil=>simp
  |cons x r f=>intro h;have h1:=(Bjn (h x Wm ..)).1;have d:=f λy g=>h y (Vo _ g);simp[Y7,Aj7];omega
 have k:=i K.ok;refine⟨by unfold txt;omega,h1,λe=>?_,by omega,Bnb K.ok om d⟩;unfold txt at e;rw[e]at d;simp[qlx]at d
end Go.Proofs
