/- Columns that numbers select. -/
import Derived.Test.YtecikbfimlolcaaGreatDoorEvQc
import Derived.Test.YtecikbfimlolcaaGreatDoorEvRa
set_option linter.all false
set_option maxRecDepth 100000
noncomputable section
namespace Go.Proofs
open Go Go.Ev Go.Nm Tryz Go.Ev.Sx
attribute [local irreducible] Aa Al Af Ad
variable {j:AV}{o:H}
variable (Z:Ac)(N:Nat)
def Below(k:Int)(r:AV)(_:H):Prop:=∃j:Int,r=iI j/\0<=j/\(j<k\/j=0)
def R78:Prop:=∀(n k:Int) (h:H),1<=k->k<=9223372036854775807->Ah h (Below k) (Z.call 78 [iI n,iI k] h)
def r78(n k:Int)(h:H)(a:1<=k)(b:k<=9223372036854775807):Ah h (Below k) (Ay prog Z N true 78 [iI n,iI k] h):=by
 rw[e78];have h1:=Int.lt_tmod_of_pos n (show 0<k by omega)
 have h2:=Int.tmod_lt_of_pos n (show 0<k by omega)
 repeat' (first|refine wk ?_|(refine zqq ?_ ?_<;>intro hc<;>(try (exfalso;omega)))|fail)
 .refine zr (Ai.refl _) ⟨_,rfl,?_,.inl ?_⟩<;>omega
 .refine zr (Ai.refl _) ⟨_,rfl,?_,.inl ?_⟩<;>omega
def R38:Prop:=∀(tk:Nat) (a:AV) (L:List Int) (k:Int) (h:H),H8 h tk a->R0 1 (λn:Int=>[iI n]) h a L->Av tk a->(L.length:Int)<=9223372036854775807->k<=9223372036854775807 ->
 D6 tk a h (Below k) (Z.call 38 [.ptr tk 0,iI k] h)
def r38(p:R78 Z)(tk:Nat)(a:AV)(L:List Int)(k:Int)(h:H)(c:H8 h tk a)(i:R0 1 (λn:Int=>[iI n]) h a L)(B:Av tk a)(K:(L.length:Int)<=9223372036854775807)(F:k<=9223372036854775807):
 D6 tk a h (Below k) (Ay prog Z N false 38 [.ptr tk 0,iI k] h):=by
 refine Qk ?_;rw[e38];have M:=c.lt;obtain⟨m,D,hc⟩:=c.cell;have x:∀j,Fo a j=.ok (iI (L.length:Int)) j:=λ_=>i.Gs;obtain⟨C,E⟩:=B2 i;cases z:decide ((L.length:Int)<=m)
 .have g:((m.toNat:Nat):Int)=m:=Qy D;have G:m<(L.length:Int):=by have:=bh z;omega
  have hi:m.toNat<L.length:=by omega
  cases I:decide (k<1)
  .have l:1<=k:=by have:=bh I;omega
   have w:TG tk a h (h.put tk (tkC a (m+1))):=(TG.refl c).put _ om;have d:=i.tg c B w;obtain⟨b,o,r⟩:=R0.elem (f:=λn:Int=>[AV.int .i64 n]) (s:=1) (λ_=>rfl) d (Xs hi);have y:=r.ia;rw[g]at y;have t:=r.part 0 _ rfl;rw[Mz]at t;generalize L[m.toNat]=e at t;clear i d r g hi;(repeat' (first|refine wd ?_|((with_reducible (first|apply Fj|apply zc2));exact p _ _ _ l F;intro J j A v u O;(first|(have q:=Ai.quiet A;try simp only[C9]at v u q)|(try simp only[C9]at v u));skip)))
   .exact zr (Ed _) ⟨w.gr (Ai.Be (h2:=h.put tk (tkC a (m+1))) Ex (Ai.refl _)),by assumption⟩
  .refine wd ?_;exact zr (Ed _) ⟨(TG.refl c).gr Ex,_,rfl,bw _,.inr rfl⟩
 .refine wd ?_;exact zr (Ed _) ⟨(TG.refl c).gr Ex,_,rfl,bw _,.inr rfl⟩
abbrev Aeb(s:List Nat):List AV:=[.str s]
def Ama:∀l:List (List Nat),Bm (l.flatMap Aeb)=true
|[]=>rfl
|x::l=>by have a:=Ama l;simp[a]
abbrev Ig(h:H)(v:AV)(l:List (List Nat)):Prop:=R0 1 Aeb h v l
def Axa:Prop:=∀(l:List (List Nat)) (v:AV) (h:H),Ig h v l->l.length<=10000000->Ah h (λr h1=>Ig h1 r l/\W7 1 h.nx r/\Ge r=true/\cellsOf r=some [r]) (Z.call 134 [v] h)
def A9Y(l:List (List Nat))(v:AV)(h:H)(d:Ig h v l)(e:l.length<=10000000):Ah h (λr h1=>Ig h1 r l/\W7 1 h.nx r/\Ge r=true/\cellsOf r=some [r]) (Ay prog Z N true 134 [v] h):=by rw[A7A];obtain⟨w,h',b,c,a⟩:=cp (bytes:=16) (et:=9) (lo:=h.nx) om d (Ama l) (Yw _);refine Ey (v:=.sl h.nx 0 0 0 1 true) (h:=h.new (.cells [] 9 .exact)) rfl ?_;exact Ey b (Lo c ⟨a.sl,W7.own a,B2 a.sl⟩)
def R2:List (List Nat):=[[112,101,111,112,108,101],[118,105,115,105,116,115],[112,108,97,99,101,115],[110,111,116,101,115]]
def N1:List (List Nat):=[[97,103,101],[99,111,108,111,117,114],[104,101,105,103,104,116],[112,108,97,99,101],[115,99,111,114,101]]
def R9:List (List Nat):=[[114,101,100],[103,114,101,101,110],[98,108,117,101],[103,114,101,121],[112,105,110,107]]
def nmL(k:Int):List (List Nat):=if k=0 then R2 else if k=1 then N1 else R9
def AdD(a b:Int)(ws:List (List Nat)):Prop:=(ws=[]/\-3<=a/\a<=b/\b<=20)\/∃u:Nat,1<=u/\u<=5/\ws=R9.take u/\a=0/\b=(u:Int)-1
def AdD.Mu{a b:Int}{ws:List (List Nat)}(h:AdD a b ws):ws.length<=5:=by
 rcases h with⟨rfl,_⟩|⟨u,_,h2,rfl,_⟩
 .exact Jv _
 .rw[Cm];omega
def Apn(l:List (List Nat))(lo:Nat)(r:AV)(h1:H):Prop:=∃ws:List (List Nat),ws=l/\Ig h1 r ws/\W7 1 lo r/\Ge r=true/\cellsOf r=some [r]/\(∀w∈ws,w≠[])/\∀b off len cap z ex,r=.sl b off len cap z ex->B5 (h1.m.get b)=none
def Aas{h1:H}(ws:List (List Nat))(n:Nat)(hn:ws.length=n)(e:∀w∈ws,w≠[])(c:h1.m.get o.nx=.cells (ws.flatMap Aeb) 9 .exact)(d:h1.nx=o.nx+1):Apn ws o.nx (.sl o.nx 0 n n 1 true) h1:=by
 subst hn;refine⟨ws,rfl,Sl.lit c d (Aa9 (f:=Aeb) (s:=1) (λ_=>rfl) ws),λb off len cap z ex a h0=>?_,rfl,rfl,e,λb off len cap z ex a=>?_⟩
 .cases a;exact Yw _
 .cases a;rw[c];rfl
def Acg{s len i b h:Nat}{c l:List AV}(d:Sl s o j len c)(hi:i<len)(e:AsU s o j i l b h):∃off cap ex,j=.sl b off len cap s ex:=by
 rcases d with⟨h1,_⟩|⟨a,off,cap,ex,cs,rfl,g,f,v,q5⟩
 .omega
 .have h2:=e.ia o;rw[Agr s a off len cap s ex i hi]at h2;cases h2;exact⟨off,cap,ex,rfl⟩
def R82:Prop:=∀(k:Int) (h:H),Ah h (Apn (nmL k) h.nx) (Z.call 82 [iI k] h)
def r82(k:Int)(h:H):Ah h (Apn (nmL k) h.nx) (Ay prog Z N true 82 [iI k] h):=by
 rw[e82];by_cases h0:k=0
 .subst h0;refine wk ?_;exact zr Ex (Aas R2 4 rfl fe (Bf _) rfl)
 .by_cases h1:k=1
  .subst h1;refine wk ?_;exact zr Ex (Aas N1 5 rfl fe (Bf _) rfl)
  .rw[show nmL k=R9 by unfold nmL;rw[X2 h0,X2 h1]]
   refine wk ?_;exact zr Ex (Aas R9 5 rfl fe (Bf _) rfl)
def AxQ(lo:Nat)(name:List Nat)(a b:Int)(ws:List (List Nat))(r:AV)(h1:H):Prop:=∃w:AV,r=.agg [.str name,iI a,iI b,w]/\Ig h1 w ws/\W7 1 lo w/\Ge w=true/\cellsOf w=some [w]
def AbH(lo:Nat)(name:List Nat)(r:AV)(h1:H):Prop:=∃(a b:Int) (w:AV) (ws:List (List Nat)),r=.agg [.str name,iI a,iI b,w]/\AdD a b ws/\Ig h1 w ws/\W7 1 lo w/\Ge w=true/\cellsOf w=some [w]
abbrev Lf(h:H)(v:AV)(L:List Int):Prop:=R0 1 (λn:Int=>[iI n]) h v L
structure H9(tk:Nat)(vl:AV)(L:List Int)(h:H):Prop where
 at':H8 h tk vl
 ints:Lf h vl L
 av:Av tk vl
 len:(L.length:Int)<=9223372036854775807
def H9.tg{tk:Nat}{L:List Int}{h1:H}(hi:H9 tk j L o)(e:TG tk j o h1):H9 tk j L h1:=⟨e.at hi.at'.lt,hi.ints.tg hi.at' hi.av e,hi.av,hi.len⟩
def AiD:∀(l:List (List Nat)) (u:Nat),(l.flatMap Aeb).take (u*1)=(l.take u).flatMap Aeb
|[],u=>by simp
|a::l,0=>by simp
|a::l,u+1=>by have b:=AiD l u;simp only[ae]at b ⊢;simp[b]
def Sl.To{s lo c len:Nat}{h:H}{cs l:List AV}{e1:TypeId}(e:Sl s h j len cs)(f:W7 s lo j)(hc:c<lo)(d:Vu l.length (h.m.get c)=true):Sl s (h.put c (.cells l e1 .exact)) j len cs:=by
 obtain⟨l0,k,d,i⟩:=Pb d;refine Sl.AnO e d i λh0 b off n cap z ex a=>?_;rcases e with⟨_,_,h1⟩|⟨v,o,q,g,bs,h1,p,_⟩
 .rw[h1]at a;cases a
 .have h2:=f b off n cap z ex a;rw[h1]at a;cases a;have:=h2 h0;omega
def R81:Prop:=∀(tk:Nat) (a:AV) (L:List Int) (name:List Nat) (h:H),H9 tk a L h->D6 tk a h (AbH h.nx name) (Z.call 81 [.ptr tk 0,.str name] h)
def r81(v:R38 Z)(s:R82 Z)(n:Axa Z)(tk:Nat)(a:AV)(L:List Int)(name:List Nat)(h:H)(hi:H9 tk a L h):D6 tk a h (AbH h.nx name) (Ay prog Z N false 81 [.ptr tk 0,.str name] h):=by
 refine Qk ?_;rw[e81];have E:=hi.at';have F:=E.lt;have D:∀(k:Int) (hc:H),TG tk a h hc->k<=9223372036854775807->D6 tk a hc (Below k) (Z.call 38 [.ptr tk 0,iI k] hc):=λk hc e O=>v tk a L k hc (hi.tg e).at' (hi.tg e).ints hi.av hi.len O;clear hi v;(repeat' (first|refine wk ?_|((with_reducible apply M5);exact D _ _ L5 om;intro m c p f d g;(try simp only[C9]at f d);obtain⟨w,rfl,j0,V⟩:=g)|((with_reducible (first|apply Fj|apply zc2));exact s _ _;intro m c p f d g;(try simp only[C9]at f d);obtain⟨ws,wn,A,G,T,w2,J,B⟩:=g)|(refine zqq ?_ ?_<;>intro hc<;>(try (exfalso;omega)))|fail))
 .obtain⟨u,R⟩:∃u:Nat,(u:Int)=1+w:=⟨(1+w).toNat,by omega⟩;have i:Ig _ m ws:=Sl.tg A (TG.at (h:=h) L5 F) (λb off len cap z ex q h0=>by have:=G b off len cap z ex q h0;omega) p
  have C:ws.length=5:=by rw[wn];rfl
  obtain⟨v',M,o⟩:=Sl.hiS (P:=prog) (t:=94) (e:=9) (bytes:=16) (u:=u) (by kernel_rfl) i om;rw[R]at M;rw[AiD]at o;have r:(ws.take u).length=u:=by rw[Cm];omega
  have hq:Ig c v' (ws.take u):=by rw[show Ig c v' (ws.take u)=Sl 1 c v' (ws.take u).length ((ws.take u).flatMap Aeb)from rfl,r];exact o
  clear o A i;(repeat' (first|refine wk ?_|((with_reducible (first|apply Fj|apply zc2));exact n (ws.take u) v' _ hq om;intro m c p f d g;(try simp only[C9]at f d);obtain⟨y,j,S,K⟩:=g;have W:=λl=>Sl.Gs (h1:=l) y)));have I:(nmL 2).length=5:=rfl;refine zr (Ed _) ⟨L5,_,_,_,ws.take u,rfl,.inr ⟨u,by omega,by omega,by rw[wn];rfl,rfl,by omega⟩,?_,?_,S,K⟩
  .exact Sl.To (Sl.To (Sl.To y j Ce N4) j Ce N4) j Ce N4
  .intro b off len cap z ex q h0;have:=j b off len cap z ex q h0;omega
 .refine Pu tk h.nx ?_ λX U=>?_
  .simp only[Tl,Pl,Ju,G4,Jj];repeat' (refine And.intro ?_ ?_)
   all_goals first|(left;simp;done)|(refine .inr ⟨λx l=>?_,?_⟩;(focus first|exact .inl (TG.wrote (by assumption) x l)|(refine .inr ?_;have Q:=(D4 _ _ _ l).1;simp at Q;omega));(repeat' (refine And.intro ?_ ?_));all_goals first|(exact Ar ..)|(refine Ax _ _ _ _ _ _ _ _ _ _ _ _ ?_;decide)|exact Ci ..|exact Dk (tk:=tk) (TG.wrote (by assumption)) Ce (.inr ⟨_,_,_,rfl,by omega,by simp[B5]⟩))
  .refine wk ?_;exact zr (Ed _) ⟨L5,_,_,.Bv,[],rfl,.inl ⟨rfl,by omega,by omega,by omega⟩,.inl ⟨rfl,rfl,rfl⟩,W7.Bv 1 _,rfl,rfl⟩
def R83:Prop:=∀(name:List Nat) (a b:Int) (w:AV) (ws:List (List Nat)) (h:H),Ig h w ws->ws.length<=5->Ah h (AxQ h.nx name a b ws) (Z.call 83 [.agg [.str name,iI a,iI b,w]] h)
def r83(e:Axa Z)(name:List Nat)(a b:Int)(w:AV)(ws:List (List Nat))(h:H)(c:Ig h w ws)(s:ws.length<=5):Ah h (AxQ h.nx name a b ws) (Ay prog Z N true 83 [.agg [.str name,iI a,iI b,w]] h):=by
 rw[e83];obtain⟨r,o⟩:=B2 c;(repeat' (first|refine wk ?_|((with_reducible (first|apply Fj|apply zc2));exact e ws w _ (Sl.By c M0) om;intro n p t g i j;(try simp only[C9]at g i);obtain⟨f,d,m,k⟩:=j;have q:=λl=>Sl.Gs (h1:=l) f)));refine zr Ex ⟨_,rfl,?_,?_,m,k⟩
 .exact Sl.To (Sl.To f d Ce N4) d Ce N4
 .intro b off len cap z ex c h0;have:=d b off len cap z ex c h0;simp only[C9]at this;omega
end Go.Proofs
