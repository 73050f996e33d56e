/- The contracts of the lexer and of the fractions' functions put together. -/
import Derived.Test.YtmjmhajonaelcaaGreatDoorEvRb
set_option linter.all false
set_option maxRecDepth 100000
noncomputable section
namespace Go.Proofs
open Go Go.Ev Go.Nm Tryz Go.Ev.Sx
attribute [local irreducible] Aa Al Af Ad
variable (Z cx:Ac)(N:Nat)
variable {h h1:H}{s:uq}
def BhG:=∀s t h,Ah h (λr _=>r=.bool (Gn s t)) (Z.call 165 [.str s,.str t] h)
def B52(a:Be1 Z) s t h:Ah h (λr _=>r=.bool (Gn s t)) (mr Z N 165 [.str s,.str t] h):=by rw[BjF];exact Fj (a s h) λc h1 e1 l1 b d=>wk (zr Ex rfl)
def BhF:=∀s h,S0 h->s∈W35->Ah h (λr _=>∃i,r=.Bj [iI i,uz]) (Z.call 138 [.sl 0 0 35 35 1 true,.str s] h)
def Bjo(R:BhG Z)(v:AV)(ws:List uq)(s:uq)(h:H)(F:Ig h v ws)(hl:ws.length<=50){p:Nat}(O:ws[p]?=some s)(J:∀k w,ws[k]?=some w->Gn w s=decide (k<p)):
 ∀(u:Nat) (a b:Nat) (n:Nat) (hd:H) (f0:L2),b=a+u->a<=p->p<=b->b<=ws.length->u<n->Ai h hd->Ah h (λr _=>∃i,r=.Bj [iI i,uz]) (Anb Z N n v (.str s) (iI (ws.length:Int)) (iI (a:Int)) (iI (b:Int)) f0 hd):=by
 intro u;induction u using Nat.strongRecOn with
 |_ u G=>
 intro a b n hd f0 l C B V hn K;obtain⟨n1,rfl⟩:∃n1,n=n1+1:=⟨n-1,by omega⟩;have Kf:=K.lo;have Z1:=(Wp.1 O).1;obtain⟨x,t⟩:∃x:Int,x=(a:Int):=⟨_,rfl⟩;obtain⟨y,E⟩:∃x:Int,x=(b:Int):=⟨_,rfl⟩;obtain⟨z,q⟩:∃x:Int,x=(ws.length:Int):=⟨_,rfl⟩;rw[<- t,<- E,<- q];cases u with
 |zero=>
  have T:decide (x<y)=false:=df;rw[Ayt];obtain rfl:a=p:=by omega
  have k2:decide (x<z)=true:=dt;obtain⟨U,X,j⟩:=R0.elem (f:=Aeb) (s:=1) (λ_=>rfl) (Sl.By F K.keeps) O;have S:=j.ia;rw[<- t]at S;have P:=j.part 0 _ rfl;rw[Vw]at P;have k3:decide (s=s)=true:=Ws rfl;have xt:∀(w:Bool) (r:OR) (c:H),Ad (.Bj []) w r c=.ok (.Bj []) c:=λ_ _ _=>by kernel_rfl
  clear j O F G t E q l J C B;refine wk ?_;exact zr Ex ⟨_,rfl⟩
 |succ u=>
  have T:decide (x<y)=true:=dt;obtain⟨m,Q⟩:∃m:Nat,m=(a+b)/2:=⟨_,rfl⟩;obtain⟨A,d⟩:∃x:Int,x=(m:Int):=⟨_,rfl⟩;obtain⟨w,I⟩:∃w,ws[m]?=some w:=⟨_,Oh om⟩;obtain⟨U,X,j⟩:=R0.elem (f:=Aeb) (s:=1) (λ_=>rfl) (Sl.By F K.keeps) I;have S:=j.ia;rw[<- d]at S;have P:=j.part 0 _ rfl;rw[Vw]at P;have y1:∀c:H,A6r .u64 (iI (x+y)) c=.ok (cn (x+y)) c:=λc=>by rw[Awb,A1c _ om om]
  have y2:∀c:H,Aj prog .shr 222 true (cn (x+y)) (cn 1) c=.ok (cn A) c:=λc=>by rw[show x+y=((a+b:Nat):Int)by omega,BlC,<- Q,<- d]
  have y3:∀c:H,A6r .i64 (cn A) c=.ok (iI A) c:=λc=>by rw[Awb,lw.2.2 _ om om]
  have r1:0<=x:=by omega
  have r2:x<y:=by omega
  have Y:y<=50:=by omega
  have r4:0<=A:=by omega
  have r5:A<=50:=by omega
  have hc:=R w s;rw[J m w I]at hc;by_cases o:m<p;. rw[Ws o]at hc;have e:=λhd f0=>G (b-(m+1)) om (m+1) b n1 hd f0 om o B V om;rw[show((m+1:Nat):Int)=A+1 by omega,<- E,<- q]at e;replace e:=(show F5 _ from e);clear j I F G t E q l Q d J;rw[Ayt];refine wk ?_;refine Fj (hc _) λW h1 e1 l1 M L=>?_;subst L;refine wk ?_;exact(show ∀(hd:H) (f0:L2),_ from e) _ _ Ex
  .rw[Yc o]at hc;have g:=λhd f0=>G (m-a) om a m n1 hd f0 om C om om om;rw[<- t,<- d,<- q]at g;replace g:=(show F5 _ from g);clear j I F G t E q l Q d J;rw[Ayt];refine wk ?_;refine Fj (hc _) λW h1 e1 l1 M L=>?_;subst L;refine wk ?_;exact(show ∀(hd:H) (f0:L2),_ from g) _ _ Ex
def BxR:∀p,p<35->∀k,k<35->Gn (W35.getD k []) (W35.getD p [])=decide (k<p):=by decide +kernel
def BoA:∀x∈W35,(∀c∈x,97<=c/\c<=122)/\1<=x.length/\x.length<=20:=by decide +kernel
def B50(l:100<N)(c:BhG Z) s h(d:S0 h)(j:s∈W35):Ah h (λr _=>∃i,r=.Bj [iI i,uz]) (mr Z N 138 [.sl 0 0 35 35 1 true,.str s] h):=by
 have⟨p,f,_⟩:=List.mem_iff_getElem.1 j;have gd:∀{k} {w},W35[k]?=some w->k<35/\W35.getD k []=w:=λ{k w} b=>⟨(Wp.1 b).1,by simp_all⟩;have a:W35[p]?=some s:=by simp_all
 rw[BjB];refine Ey d.ws.Gs (Bjo Z N c _ _ s h d.ws fe a (λk w b=>?_) W35.length 0 _ N h _ om (Wy _) (Nat.le_of_lt f) (Ye _) (Ut fe l) (Ai.refl h));have⟨e,_⟩:=gd b;have⟨g,_⟩:=gd a;have:=BxR p g k e;grind
def Bbd(e:BhF Z)(s:uq)(h:H)(k:S0 h)(hc:∀c∈s,97<=c/\c<=122)(y:s.length<=20)(l:s∈W35):
 ∀(u i:Nat) (a:Int) (n:Nat) (f0:L2),i+u=s.length->a=(i:Int)->u<n->Ah h (λr _=>r=ux) (ArU Z N n (.str s) (iI (s.length:Int)) (iI a) f0 h)
 |0,i,a,n,f0,hu,b,hn=>by obtain⟨n1,rfl⟩:∃n1,n=n1+1:=⟨n-1,by omega⟩;have q:decide (a<(s.length:Int))=false:=df;have p:=BlD h;clear hu b;rw[Ayn];refine wk ?_;refine Fj (e s h k l) λC h1 e1 l1 v t=>?_;obtain⟨j,rfl⟩:=t;refine wk ?_;exact zr Ex rfl
 |u+1,i,a,n,f0,hu,b,hn=>by
  obtain⟨n1,rfl⟩:∃n1,n=n1+1:=⟨n-1,by omega⟩;have o:=Bbd e s h k hc y l u (i+1) (a+1) n1;have q:decide (a<(s.length:Int))=true:=dt;obtain⟨c,g⟩:∃c,s[i]?=some c:=⟨_,Oh om⟩;have z:=hc c (Vl g);have p:∀d:H,xIx prog .str (.str s) (iI a) d=.ok (cw (c:Int)) d:=λd=>by rw[b];exact A0l g
  obtain⟨m,f⟩:∃x:Int,x=(c:Int):=⟨_,rfl⟩;rw[<- f]at p;have E:∀w r d,Ad (.Bj []) w r d=.ok (.Bj []) d:=λ_ _ _=>by simp
  have r1:0<=a:=by omega
  have F:a<=2000:=by omega
  have go:=λf0=>o f0 om om om;have z1:=lt8;have B:=gt8;have A:decide (m<97)=false:=df;have G:decide (122<m)=false:=df;clear hu b g f o hc z;rw[Ayn];exact wk ((show ∀f0,_ from go) _)
def B5F(v:2001<N)(i:BhF Z) s h(l:S0 h)(e:s∈W35):Ah h (λr _=>r=.bool (decide (AoC s))) (mr Z N 100 [.str s] h):=by
 have⟨hc,l1,f⟩:=BoA s e;have b:decide (AoC s)=false:=Yc λa=>a.2.2.2 e;have⟨sl,j⟩:∃x:Int,x=s.length:=⟨_,rfl⟩;have u:∀a,lnS (.str s) a=.ok (iI sl) a:=λa=>by simp[*]
 have z1:=lt8;have o:=gt8;have n:decide (sl<1)=false:=df;have k2:decide (20<sl)=false:=df;have⟨c,g⟩:∃c,s[0]?=some c:=⟨_,Oh l1⟩;have m:∀a,xIx _ _ _ (iI 0) a=.ok ..:=λa=>A0l g;have p:=hc c (Vl g);have⟨k,d⟩:∃x:Int,x=c:=⟨_,rfl⟩;rw[<- d]at m;have t:decide (k<97)=false:=df;have q:decide (122<k)=false:=df;have lp:=Bbd Z N i s h l hc f e s.length 0 0 N;have go:=λf0=>lp f0 om rfl om;rw[<- j]at go;rw[b,Bj2];clear j lp b g d hc;exact wk ((show ∀f0,_ from go) _)
variable {D:Nat}
def CbJ Z N s h:Ah h (λr _=>r=ux) (mr Z N 163 [.str s] h):=by rw[A7G];refine wk ?_;exact zr Ex rfl
def BiF:Be1 (CB (D+1)):=λs h=>Gp upB (CbJ _ N0x s h)
def BiQ:BeF (CB (D+1)):=λc e d a f b=>Gp upB (Bly _ _ fe c e d a f b)
def BiG(hd:2<=D):Be2 (CB D):=by obtain⟨e,rfl⟩:∃e,D=e+2:=⟨D-2,by omega⟩;exact λc f d a g b=>Gp upB (Blk _ N0x BiQ c f d a g b)
def BiZ:Bbx (CB (D+1)):=λb a=>Gp upB (Bl7 _ N0x b a)
def BiY:Bbw (CB (D+2)):=λb a c=>Gp upB (Bl6 _ N0x BiF b a c)
def BiU:Bbu (CB (D+3)):=λv ws s h h1 a b=>Gp upB (Bl2 _ _ fe BiY BiZ v ws s h h1 a b)
def B3z:BhG (CB (D+2)):=λb a c=>Gp upB (B52 _ N0x BiF b a c)
def B2r:BhF (CB (D+3)):=λs h h1 a=>Gp upB (B50 _ _ fe B3z s h h1 a)
def BbO:BsX (CB (D+4)):=by
 intro s h h1 b c;by_cases a:s∈W35
 .exact Gp upB (B5F _ _ fe B2r s h h1 a)
 .exact Gp upB (CcJ _ _ fe BiU s h h1 b c a)
def ByE:Bpu (CB (D+1)):=λv h h1 a=>Gp upB (B3y _ N0x v h h1 a)
def B7Y:Bpp (CB (D+2)):=λh a=>Gp upB (B3j _ N0x ByE a)
def B8m:BtG (CB (D+1)):=λw c x h a b=>Gp upB (B3o _ _ fe x a b)
def B7X:Bpo (CB (D+2)):=λw c x h a b=>Gp upB (B3i _ N0x B8m x a b)
def B2n:A4K (CB (D+3)):=λb s w i pre e rest h a d k g c f=>Gp upB (B2Y _ _ fe B7X a d k g c f)
def B8a:Btb (CB (D+2)):=λb s pre rest h k a c=>Gp upB (CcW _ _ fe (Bwp upB om) k a c)
def B2s:BsQ (CB (D+1)):=λs d h c h1 a b=>Gp upB (Ccj _ _ fe c h1 a b)
def B8v:B0T (CB (D+2)):=λs h h1 a b=>Gp upB (Ccu _ N0x B2s h1 a b)
def B8u:B0S (CB (D+1)):=λs h h1 a b=>Gp upB (Cct _ N0x h1 a b)
def B8r:B0R (CB (D+2)):=λa s h c h1 b d=>Gp upB (Ccr _ N0x B8u c h1 b d)
def B8j:B0L (CB (D+3)):=λa s h c h1 b d=>Gp upB (Cck _ N0x B8r c h1 b d)
def B8s:B1k (CB (D+3)):=λs h h1 a b=>Gp upB (Cdi _ _ fe B8v h1 a b)
def B8n:B1g (CB (D+4)):=λs h b h1 a c=>Gp upB (Cde _ N0x B8s B8j b h1 a c)
def B7Z:Bta (CB (D+5)):=λs a h c h1 b d=>Gp upB (CcV _ N0x B8n c h1 b d)
def B7N:Bl9 (CB (D+6)):=λb s pre rest h k e d a c=>Gp upB (CcL _ N0x B2n B7Y (BiG om) B7Z B8a BbO k e d a c)
def B7I:BtB (CB (D+1)):=λb h=>Gp upB (B2C _ N0x b)
def B7M{s:uq}{b c bo l j b2:Nat}(n q p u r i d:AV)(E:bo≠l):B0Z (CB (D+8)) s b c bo l j b2 (FL n (.ptr j 0) (.ptr b2 0) q p u r i d bo) (FL2 n (.ptr j 0) (.ptr b2 0) q p u r i d bo):=by
 intro h k m e gb gl;refine Gp upB (CcK _ _ fe B7N B2n ?_ ?_ (λst L=>by cases L) k m e gb gl)
 .intro h hd w F t m e K a;obtain⟨v,h1,M,A,C,P,⟨w',G,J⟩,q5,B,y⟩:=Bsk (CB (D+6)) N0x (t:=t) K.g E m e K.gb K.gl K.o a;exact⟨v,h1,A1W (Ye _) M,A,C,⟨w',P,G,q5,J⟩,B,y⟩
 .intro hd t f e h1 x gl g1 g2 I;obtain⟨n1,O,Q,n4,z⟩:=k.n1;exact Bj9 (BnM (CB (D+6)) N0x I ⟨z,O,n4⟩ h1 x e g1 g2 gl)
def B7D{s:uq}(e:∀c∈s,c<256):B0W (CB (D+9)) s (AsA s=none) (λl=>∃xs,AsA s=some xs/\Tk2 l xs):=λh o g=>Gp upB (Ccz _ N0x B4Q B7I (λb c bo l p b2 f m i k n d a j=>B7M f m i k n d a j) o g e)
def B8q:Btd (CB (D+1)):=λb c h h1 a=>Gp upB (Cdh _ N0x h1 a)
def B8i:Btc (CB (D+2)):=by unfold Btc;intros;refine Gp upB (Cdd _ _ fe B8q ?_ ?_ ?_)<;>assumption
def B8h:B1f (CB (D+1)):=λv h=>Gp upB (Cdc _ _ fe v)
def B8g:B1e (CB (D+1)):=λh=>Gp upB (Cdb _ _ fe)
def B7T:B1c (CB (D+3)):=λs h h1 a b=>Gp upB (CcU _ N0x B8g B8i B8h h1 a b)
def Btt:Bl8 (CB (D+4)):=λn h hn=>Gp upB (CcI _ N0x B7T hn)
def B7O:B1a (CB (D+5)):=λn h hn=>Gp upB (CcS _ N0x Btt hn)
def B8p:B1j (CB (D+1)):=λs h h1 a=>Gp upB (Cdg _ N0x h1 a)
def B8f:B1d (CB (D+2)):=λs h h1 a=>Gp upB (Cda _ N0x B8p h1 a)
def B7S:B1b (CB (D+3)):=λs h h1 a=>Gp upB (CcT _ N0x B8f h1 a)
def c196:BsW (CB (D+5)):=λn h hn=>Gp upB (CcH _ N0x B7S Btt hn)
def BlI:BcD (CB (D+1)):=λv ls h k h1 a=>Gp upB (CbX _ _ fe k h1 a)
def B7U:BsP (CB (D+2)):=λs h h1 a b=>Gp upB (CbW _ N0x B2s h1 a b)
def c198:Bl0 (CB (D+3)):=λn h hn=>Gp upB (CbL _ _ fe B7U BlI hn)
def Bt0:Bh2 (CB (D+1)):=λv ls h k=>Gp upB (CbN _ N0x k)
def B7V:B0E (CB (D+1)):=λv ls h k=>Gp upB (CbZ _ N0x k)
def BlL d:BfM (CB (d+1)) (CB d):=λls v c l b a h h1 e i f g=>Gp upB (Ccn _ _ (by grind) _ v c l _ _ h h1 e i f g)
def BlJ:BfL (CB (D+1)):=λv ls h k=>Gp upB (Cca _ N0x k)
def B7K:B0A (CB (D+1)):=λa h=>Gp upB (CbI _ N0x a)
def B7F:B07 (CB (D+2)):=λa b h=>Gp upB (CbF _ N0x B7K a b)
def B8l:B0M (CB (D+1)):=λa h=>Gp upB (Cco _ N0x a)
def B7W:B0F (CB (D+2)):=λa b h=>Gp upB (Cce _ N0x B8l a b)
def B2u:BsR (CB (D+1)):=λn h hn=>Gp upB (Ccm _ _ fe hn)
def d279 d:BhJ (CB (d+1)):=by intro v ls l h L F K I g E z m w G J M P O e r x i k Q B a2 p t q A f c u j C b y n o a;exact Bj9 (BxL _ _ B a2 p t q A f c u j C b y n o a)
def B2t:Bl4 (CB (D+3)):=λv ls d h k h1 a c b=>Gp upB (Ccl (CB (D+2)) (CB (D+1)) N0x BlJ (BlL _) (d279 _) BlI k h1 a c b)
def d206(d:Nat):BhH (CB (d+3)):=by intro v B ls G l h F t A r w E c o f k u I C x y i q a2 g m j p b a n e;exact Bj9 (BxI (CB (d+2)) N0x (z:=k) B7W q a2 g m j p b a n e)
def B1C:Bl3 (CB (D+5)):=by unfold Bl3;intros;refine Gp upB (CbS (CB (D+4)) (CB (D+3)) N0x B7F BlJ (BlL _) (d206 _) ?_ ?_ ?_)<;>assumption
def B8k:Bp4 (CB (D+1)):=λq b h g1 g2 n l1 a=>Gp upB (B51 _ _ fe g1 g2 n l1 a)
def B7L:Bpy (CB (D+2)):=λv a h k k2=>Gp upB (B5y _ _ fe BlI k k2)
def d246(d:Nat):BcF (CB (d+2)):=by intro M L G F y k z t b A w j e c p B u i I K C J O q P E l f0 h x a2 m o n v f a r g;exact Bj9 (BxJ (CB (d+1)) N0x B8k x a2 m o n v f a r g)
def B2q:Bh5 (CB (D+7)):=λv c n d h k k2 h1 a b=>Gp upB (CbY (CB (D+6)) N0x B1C B2t B2u (B5z (CB (D+6)) (CB (D+5)) N0x fe B1C B7L BlJ (BlL _) (d246 _) BlI B2t) k k2 h1 a b)
def B1B:Bl1 (CB (D+8)):=λv b n d h k k2 h1 a=>Gp upB (CbM _ _ fe B2q k k2 h1 a)
def B8t:BsS (CB (D+3)):=by unfold BsS;intros;refine Gp upB (Ccs _ N0x (B2g upB om) (B2h upB om) (B2i upB om) ?_ ?_)<;>assumption
def BvB:Bl5 (CB (D+4)):=λv h a b=>Gp upB (Ccp _ N0x B8t a b)
def B8c:B0H (CB (D+5)):=λv n h k hn a=>Gp upB (Ccg _ N0x BvB k hn a)
def B10:Bpl (CB (D+1)):=λb s h k=>Gp upB (B2W _ N0x k)
def B7G:Bpg (CB (D+2)):=λb c s h k a=>Gp upB (B26 _ N0x B10 k a)
def Btr:Bm5 (CB (D+2)):=λb s t h k a c=>Gp upB (B27 _ N0x B10 k a c)
def B1y:Bph (CB (D+1)):=λb s h k h1 a c=>Gp upB (B28 _ N0x k h1 a c)
def d263(d:Nat):BhI (CB (d+5)):=by intro G I B C F e A v f t i u k m r p g z j E b l x s h y a2 n q o w c a;exact Bj9 (BxK (CB (d+4)) N0x BvB Btr y a2 n q o w c a)
def B8d:B0I (CB (D+7)):=λv n h k hn a=>Gp upB (Cch (CB (D+6)) (CB (D+5)) N0x BvB Btr B1y BlJ (BlL _) (d263 _) k hn a)
def B8b:B0G (CB (D+2)):=λh=>Gp upB (Ccf _ N0x B2u)
def B7P:B0B (CB (D+9)):=λv c n d h k k2 h1 a b=>Gp upB (CbT _ N0x B7V B8b Bt0 B1B B2q k k2 h1 a b)
def B7Q:B0C (CB (D+8)):=λx y n d h k k2 h1 a b=>Gp upB (CbU _ N0x B8c B8d Bt0 k k2 h1 a b)
def B7J:Bm6 (CB (D+10)):=λn d h h1 b c a=>Gp upB (CbH _ N0x c196 B7O c198 B7P B7Q h1 b c a)
def B8o:B0Q (CB (D+1)):=λs h=>Gp upB (Ccq _ N0x)
def B8e:B0J (CB (D+2)):=λs h=>Gp upB (Cci _ N0x B8o)
def B7R:B0D (CB (D+3)):=λs a b f h h1 c=>Gp upB (CbV _ N0x B8e h1 c)
def B1z:BsO (CB (D+4)):=λs a b f h h1 c=>Gp upB (CbK _ N0x B7R h1 c)
def B7H:B09 (CB (D+9)):=λn d h h1 a c b=>Gp upB (CbG _ N0x B1z c196 Btt c198 B1B Bt0 h1 a c b)
def c92:R92 (CB (D+10)):=λn d h h1 a c b=>Gp upB (r92 _ N0x B7H h1 a c b)
def B1x:B08 (CB (D+11)):=λn d h h1 a c b=>Gp upB (B5w _ N0x c92 B1z h1 a c b)
end Go.Proofs
