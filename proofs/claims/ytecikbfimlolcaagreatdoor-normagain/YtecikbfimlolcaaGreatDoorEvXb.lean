/- NormAgain run, with NormKnown looked up. -/
import Derived.Test.YtecikbfimlolcaaGreatDoorEvXa
import Derived.Test.YtecikbfimlolcaaGreatDoorEvNg
set_option linter.all false
set_option maxRecDepth 100000
noncomputable section
namespace Go.Proofs
open Go Go.Ev Go.Nm Tryz Go.Ev.Sx
variable {o:FuncId}{p:Bool}{I:H}
abbrev CB(d:Nat):Ac:=cD PP T29 d
def tN(q:T29 o=λ_=>none:=by simp[T1,T2,T3,T4,T5,T6,T7,T8,T9,Iq,Ir,Is,I2,I8,Jy,J2,Ol,Ot,O1,Rk,Sa,U4,T23,T24,T25,T26,T27,T28,T29,Bb]):T29 o=λ_=>none:=q
def tS{S:List AV->Option AV}(q:T29 o=S:=by simp[T1,T2,T3,T4,T5,T6,T7,T8,T9,Iq,Ir,Is,I2,I8,Jy,J2,Ol,Ot,O1,Rk,Sa,U4,T23,T24,T25,T26,T27,T28,T29,Bb]):T29 o=S:=q
def bG{args:List AV}{h0:H}{Q:AV->H->Prop}{d:Nat}(b:T29 o=λ_=>none)(hc:Ah h0 Q (Ay PP (CB d) 1048576 p o args I)):Ah h0 Q ((CB (d+1)).call o args I):=by rw[cdN b];obtain⟨v,h1,h2,a⟩:=hc;exact⟨v,h1,Jn (Yw _) h2,a⟩
def bT{args:List AV}{tk:Nat}{a:AV}{Q:AV->H->Prop}{d:Nat}(c:T29 o=λ_=>none)(hc:D6 tk a I Q (Ay PP (CB d) 1048576 p o args I)):D6 tk a I Q ((CB (d+1)).call o args I):=by obtain⟨m,e,b⟩:=hc;exact⟨m,e,bG c b⟩
def pr{d k:Nat}(h:k+1<=d):∃e,d=e+1/\k<=e:=⟨d-1,by omega,by omega⟩
def c78(d:Nat)(hd:1<=d):R78 (CB d):=by obtain⟨e,rfl,a⟩:=pr hd;exact λn k h h1 h2=>bG tN (r78 _ _ n k h h1 h2)
def c38(d:Nat)(hd:2<=d):R38 (CB d):=by obtain⟨e,rfl,b⟩:=pr hd;exact λtk a L k h h1 h2 f g c=>bT tN (r38 _ _ (c78 e b) tk a L k h h1 h2 f g c)
def c82(d:Nat)(hd:1<=d):R82 (CB d):=by obtain⟨e,rfl,a⟩:=pr hd;exact λk h=>bG tN (r82 _ _ k h)
def A1Z(d:Nat)(hd:1<=d):Axa (CB d):=by obtain⟨e,rfl,a⟩:=pr hd;exact λl v h h1 h2=>bG tN (A9Y _ _ l v h h1 h2)
def c81(d:Nat)(hd:3<=d):R81 (CB d):=by obtain⟨e,rfl,a⟩:=pr hd;exact λtk b L nm h h1=>bT tN (r81 _ _ (c38 e a) (c82 e om) (A1Z e om) tk b L nm h h1)
def c83(d:Nat)(hd:2<=d):R83 (CB d):=by obtain⟨e,rfl,c⟩:=pr hd;exact λnm a b w ws h h1 h2=>bG tN (r83 _ _ (A1Z e c) nm a b w ws h h1 h2)
def c43(d:Nat)(hd:4<=d):R43 (CB d):=by obtain⟨e,rfl,a⟩:=pr hd;exact λtk b L h h1=>bT tN (r43 _ _ (c38 e om) (c81 e a) (c82 e om) (c83 e om) fe tk b L h h1)
def c15(d:Nat)(hd:5<=d):R15 (CB d):=by obtain⟨e,rfl,a⟩:=pr hd;exact λb L h h1 h2=>bG tN (r15 _ _ (c43 e a) b L h h1 h2)
def c79(d:Nat)(hd:1<=d):R79 (CB d):=by obtain⟨e,rfl,c⟩:=pr hd;exact λtk A1 cv i h h1 h2 a b=>bG tN (r79 _ _ fe tk A1 cv i h h1 h2 a b)
def c40(d:Nat)(hd:1<=d):R40 (CB d):=by obtain⟨e,rfl,b⟩:=pr hd;exact λtk a sv t o h h1 h2=>bG tN (r40 _ _ fe tk a sv t o h h1 h2)
def c80:∀(k:Nat),k<=3->∀d,k+3<=d->R80 (CB d) k/\R41 (CB d) k
|0,_,d,hd=>by
 obtain⟨e,rfl,g⟩:=pr (show 2+1<=d by omega)
 exact⟨λtk a L cv A1 m h h1 h2 c f b=>bT tN (r80 _ _ (c38 e g) 0 om (λe h=>by omega) tk a L cv A1 m h h1 h2 c f b),λtk a L cv A1 m h h1 h2 c f b=>bT tN (r41 _ _ (c38 e g) (c79 e om) 0 om (λe h=>by omega) tk a L cv A1 m h h1 h2 c f b)⟩
|k+1,j,d,hd=>by
 obtain⟨e,rfl,g⟩:=pr (show 2+1<=d by omega)
 have i:∀x,k+1=x+1->R80 (CB e) x/\R41 (CB e) x:=λx l=>by
  obtain rfl:k=x:=by omega
  exact c80 k om e om
 exact⟨λtk a L cv A1 m h h1 h2 c f b=>bT tN (r80 _ _ (c38 e g) (k+1) j i tk a L cv A1 m h h1 h2 c f b),λtk a L cv A1 m h h1 h2 c f b=>bT tN (r41 _ _ (c38 e g) (c79 e om) (k+1) j i tk a L cv A1 m h h1 h2 c f b)⟩
def c39(d:Nat)(hd:3<=d):R39 (CB d):=by obtain⟨e,rfl,i⟩:=pr hd;exact λtk c L f h q j g k a b h1 h2=>bG tN (r39 _ _ (c38 e i) fe tk c L f h q j g k a b h1 h2)
def c42(d:Nat)(hd:7<=d):R42 (CB d):=by obtain⟨e,rfl,g⟩:=pr hd;exact λtk a L b h cv A1 q f h1 h2 c=>bG tN (r42 _ _ (c38 e om) (c79 e om) (c80 3 om e om).1 fe tk a L b h cv A1 q f h1 h2 c)
def c14(d:Nat)(hd:8<=d):R14 (CB d):=by obtain⟨e,rfl,b⟩:=pr hd;exact λa sv L c h h1 h2 f g=>bG tN (r14 _ _ (c38 e om) (c39 e om) (c40 e om) (c80 3 om e om).2 (c42 e b) a sv L c h h1 h2 f g)
def c26(d:Nat)(hd:1<=d):R26 (CB d):=by obtain⟨e,rfl,a⟩:=pr hd;exact λl v h h1 h2=>bG tN (r26 _ _ l v h h1 h2)
def c27(d:Nat)(hd:1<=d):R27 (CB d):=by obtain⟨e,rfl,a⟩:=pr hd;exact λl v h h1 h2=>bG tN (r27 _ _ l v h h1 h2)
def BiF(d:Nat)(hd:1<=d):Be1 (CB d):=by obtain⟨e,rfl,c⟩:=pr hd;intro s h;rw[Xi (S:=A15) tS (Cd (a:=s) (by intro a b h;simpa using h) (dom:=λ_=>True) trivial) h];exact Lo (Ai.refl h) rfl
def BiQ(d:Nat)(hd:1<=d):BeF (CB d):=by obtain⟨e,rfl,i⟩:=pr hd;exact λa h c g f b=>bG tN (Bly _ _ fe a h c g f b)
def BiG(d:Nat)(hd:2<=d):Be2 (CB d):=by obtain⟨e,rfl,i⟩:=pr hd;exact λa h c g f b=>bG tN (Blk _ _ (BiQ e om) a h c g f b)
def BiZ(d:Nat)(hd:1<=d):Bbx (CB d):=by obtain⟨e,rfl,c⟩:=pr hd;exact λa b=>bG tN (Bl7 _ _  a b)
def BiY(d:Nat)(hd:2<=d):Bbw (CB d):=by obtain⟨e,rfl,f⟩:=pr hd;exact λa c b=>bG tN (Bl6 _ _ (BiF e om) a c b)
def BiU(d:Nat)(hd:3<=d):Bbu (CB d):=by obtain⟨e,rfl,j⟩:=pr hd;exact λa i c h f b g=>bG tN (Bl2 _ _ fe (BiY e om) (BiZ e om) a i c h f b g)
def BbO(d:Nat)(hd:4<=d):A7Y (CB d):=by obtain⟨e,rfl,g⟩:=pr hd;exact λa f b c=>bG tN (Blt _ _ fe (BiU e om) a f b c)
def Ww:∀t:Tr,Kq t->Wf t
|.leaf x,h=>trivial
|.one o a,h=>Ww a h.2
|.two o a b,h=>⟨by have:=h.1;omega,Ww a h.2.1,Ww b h.2.2⟩
|.three c a b,h=>⟨Ww c h.1,Ww a h.2.1,Ww b h.2.2⟩
def k29(d:Nat):N29 (CB (d+1)):=λt h b c=>Xi (S:=S29) tS (Cd Nc (a:=t) (dom:=λt=>Wf t/\size t<=1000) ⟨Ww t b,by omega⟩) h
def k31(d:Nat):N31 (CB (d+1)):=λh=>N7 (T:=T29) tS true h
def k30(d:Nat):N30 (CB (d+1)):=λa b h e c=>J3 (T:=T29) tS a b h e c
def k64(d:Nat):H64 (CB (d+1)):=λt h=>Xi (S:=S64) tS (Cd Nc (a:=t) (dom:=λ_=>True) trivial) h
def A9z(d:Nat):Bfg (CB (d+1)):=λh v ts h1 h2 a=>bG tN (Bjs _ _ h1 h2 a)
def A9x(d:Nat):Bff (CB (d+2)):=λe r ops bs w h h1 h2 a c b=>bG tN (Bjr _ _ fe (k64 d) (A9z d) h1 h2 a c b)
def k63(d:Nat):P63 (CB (d+3)):=λb st c x h h1 h2 a=>bG tN (b63 _ _ (A9x d) h1 h2 a)
def Aru[Ii]{n:Nat}{Q:AV->H->Prop}{r:OR}(b:Cb n I Q r):Ah I Q r:=by obtain⟨v,h',h1,h2,a⟩:=b;exact⟨v,h',h1,⟨h2.lo,h2.Cf,h2.lg⟩,a⟩
def kNd(d:Nat)(hd:2000<=d):NNd (CB d):=by
 intro t h A;let i:Ii:=⟨h.nx+100000⟩
 have u:Bq=h.nx+100000:=rfl;have p:=AjR (T:=T29) tS tS tS tS tS t d om h (by rw[u];omega) om;obtain⟨v,h',h1,h2,q,l⟩:=Aru p;refine⟨v,h',h1,h2,?_,?_,l⟩
 .rcases q.at' with⟨q0,a,f⟩|⟨b,off,cap,ex,cs,e,k,a,f,j,g,q5,r,o⟩
  .exact .inl ⟨q0,a,f⟩
  .refine .inr ⟨b,off,cap,ex,cs,a,f,⟨q5,e,k,j,?_⟩,r,o⟩;cases k with
   |exact=>trivial
   |Gt c=>trivial
   |fz c=>trivial
   |Cf c st=>cases g
 .intro b off len cap z ex m h0;rcases l with q0|⟨w,y,B,n,cs,k,a,f,j,g,_⟩
  .have x:=size_pos t;rw[Ao]at q0;omega
  .rw[a]at m;cases m;exact g
def c33(d:Nat)(hd:1<=d):R33 (CB d):=by obtain⟨e,rfl,c⟩:=pr hd;exact λl m v w h h1 h2 a b=>bG tN (r33 _ _ fe l m v w h h1 h2 a b)
def c36(d:Nat)(hd:1<=d):R36 (CB d):=by obtain⟨e,rfl,c⟩:=pr hd;exact λl m v w h h1 h2 a b=>bG tN (r36 _ _ fe l m v w h h1 h2 a b)
def W0(d:Nat)(hd:2<=d):R12 (CB d):=by obtain⟨e,rfl,a⟩:=pr hd;exact λq k c l b j f h h1 h2 i m g=>bG tN (r12 _ _ (c33 e a) (c36 e a) q k c l b j f h h1 h2 i m g)
def ByE(d:Nat)(hd:1<=d):Bpu (CB d):=by obtain⟨e,rfl,a⟩:=pr hd;exact λv h h1 h2=>bG tN (B3y _ _ v h h1 h2)
def By9(d:Nat):Bpi (CB (d+1)):=by intro h;rw[Xi (S:=BtU) tS (Cd (a:=()) (by intro a b _;rfl) (dom:=λ_=>True) trivial) h];exact Lo (Ai.refl h) rfl
def By8(d:Nat){s:List Nat}{xf:List L3}(c:s∈Sw)(e:Baa (A5Y s) (A1D s) xf):Bm4 (CB (d+1)) s xf:=by intro h;rw[Xi (S:=BtT) tS (Cd (a:=s) (by intro a b h;simpa using h) (dom:=λs=>s∈Sw) c) h];exact Lo (Ai.refl h) ⟨_,_,rfl,e⟩
def kop(d:Nat):HOp (CB (d+1)):=De (T:=T29) tS tS tS tS
attribute [local irreducible] Aa Al Af Ad
def Azr(Z:Ac)(n:Nat)(c:Bool)(v:AV)(h:H)(a:∀hh,Fo v hh=.ok (iI 0) hh):Ah h (λr _=>r=.Bj [.B3,.bool false]) (Ay prog Z (n+1) true 28 [v,.bool c] h):=by rw[q28];refine wk ?_;rw[Ayr];refine wk ?_;exact zr Ex rfl
def k28(d:Nat)(hd:4<=d):N28 (CB d):=by
 obtain⟨e,rfl⟩:∃e,d=e+3+1:=⟨d-4,by omega⟩;intro c l v h lo i g j;rcases i with rfl|⟨t,f⟩
 .have a:∀b,Fo v b=.ok (iI 0) b:=λ_=>g.sl.Gs;rw[show Je [] c=none from rfl]
  exact bG tN (Azr _ _ c v h a)
 .rw[f];exact bG tN (b28 _ _ (k63 e) (k64 (e+2)) fe g.sl j f)
def c10(d:Nat)(hd:2001<=d):R10 (CB d):=by
 obtain⟨e,rfl,k⟩:=pr hd;obtain⟨f,a⟩:∃f,e=f+1:=⟨e-1,by omega⟩;have a1:N29 (CB e):=by rw[a];exact k29 f
 have a2:N30 (CB e):=by rw[a];exact k30 f
 have i:N31 (CB e):=by rw[a];exact k31 f
 exact λq p j r h h1 h2 o u n g=>bG tN (r10 _ _ (c26 e om) (c27 e om) (k28 e om) a1 a2 i (kNd e k) (λl c t b=>⟨(Ui b).1,(Ui b).2.1⟩) (λt m=>(Hi t m).2) q p j r h h1 h2 o u n g)
variable {C:Nat->Ac}{D:Nat}{Ab2:Dom}{Q:Qr}{xe xw xf:List L3}{s:List Nat}
structure Aes(C:Nat->Ac):Prop where
 up:Abu C
 Bby:∀d,Be2 (C d)
 BvN:∀d,A7Y (C d)
 k96:∀d,Bpu (C d)
 BvL:∀d,Bpi (C d)
 BvK:∀d {s:List Nat} {xf:List L3},s∈Sw->Baa (A5Y s) (A1D s) xf->Bm4 (C d) s xf
 BvM:∀d,Bm6 (C d)
 k28:∀d,N28 (C d)
 kop:∀d,HOp (C d)
 k64:∀d,H64 (C d)
 k10:∀d,R10 (C d)
 rnd:∀d (bo l:Nat) (x0 x1 x2 x3 x4 x8 x9 x10 x12:AV),bo≠l->Bhe (C (d+1)) bo l (FL x0 x1 x2 x3 x4 x8 x9 x10 x12 bo)
def B2e(B:Aes C)(hd:1<=D):BtG (C D):=by obtain⟨e,rfl,c⟩:=prL hd;exact λw d x h b a=>Gp B.up (B3o _ _ fe x b a)
def B1Z(B:Aes C)(hd:2<=D):Bpo (C D):=by obtain⟨e,rfl,a⟩:=prL hd;exact λw d x h c b=>Gp B.up (B3i _ N0x (B2e B a) x c b)
def Bws(B:Aes C)(hd:3<=D):A4K (C D):=by obtain⟨e,rfl,d⟩:=prL hd;exact λb s w j pre mid rest h a i k g f c=>Gp B.up (B2Y _ _ fe (B1Z B d) a i k g f c)
def B2a(B:Aes C)(hd:1<=D):Bpp (C D):=by obtain⟨e,rfl,b⟩:=prL hd;exact λh a=>Gp B.up (B3j _ N0x (B.k96 e) a)
def B2c(B:Aes C)(hd:2<=D):Bpr (C D):=by obtain⟨e,rfl,c⟩:=prL hd;exact λb s pre sg rest h k a h1 h2=>Gp B.up (B3l _ _ fe (Bwp B.up c) k a h1 h2)
def B2j(B:Aes C)(hd:1<=D):BtL (C D):=by obtain⟨e,rfl,a⟩:=prL hd;exact λn h hn=>Gp B.up (B3u _ _ fe hn)
def B2f(B:Aes C)(hd:2<=D):BtH (C D):=by obtain⟨e,rfl,a⟩:=prL hd;exact λn h hn=>Gp B.up (B3p _ N0x (B2j B a) hn)
def B2b(B:Aes C)(hd:3<=D):Bpq (C D):=by obtain⟨e,rfl,b⟩:=prL hd;exact λn a h hn=>Gp B.up (B3k _ N0x (B2f B b) hn)
def B1U(B:Aes C)(hd:4<=D):Bm8 (C D):=by obtain⟨e,rfl,a⟩:=prL hd;exact λb s pre rest x h k d c f g=>Gp B.up (B2Z _ N0x (Bws B a) (B2a B om) (B.Bby e) (B2b B a) (B2c B om) (B.BvN e) k d c f g)
def B1R(B:Aes C)(hd:1<=D):BtB (C D):=by obtain⟨e,rfl,a⟩:=prL hd;exact λb h=>Gp B.up (B2C _ N0x b)
def B1T(B:Aes C)(hd:6<=D){xs:List L3}(w:s=jn none xs)(t:∀y∈xs,Ah9 y)(d:xs.length<=2000){b c bo l:Nat}(i g p m o j n a f:AV)(u:bo≠l):BtC (C D) s xs b c bo l (FL i g p m o j n a f bo):=by obtain⟨e,rfl,x⟩:∃e,D=e+2/\4<=e:=⟨D-2,by omega,by omega⟩;exact λh k q v gb gl=>Gp B.up (B2X _ _ fe (B1U B om) (Bws B om) (B.rnd e bo l i g p m o j n a f u) (λst r=>by cases r) w t d k q v gb gl)
def B1E(B:Aes C)(hd:7<=D){xs:List L3}(u:s=jn none xs)(q:∀y∈xs,Ah9 y)(a:xs.length<=2000)(w:s.length<=2000)(d:∀c∈s,c<256):Bt4 (C D) s xs:=by obtain⟨e,rfl,n⟩:=prL hd;exact λh o=>Gp B.up (B2v _ N0x (B.BvL e) (B1R B om) (λb c bo l i j v k t m p f g r=>B1T B n u q a i j v k t m p f g r) o w d)
def B1F(B:Aes C)(hd:1<=D):Bt5 (C D):=by obtain⟨e,rfl,c⟩:=prL hd;exact λa b h=>Gp B.up (B2w _ N0x a b)
def B1G(B:Aes C)(hd:1<=D):Bt6 (C D):=by obtain⟨e,rfl,a⟩:=prL hd;exact λh=>Gp B.up (B2y _ N0x)
def B1S(B:Aes C)(hd:6<=D):Bpj (C D):=by obtain⟨e,rfl,a⟩:=prL hd;exact λn h hn b=>Gp B.up (B2Q _ N0x (Bwo B.up a) hn b)
def TxQ.Wz(K:TxQ Ab2 Q xe xw xf):Q.Wz=true->Q.c0=3:=λh=>by
 obtain⟨A1,q0,kv,_⟩:=K.kv;by_cases a:Q.c0=3
 .exact a
 .rw[kv.con a]at h;cases h
def TxQ.jok(K:TxQ Ab2 Q xe xw xf):JOk Q:=by
 rcases K.join with⟨h1,h2⟩|⟨h1,h2,a,c,b⟩
 .exact⟨λ_=>h2,λh=>absurd h1 h⟩
 .exact⟨λh=>absurd (h ▸ h1) fe,λ_=>by omega⟩
def B1I(B:Aes C)(hd:7<=D)(K:TxQ Ab2 Q xe xw xf):Bt7 (C D) Q xf:=by obtain⟨e,rfl,f⟩:=prL hd;exact λb v l n e' i m k o h g a p h1 h2 c j=>Gp B.up (B21 _ N0x (B1S B f) (B.BvM e) (A8A B.up om) (Bwm B.up om) (A8D B.up om) (BdX B.up om) (Bnv B.up om) (Bnx B.up om) K.fac.2.1 g a p h1 (λd=>h2 ▸ K.Wz d) (by have:=K.bits;omega) c j)
def TxQ.BnS(K:TxQ Ab2 Q xe xw xf)(h:Q.code≠[]):∃t,E7 Ab2 false t/\wt t<=Sd 3/\Q.code=t.nodes/\xe=wr t:=by
 rcases K.code with⟨h1,_⟩|h1
 .exact absurd h1 h
 .exact h1
def B2p(B:Aes C)(hd:8003<=D)(K:TxQ Ab2 Q xe xw xf):Bpv (C D) Q xe:=by obtain⟨A1,q0,kv,_⟩:=K.kv;exact λb v l n e d c f h p a=>Bb7 B.up hd kv K.kind K.sml.2.2.2.2.2.1 K.BnS p a
def Bwh(B:Aes C)(hd:8002<=D)(K:TxQ Ab2 Q xe xw xf):Bpd (C D) Q.E9 xw:=
 B1H B.up hd λE a=>by
  rcases K.E9 with⟨h1,rfl⟩|⟨t,h1,h2,b,rfl⟩
  .rw[h1];exact .no
  .rw[b];exact Bu3 B.up h1 h2 a
def p62(B:Aes C)(hd:8004<=D)(K:TxQ Ab2 Q xe xw xf):R62 (C D) Q (txt Q xe xw xf):=by obtain⟨e,rfl,a⟩:=prL hd;obtain⟨h1,h2,f,g⟩:=K.text;have d:=K.all.1;exact λh b c=>Gp B.up (r62 _ N0x (B1E B om rfl d om om h2) (B1F B om) (A5X B.up om) (B1G B om) (B2p B a K) (Bwh B om K) (B1I B om K) K.kind K.jok om b c)
def BjI(B:Aes C)(hd:3<=D):AkX (C D):=BbA B.up (λd _=>B.Bby d) hd
def BjJ(B:Aes C)(hd:6<=D):AsL (C D):=Bwj B.up (λd _=>B.Bby d) hd
def B1J(B:Aes C)(hd:500<=D):Bpe (C D):=by obtain⟨e,rfl,j⟩:=prL hd;exact λw ts Q l i m t h k f c hq b g h1 h2 s2 s3 a=>Gp B.up (B23 _ N0x (BjI B om) (BjJ B om) (B.k28 e) (AoZ B.up (λd _=>B.Bby d) (λd _=>B.kop d) (λd _=>B.k64 d) h1 e om) k f c hq b g s2 s3 a)
def tyw(K:DOk Ab2){t:Tr}(h1:E7 Ab2 p t)(h2:wt t<=Sd 3):AwU t/\size t<=200:=⟨AjP h1 (Aor K h1),by have:=(BkA h2).1;omega⟩
def TxQ.B11(K:TxQ Ab2 Q xe xw xf)(Z:Ac):Bt3 Z Q xe:=by obtain⟨A1,q0,kv,_⟩:=K.kv;obtain⟨s2,s3,g,d,e,so,h,a⟩:=K.sml;refine⟨K.kind,λf=>?_,λh1 h2 b=>Gw _ (K.nm6 h1 h2 b),λ_=>⟨d,e⟩,g,λ_=>⟨so,K.ord,h,a⟩⟩;obtain⟨t,h1,h2,c,i⟩:=K.BnS (kv.AyG f).1;obtain⟨b,j⟩:=Alf h1 h2;exact⟨t,⟨by rw[c];exact b,by rw[c];omega,tyw K.dom h1 h2,s2,s3⟩,i⟩
def p74(B:Aes C)(hd:501<=D)(K:TxQ Ab2 Q xe xw xf):R74 (C D) Q xe:=by obtain⟨e,rfl,c⟩:=prL hd;exact λw ts g f i h k d b hq a=>Gp B.up (r74 _ _ (BjI B om) (B1J B c) (BjJ B om) fe (K.B11 _) k d b hq a)
def TxQ.B4f(K:TxQ Ab2 Q xe xw xf)(B:Aes C)(hd:500<=D):Bm9 (C D) Q xw xf:=by
 refine⟨?_,B.BvK D K.fac.1 K.fac.2.2.1,AoK (by have:=K.bits;omega) (by have:=K.bits;omega),aw _ K.tbl,AoK K.By.1 (by have:=K.By;omega),λe=>?_⟩
 .rcases K.E9 with⟨h1,h2⟩|⟨t,h1,h2,a,b⟩
  .exact .inl ⟨h1,h2⟩
  .obtain⟨c,g⟩:=Alf h1 h2;obtain⟨f,h⟩:=tyw K.dom h1 h2;exact .inr ⟨t,by rw[a];exact c,by rw[a];exact Tf t,by rw[a];omega,AoZ B.up (λd _=>B.Bby d) (λd _=>B.kop d) (λd _=>B.k64 d) f D om,b⟩
 .rcases K.join with⟨h1,_⟩|⟨h1,h2,a,b,c⟩
  .exact absurd h1 e
  .exact⟨aw _ h1,Gw _ h2,Gw _ a,AoK om om⟩
def p75(B:Aes C)(hd:501<=D)(K:TxQ Ab2 Q xe xw xf):R75 (C D) Q xw xf:=by obtain⟨e,rfl,c⟩:=prL hd;exact λw ts g f i h k d b hq a=>Gp B.up (r75 _ N0x (BjI B om) (BjJ B om) (B.k28 e) (K.B4f B c) k d b hq a)
def Bwr(B:Aes C)(hd:1<=D):Bpl (C D):=by obtain⟨e,rfl,a⟩:=prL hd;exact λb s h k=>Gp B.up (B2W _ N0x k)
def B1L(B:Aes C)(hd:2<=D):Bpg (C D):=by obtain⟨e,rfl,a⟩:=prL hd;exact λb c s h k d=>Gp B.up (B26 _ N0x (Bwr B a) k d)
def B1M(B:Aes C)(hd:2<=D):Bm5 (C D):=by obtain⟨e,rfl,c⟩:=prL hd;exact λb s t h k d a=>Gp B.up (B27 _ N0x (Bwr B c) k d a)
def B1N(B:Aes C)(hd:1<=D):Bph (C D):=by obtain⟨e,rfl,c⟩:=prL hd;exact λb s h k h1 h2 a=>Gp B.up (B28 _ N0x k h1 h2 a)
def B1K(B:Aes C)(hd:1<=D):Bpf (C D):=by obtain⟨e,rfl,c⟩:=prL hd;exact λt l v h a b=>Gp B.up (B25 _ N0x (B.Bby e) a b)
def p76(B:Aes C)(hd:3<=D)(K:TxQ Ab2 Q xe xw xf):R76 (C D) (qlx Q xe xw xf):=by obtain⟨e,rfl,a⟩:=prL hd;obtain⟨h1,h2,b,d⟩:=K.text;exact λv h c=>Gp B.up (r76 _ _ fe (B1K B om) (B1L B a) (B1M B a) (B1N B om) (Vr h1 fe) h2 b om c)
def B1O(B:Aes C)(hd:1<=D):Bt8 (C D):=by obtain⟨e,rfl,d⟩:=prL hd;exact λv w l h a c b=>Gp B.up (B29 _ _ fe a c b)
def B1P(B:Aes C)(hd:1<=D):Bt9 (C D):=by obtain⟨e,rfl,d⟩:=prL hd;exact λv w l h a c b=>Gp B.up (B2A _ _ fe a c b)
def B1Q(B:Aes C)(hd:1<=D):BtA (C D):=by obtain⟨e,rfl,b⟩:=prL hd;exact λQ c a d h=>Gp B.up (B2B _ N0x)
def p77(B:Aes C)(hd:2<=D):R77 (C D):=by obtain⟨e,rfl,a⟩:=prL hd;exact λQ j g l we k i h b d l1 f c=>Gp B.up (r77 _ N0x (B1O B a) (B1P B a) (B1Q B a) b d l1 f c)
def p37(B:Aes C)(hd:8005<=D)(K:TxQ Ab2 Q xe xw xf)(f:Q.code.length<=3000/\Q.ord.length<=3000/\Q.E9.length<=3000):R37 (C D) Q (txt Q xe xw xf):=by obtain⟨e,rfl,a⟩:=prL hd;exact λi g j lo h d b c=>Gp B.up (r37 _ N0x (p74 B om K) (p75 B om K) (p76 B om K) (p62 B a K) (p77 B om) K f d b c)
def p16(B:Aes C)(hd:8006<=D)(b:Yg false Q.code/\Yg true Q.E9)(a:R37 (C (D-1)) (Oa Q) s):R16 (C D) Q s:=by obtain⟨e,rfl,j⟩:=prL hd;exact λk i l h hq l1 g c d f=>Gp B.up (r16 _ N0x b (B.k10 e) a hq l1 g c d f)
def B2o(B:Aes C)(hd:8006<=D):BtR (C D):=by intro e q d c;have a:=A6d c;obtain⟨Ab2,xe,xw,xf,K⟩:=Bsx d a;have b:=p37 (D:=D-1) B om K (A6a a);exact⟨_,p16 B hd (AoD c) b,p16 B hd (AoD a) (by rw[A29 c];exact b)⟩
end Go.Proofs
namespace Go.Proofs
open Go Go.Ev Go.Nm Go.Ev.Sx
variable {j:FuncId}{o:H}
def Xy{h1:H}(g:Ai o h1):∀(gl:List GE),(∀e∈gl,e.g<o.nx)->Hj gl o=true->Hj gl h1=true
|[],_,_=>rfl
|e::gl,b,a=>by
 have d:=g.Cf e.g (b e (Uq ..));unfold Hj at a ⊢;rw[d];revert a;cases o.m.get e.g with
 |cells l t k=>
  cases k with
  |exact=>
   intro a;dsimp only at a ⊢;rcases bf (Sh l e.l)with a1|a1
   .rw[a1]at a ⊢;rcases bf (Nat.beq t e.t)with a2|a2
    .rw[a2]at a ⊢;exact Xy g gl (λe f=>b e (Vo _ f)) a
    .rw[a2]at a;cases a
   .rw[a1]at a;cases a
  |fz c=>intro a;cases a
  |Gt c=>intro a;cases a
  |Cf c st=>intro a;cases a
 |_=>intro a;cases a
def glp:List AV:=Bkd.map λx=>AV.int .u64 x
def glP:List GE:=[⟨2,glp,361⟩]
def Bgb(x:Int × Int × List Nat):Orc:=⟨172,[.str (V8 x.1),.str (V8 x.2.1)],.Bj [.str x.2.2,iI 0]⟩
def Bcw:Tab:=⟨2^172,AwF.map Bgb⟩
def Bw5:FuncId->Bool:=λg=>decide (g∈PaL)
abbrev CF:Ac:=ApJ glP Bcw (CB 3000)
abbrev CX(d:Nat):Ac:=cE PP Bw5 CF d
def BuS(a:AeZ o):Hj glP o=true:=by show Hj [⟨2,glp,361⟩] o=true;unfold Hj;rw[a.g];kernel_rfl
def Aqo{d:Nat}(args:List AV)(h:H)(a:Bw5 j=false:=by decide)(b:Nat.beq (Nat.land (2^172) (Nat.pow 2 j)) 0=true:=by kernel_rfl):(CX d).call j args h=(CB 3000).call j args h:=by
 refine(Bu2 a args h d).trans ?_;have e:Hl Bcw j args=none:=by unfold Hl;rw[show Bcw.Azg=2^172 from rfl,b]
 show(@Option.rec _ (λ_=>OR) ((CB 3000).call j args h) (λv=>Abq glP v h) (Hl Bcw j args):OR)=_;rw[e]
def BmN:∀x∈AwF,Hl Bcw 172 [.str (V8 x.1),.str (V8 x.2.1)]=some (.Bj [.str x.2.2,iI 0]):=by intro x a;simp only[AwF,Tu,Pl,fb]at a;rcases a with rfl|rfl|rfl<;>kernel_rfl
def B4j(d:Nat):Bm6 (CX d):=by intro x h a c;have b:(CX d).call 172 [.str (V8 x.1),.str (V8 x.2.1)] h=CF.call 172 [.str (V8 x.1),.str (V8 x.2.1)] h:=Bu2 fe _ h d;rw[b];show Ah h _ (@Option.rec _ (λ_=>OR) ((CB 3000).call 172 [.str (V8 x.1),.str (V8 x.2.1)] h) (λv=>Abq glP v h) (Hl Bcw 172 [.str (V8 x.1),.str (V8 x.2.1)]):OR);rw[BmN x a];show Ah h _ (Abq glP (.Bj [.str x.2.2,iI 0]) h);unfold Abq;rw[BuS c];exact Lo (Ai.refl h) ⟨_,rfl⟩
def xop(d:Nat):HOp (CX d):=λt h=>by
 have e:Hn PP (CX d) (A3 t) (mnm PP 109 1) [] h=Hn PP (CB 3000) (A3 t) (mnm PP 109 1) [] h:=by
  cases t with
  |leaf x=>exact(Pc [] h Azq Avp).trans ((Aqo _ h).trans (Pc [] h Azq Avp).symm)
  |one o a=>exact(Pc [] h Azn Avm).trans ((Aqo _ h).trans (Pc [] h Azn Avm).symm)
  |two o a b=>exact(Pc [] h Azo Avn).trans ((Aqo _ h).trans (Pc [] h Azo Avn).symm)
  |three c a b=>exact(Pc [] h Azp Avo).trans ((Aqo _ h).trans (Pc [] h Azp Avo).symm)
 exact e.trans (kop 2999 t h)
def bsX:Aes CX where
 up:=λg k d q args h v h1 j=>(ByF (Ws k) args h d).trans (Jn (Yw _) j)
 Bby:=λd=>by intro b e i f n m;rw[Aqo];exact BiG 3000 fe b e i f n m
 BvN:=λd=>by intro b e i f;rw[Aqo];exact BbO 3000 fe b e i f
 k96:=λd=>by intro v h h1 h2;rw[Aqo];exact ByE 3000 fe v h h1 h2
 BvL:=λd=>by intro h;rw[Aqo];exact By9 2999 h
 BvK:=λd s xf x T=>by intro h;rw[Aqo];exact By8 2999 x T h
 BvM:=B4j;k28:=λd=>by intro c l v h lo h1 h2;rw[Aqo];exact k28 3000 fe c l v h lo h1 h2
 kop:=xop;k64:=λd=>by intro t h;rw[Aqo];exact k64 2999 t h
 k10:=λd=>by intro q F p M h h1 h2 S G L O;rw[Aqo];exact c10 3000 fe q F p M h h1 h2 S G L O
 rnd:=λd bo l V b e i f W U J E u h hd w I t B A K a=>by obtain⟨v,h1,j,k,P,r,⟨w',H,R⟩,q5,y,z⟩:=Bsk (CX d) N0x (t:=t) K.g u B A K.gb K.gl K.o a;exact⟨v,h1,A1W (Yw _) j,k,P,⟨w',r,H,q5,R⟩,y,z⟩
def BaL:P8 PP.globals.size glP=true:=by kernel_rfl
def Bsn:(AwF.all λx=>Yt PP.globals.size (Bgb x).v ((Acb PP glP ⟨0,[]⟩ 60).call (Bgb x).g (Bgb x).args (glH glP PP.globals.size)))=true:=by kernel_rfl
def BqT:∀o∈Bcw.l,Nx PP glP o:=by
 intro o b;obtain⟨x,a,rfl⟩:=dz.1 (show o∈AwF.map Bgb from b)
 exact Lv (Jp mixed pok BaL (λ_ h=>(by cases h)) 60) (by have:=gsz;rw[AfK];omega) BaL (Bgb x) (by show Bg PP 172=true;kernel_rfl) (Od.1 Bsn x a)
def AeV:Tab:=⟨8192,[⟨13,[],.bool true⟩]⟩
abbrev CK(gl:List GE):Ac:=ApJ gl AeV (CX 8100)
def Sj{gl:List GE}(args:List AV)(h:H)(a:Nat.beq (Nat.land 8192 (Nat.pow 2 j)) 0=true:=by decide):(CK gl).call j args h=(CX 8100).call j args h:=by
 have e:Hl AeV j args=none:=by unfold Hl;rw[show AeV.Azg=8192 from rfl,a]
 show(@Option.rec _ (λ_=>OR) ((CX 8100).call j args h) (λv=>Abq gl v h) (Hl AeV j args):OR)=_;rw[e]
def ApD{gl:List GE}(a:Hj gl o=true):(CK gl).call 13 [] o=.ok (.bool true) o:=by have e:Hl AeV 13 []=some (.bool true):=rfl;show(@Option.rec _ (λ_=>OR) ((CX 8100).call 13 [] o) (λv=>Abq gl v o) (Hl AeV 13 []):OR)=_;rw[e];show Abq gl (.bool true) o=_;unfold Abq;rw[a]
def Beq(gl:List GE)(o i:AV)(t p:List Int)(h:H)(F:S0 h)(I:AeZ h)(m:∀e∈gl,e.g<h.nx)(J:Hj gl h=true)(B:Lf h o t)(A:Lf h i p)(la:(t.length:Int)<=9223372036854775807)(lb:(p.length:Int)<=9223372036854775807):
 Ah h (λr _=>r=.bool true) (Fy PP (CK gl) 4 [o,i] h):=by
 refine Ah0 (r4 (CK gl) 1048576 ?_ ?_ ?_ ?_ ?_ o i t p h F I ?_ B A la lb)
 .intro j sv L k h h1 h2 f d;rw[Sj,Aqo];exact c14 3000 fe j sv L k h h1 h2 f d
 .intro j L h h1 h2;rw[Sj,Aqo];exact c15 3000 fe j L h h1 h2
 .intro q b a c h h1 h2 f d v K;rw[Sj,Aqo];exact c10 3000 fe q b a c h h1 h2 f d v K
 .intro q b a c E z G h h1 h2 f d v;rw[Sj,Aqo];exact W0 3000 fe q b a c E z G h h1 h2 f d v
 .intro k q h1 h2;obtain⟨s,y,M⟩:=B2o (D:=8100) bsX fe k q h1 h2;refine⟨s,?_,?_⟩
  .intro b a c h w l u x q5 n;rw[Sj];exact y b a c h w l u x q5 n
  .intro b a c h w l u x q5 n;rw[Sj];exact M b a c h w l u x q5 n
 .intro h1 g;rw[ApD (Xy g gl m J)];exact Lo (Ai.refl h1) rfl
end Go.Proofs
