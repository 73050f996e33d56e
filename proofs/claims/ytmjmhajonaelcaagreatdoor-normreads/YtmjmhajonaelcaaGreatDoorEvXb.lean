/- NormReads walked. -/
import Derived.Test.YtmjmhajonaelcaaGreatDoorEvJb
import Derived.Test.YtmjmhajonaelcaaGreatDoorEvKa
import Derived.Test.YtmjmhajonaelcaaGreatDoorEvNg
set_option linter.all false
set_option maxRecDepth 100000
noncomputable section
namespace Go.Proofs
open Go Go.Ev Go.Nm Tryz Go.Ev.Sx
attribute [local irreducible] Aa Al Af Ad
variable (Z cx:Ac)(N:Nat)
variable {h h1 h2 h0 hd hA:H}{b lo:Nat}{s:uq}{Q:Qr}{ve vo vm:AV}{xe xw xf:List L3}
def R62 Q s:=∀h,AeZ h->S0 h->EG h->Ah h (λr h1=>∃ve vo vm,r=.Bj [.agg (qc Q ve vo vm),.agg [iI 0,iI 0]]/\QV h1 Q ve vo vm) (Z.call 5 [.str s] h)
def R37 Q s:=∀ve vo vm h,QV h Q ve vo vm->AeZ h->S0 h->EG h->Ah h (λr _=>r=.Bj [.str s,uz]) (Z.call 6 [.agg (qc Q ve vo vm)] h)
def Bit{cs}{ty}(a:h.m.get b=cz cs ty)(c:b<h.nx)(d:cs.length=20):lS 20 (.ptr b 0) h=.ok (.agg cs) h:=
 (⟨c,_,_,a,trivial⟩:Nv h b _).many om (by grind) h (Bi.refl h)
def BmY(K:KiQ Q xe):xe.length<=(kbx Q xe).length:=by
 by_cases h:Q.c0=2\/Q.c0=4\/Q.c0=5
 .have e:∀a b,xe.length<=(vlx xe a b).length:=λa b=>by rw[AwB];omega
  unfold kbx;grind
 .rw[(K.ex om om om).2];grind
def r37(p:R74 Z Q xe)(q:R75 Z Q xw xf)(u:R76 Z (qlx Q xe xw xf))(B:R62 Z Q (txt Q xe xw xf))(y:R77 Z)(K:TxG Q xe xw xf)(T:Q.code.length<=3000/\Q.ord.length<=3000/\Q.E9.length<=3000)(V:QV h Q ve vo vm)(J:AeZ h)(hG:S0 h)(hE:EG h):
 Ah h (λr _=>r=.Bj [.str (txt Q xe xw xf),uz]) (mr Z N 6 [.agg (qc Q ve vo vm)] h):=by
 rw[e37];obtain⟨a,d⟩:∃a,a=(h.new (cz (qc Q ve vo vm) 27)).new (cz [.Bv] 59):=⟨_,rfl⟩;have x:Ai h a:=by rw[d];exact((Ai.refl h).new _).new _
 have g1:a.m.get h.nx=cz (qc Q ve vo vm) 27:=by rw[d,Cq _ _ (by simp)];simp[*]
 have g2:a.m.get (h.nx+1)=cz [.Bv] 59:=by rw[d];exact Bf (h:=h.new _) _
 have nb:a.nx=h.nx+2:=by simp[*]
 refine Ey (Hg ..) (Ey (v:=.ptr (h.nx+1) 0) (h:=a) (by simp_all) ?_);clear d;obtain⟨M,U,W,G⟩:=K.text;have ll:xe.length<=(kbx Q xe).length/\(kbx Q xe).length+xw.length<=899:=by refine⟨BmY K.ki,?_⟩;simp only[qlx,slx,Yl,Y7]at G;omega
 have hq:QF (h.nx+1) a Q ve vo vm:=⟨h,by omega,x,V⟩;have B6:=J.lt;refine Ey (Bit g1 om rfl) ?_;obtain⟨v3,h3,Y,_,rfl,l,k3⟩:=p (h.nx+1) [] ve vo vm a ⟨by omega,.Bv,g2,Fm.nil ..⟩ (J.gr x) om hq (by simp;omega);refine Ey Y ?_;have k:=(l.lo h.nx om).trans g1;refine Ey (v:=ux) (h:=h3) rfl (Ey (Kk ..) (Ey ((Kk ..).trans (Bit k (by have:=l.nx;omega) rfl)) ?_));have p3:=(J.gr x).wg l om;have C:=hq.wg l;obtain⟨v5,f,r5,_,rfl,I,R⟩:=q (h.nx+1) _ ve vo vm h3 k3 p3 om C (by simp;omega);refine Ey ((Kk ..).trans r5) ?_;have w:=(I.lo h.nx om).trans k;have L:Ai h f:=WG.own (WG.own x l om) I om;refine Ey ((Kk ..).trans (show _=OR.ok ux f from rfl)) (Ey (v:=ux) (h:=f) rfl (Ae5 ?_));obtain⟨lv,q1,X⟩:=R.g;have F:=R.lt;refine Ey (v:=.ptr (h.nx+1) 0) (h:=f) rfl (Ey (v:=.ptr (h.nx+1) 0) (h:=f) rfl (Ey ((⟨F,_,_,q1,trivial⟩:Nv f (h.nx+1) [lv]).one (o:=0) rfl f (Bi.refl _)) ?_));have A:[]++List.map Ae7 (.kw (kdW.getD (kno Q) ([],0)).1::kbx Q xe)++List.map Ae7 (slx Q xw++wlx Q xf)=(qlx Q xe xw xf).map Ae7:=by simp[qlx]
 rw[A]at X;refine Fj (u lv f X.sl) λv6 h6 O l6 z q6=>?_;subst q6;have p6:=((p3.wg I om).gr O);have j:=L.trans O;refine Fj (B h6 p6 (hG.By j.keeps) (hE.gr j)) λv7 P e7 l7 E q7=>?_;obtain⟨we,wo,wm,rfl,qv⟩:=q7;have S:=j.trans e7;have g17:=(E h.nx (by omega)).trans ((z h.nx (by grind)).trans w);have hn7:h.nx<P.nx:=by omega
 clear p q u B K Y r5 l I k3 R p3 p6 C hq q1 X A k w ll M U W G J B6 F x O e7 l6 l7 z E g1 g2;obtain⟨i1,i2⟩:=B2 qv.c;obtain⟨i3,i4⟩:=B2 qv.o;obtain⟨i5,i6⟩:=B2 qv.m;have i:=λn (e:Bi P n) (g:Bi h n)=>y Q we wo wm ve vo vm n (qv.By e) (V.By g) T.1 T.2.1 T.2.2;replace qv:=(show F5 _ from qv);replace i:=(show F5 _ from i);clear y V;refine wk ?_;refine Fj ((show ∀n (e:Bi P n) (g:Bi h n),_ from i) _ M0 (Ai.keeps (S.trans Ex))) λv8 h8 e8 l8 BfJ q8=>?_;subst q8;refine wk ?_;exact zr Ex rfl
variable {D:Nat}{t:Tr}{b:Bool}
def Abt{e}:∀{t} {b},E7 e b t->Ty b t
|.leaf x,b,⟨h,h1⟩=>⟨h,h1.imp (λa=>⟨a.1,a.2.1⟩) λa=>⟨a.1,a.2.1⟩⟩
|.one o a,b,h=>h.imp (λh=>⟨h.1,h.2.1,Abt h.2.2⟩) λh=>⟨h.1,h.2.1,Abt h.2.2⟩
|.two o a c,b,h=>by
 rcases h with⟨h0,h1,h2,d⟩|⟨h0,h1,h2,d⟩|⟨h0,h1,h2⟩|⟨h0,h1,h2,d⟩;. exact .inl ⟨h0,h1,Abt h2,Abt d⟩
 .exact .inr (.inl ⟨h0,h1,Abt h2,Abt d⟩)
 .obtain⟨x,y,rfl,rfl,f,g⟩:=Agn h2;exact .inr (.inr (.inl ⟨h0,h1,⟨f.1,f.2.1⟩,g.1,g.2.1⟩))
 .exact .inr (.inr (.inr ⟨h0,h1,Abt h2,Abt d⟩))
|.three p a c,b,h=>⟨h.1,Abt h.2.1,Abt h.2.2.1,Abt h.2.2.2⟩
def A1u(h:NmG s):s ∉ Sgs:=λa=>by have⟨c,r,_,_⟩:=Bjq h;have⟨_,_,_,_,_⟩:=BoH s a;grind
def ArC:∀{t} {b},E7 DG b t->AwU t
|.leaf x,b,⟨h,h1⟩=>by
 rcases h1 with h|h;. exact .inl ⟨h.1,h.2.2.1,h.2.2.2⟩
 .exact .inr (.inl ⟨h.1,A1u h.2.2⟩)
|.one o a,b,h=>by
 rcases h with h|h;. exact⟨.inl h.2.1,ArC h.2.2⟩
 .exact⟨.inr h.2.1,ArC h.2.2⟩
|.two o a c,b,h=>by
 rcases h with⟨h0,h1,h2,d⟩|⟨h0,h1,h2,d⟩|⟨h0,h1,h2⟩|⟨h0,h1,h2,d⟩;. exact⟨by omega,ArC h2,ArC d⟩
 .exact⟨by omega,ArC h2,ArC d⟩
 .obtain⟨x,y,rfl,rfl,e,f⟩:=Agn h2;exact⟨by omega,.inr (.inl ⟨e.1,A1u e.2.2⟩),.inr (.inr f.1)⟩
 .exact⟨by omega,ArC h2,ArC d⟩
|.three p a c,b,h=>⟨ArC h.2.1,ArC h.2.2.1,ArC h.2.2.2⟩
def ExQ.bld(h:ExQ b t):Je t.nodes b=some t/\t.nodes.length<=3000/\AwU t/\size t<=200:=by have:=h.sz;exact⟨Y3 (Abt h.ty),by omega,ArC h.ty,by rw[<- Ao];grind⟩
def TxG.lens(K:TxG Q xe xw xf):Q.code.length<=3000/\Q.ord.length<=3000/\Q.E9.length<=3000:=by
 refine⟨?_,by have:=K.ki.od;omega,?_⟩
 .by_cases h:Q.c0=2\/Q.c0=4\/Q.c0=5;. have⟨t,h1,h2,_⟩:=K.ki.v h;rw[h2];exact h1.bld.2.1
  .rw[(K.ki.ex om om om).1];simp
 .rcases K.E9 with⟨h,_⟩|⟨t,h1,h2,_⟩;. grind
  .rw[h2];exact h1.bld.2.1
def Cd8:BsV (CB (D+10)):=by intro a d h h1 h2 f c;obtain⟨a,rfl⟩:=Int.eq_ofNat_of_zero_le h1.1;obtain⟨d,rfl⟩:=Int.eq_ofNat_of_zero_le h2.1;have:=h1.2;have:=h2.2;refine(B7J a d h om om om c).mono λr _ _ e=>⟨iI 0,?_⟩;rw[e,A8X]
def Cd7:Bpj (CB (D+6)):=λn h hn a=>Gp upB (B2Q _ N0x (Bwo upB om) hn a)
def z107:B0Y (CB (D+11)):=λb v l n e Q ve vo vm h a d p c=>upE upB (Cc1 _ N0x Cd7 Cd8 (A8D upB om) (BdX upB om) (A8T upB om) (B5p upB om) (BnG upB om) (Bnv upB om) (A57 upB om) a d p c)
def Cd0:Bt5 (CB (D+1)):=λa b h=>Gp upB (B2w _ N0x a b)
def Cd1:Bt6 (CB (D+1)):=λh=>Gp upB (B2y _ N0x)
def Aem s l:=∃xs,AsA s=some xs/\Tk2 l xs
def B5T{l}(h:Aem s l):AjO l/\l.length<=2000:=by
 have⟨_,h1,h2⟩:=h;have⟨f,_⟩:=Bfv h1;have m:s.length<=2000:=by unfold AsA at h1;grind
 refine⟨λt a c=>?_,?_⟩;. have⟨i,hi⟩:=List.mem_iff_getElem?.1 a;have⟨x,j,a⟩:=A9a h2 hi;have g:=f x (Vl j);cases x with
   |nu n=>have⟨_,rfl⟩:=a;exact g
   |_=>exact absurd (a.1.symm.trans c) (by simp)
 .rw[Bed h2];have k:∀{l},(∀x∈l,LxG x)->2*l.length<=Aj7 l:=by intro l;induction l with
   |nil=>simp
   |cons x r d=>intro h;have h1:=(Bjn (h x Wm ..)).1;have h2:=d λy e=>h y (Vo _ e);simp[Y7,Aj7];omega
  grind
def z62(a:∀c∈s,c<256)(h:H)(e:AeZ h)(i:S0 h)(d:EG h):Ah h (Par (AsA s=none) (Aem s)) ((CB (D+72063)).call 5 [.str s] h):=by
 have f:=s62 (CB (D+72062)) (Ky:=AsA s=none) (W:=Aem s) (λl=>B5T) (B7D a) Cd0 (A5X upB om) Cd1 (A57 upB om) (Bnv upB om) (CbD upB om) (Cb8 upB om) z107 e i d;obtain⟨v,h1,h2,g⟩:=f;refine⟨v,h1,?_,g⟩;rw[show(CB (D+72063)).call 5 [.str s] h=Fy PP (CB (D+72062)) 5 [.str s] h from Atd h (by rw[BvR fe])]
 exact A7y (BqW _) pok h2
def x62(K:TxG Q xe xw xf):R62 (CB (D+72063)) Q (txt Q xe xw xf):=by
 intro h f m e;obtain⟨o,g,t3,p,d⟩:=K.text;refine(z62 g h f m e).mono λr h1 _ j=>?_;rcases j with⟨hn|⟨l,⟨xs,h2,c⟩,a⟩,_⟩|⟨l,Q',n,ve,vo,vm,⟨xs,h2,c⟩,a,k,i⟩
 .rw[d]at hn;cases hn
 .rw[d]at h2;cases h2;rw[K.again l c]at a;cases a
 .rw[d]at h2;cases h2;rw[K.again l c]at a;cases a;exact⟨ve,vo,vm,k,i⟩
def Cbv(hd:1<=D):HOp (CB D):=by obtain⟨e,rfl,a⟩:=Wr hd;exact kop e
def Bxq(hd:1<=D):H64 (CB D):=by obtain⟨e,rfl,a⟩:=Wr hd;exact k64 e
def z173:B0p (CB (D+1)):=λh v ts h1 h2 a=>Gp upB (B77 _ N0x h1 h2 a)
def Cd2:B0o (CB (D+2)):=λe r ops f w h h1 h2 d a c=>Gp upB (B75 _ N0x fe (Bxq om) z173 h1 h2 d a c)
def z63:P63 (CB (D+3)):=λc st d x h h1 h2 a=>Gp upB (b63 _ N0x Cd2 h1 h2 a)
def Azr Z n c v h(a:∀hh,Fo v hh=.ok (iI 0) hh):Ah h (λr _=>r=.Bj [.B3,ux]) (mr Z (n+1) 51 [v,.bool c] h):=by rw[e28];refine wk ?_;rw[Ajh];refine wk ?_;exact zr Ex rfl
def z28:N28 (CB (D+4)):=by
 intro c l v h i f g;rcases i with rfl|⟨t,e⟩
 .have a:∀d,Fo v d=.ok (iI 0) d:=λ_=>f.Gs;rw[show Je [] c=none from rfl]
  exact Gp upB (Azr _ 1048575 c v h a)
 .rw[e];exact Gp upB (b28 _ N0x z63 (Bxq om) fe f g e)
def pRW(h1:AwU t)(h2:size t<=200):RW (CB (D+410)) t:=AoZ upB (λd hd=>BiG hd) (λd hd=>Cbv om) (λd hd=>Bxq om) h1 _ om
def BxY:AkX (CB (D+3)):=BbA upB (λd hd=>BiG hd) om
def z124:AsL (CB (D+6)):=Bwj upB (λd hd=>BiG hd) om
def Cd3:Bpe (CB (D+500)):=λw ts Q ve vo vm t h k d c hq f e h1 h2 s2 s3 a=>Gp upB (B23 _ N0x BxY z124 z28 (pRW h1 h2) k d c hq f e s2 s3 a)
def TxG.B11(K:TxG Q xe xw xf) Z:Bt3 Z Q xe:=by refine⟨K.ki.k,λa=>?_,λh1 h2 c=>A1u (K.ki.nm h1 h2 c),K.ki.q5,K.ki.b7,K.ki.o10⟩;have⟨t,h1,_,d,s2,s3⟩:=K.ki.v a;have⟨_,_,e⟩:=h1.bld;exact⟨t,⟨by grind,by grind,e,s2,s3⟩,d⟩
def z74(K:TxG Q xe xw xf):R74 (CB (D+501)) Q xe:=λw ts ve vo vm h k d c hq a=>Gp upB (r74 _ _ BxY Cd3 z124 fe (K.B11 _) k d c hq a)
def Cd4(k:FaQ s xf):Bm4 (CB (D+11)) s xf:=by
 intro h;obtain⟨a,d,h1,h2,j,f,rfl,rfl⟩:=k;refine(B1x a d h h1 h2 j f).mono λr _ _ g=>⟨_,_,g,?_⟩;by_cases c:d=1
 .subst c;exact .inl ⟨a,⟨by omega,by omega⟩,rfl,rfl,Xo rfl⟩
 .exact .inr ⟨a,d,⟨by omega,by omega⟩,⟨by omega,by omega⟩,rfl,rfl,λe=>c (by
   have i:=(Alj (n:=(d:Int)) om om).2.1;rw[e]at i;have l:AnE [49]=1:=by decide
   omega),X2 c⟩
def TxG.B4f(K:TxG Q xe xw xf):Bm9 (CB (D+500)) Q xw xf:=by
 refine⟨?_,Cd4 K.fac,K.bits,A1u K.tbl,K.By,λe=>?_⟩
 .rcases K.E9 with⟨h1,h2⟩|⟨t,h1,h2,a⟩
  .exact .inl ⟨h1,h2⟩
  .obtain⟨c,b2,g,f⟩:=h1.bld;exact .inr ⟨t,by rw[h2];exact c,by rw[h2];exact Tf t,by rw[h2];exact b2,pRW g f,a⟩
 .rcases K.join with h1|⟨h1,h2,a,d⟩
  .exact absurd h1 e
  .exact⟨A1u h1,A1u h2,A1u a,d⟩
def z75(K:TxG Q xe xw xf):R75 (CB (D+501)) Q xw xf:=λw ts ve vo vm h k d c hq a=>Gp upB (r75 _ N0x BxY z124 z28 K.B4f k d c hq a)
def z127:Bpf (CB (D+3)):=λt l v h a c=>Gp upB (B25 _ N0x (BiG om) a c)
def z76(K:TxG Q xe xw xf):R76 (CB (D+4)) (qlx Q xe xw xf):=by obtain⟨h1,h2,c,d,_⟩:=K.text;exact λv h a=>Gp upB (r76 _ _ fe z127 B7G Btr B1y (Ol h1 fe) h2 c om a)
def z131:Bt8 (CB (D+1)):=λv w l h c a d=>Gp upB (B29 _ _ fe c a d)
def Cd5:Bt9 (CB (D+1)):=λv w l h c a d=>Gp upB (B2A _ _ fe c a d)
def Cd6:BtA (CB (D+1)):=λQ ve vo vm h=>Gp upB (B2B _ N0x)
def z77:R77 (CB (D+2)):=λQ ve vo vm g f i h c d l1 a e=>Gp upB (r77 _ N0x z131 Cd5 Cd6 c d l1 a e)
def z37(K:TxG Q xe xw xf):R37 (CB (D+72064)) Q (txt Q xe xw xf):=λve vo vm h d a e c=>Gp upB (r37 _ N0x (z74 K) (z75 K) (z76 K) (x62 K) z77 K K.lens d a e c)
def z33:R33 (CB (D+1)):=λl v w h h1 h2 a=>Gp upB (r33 _ _ fe h1 h2 a)
def z36:R36 (CB (D+1)):=λl v w h h1 h2 a=>Gp upB (r36 _ _ fe h1 h2 a)
def z12:R12 (CB (D+2)):=λq c vo vm i a g h h1 h2 f d e=>Gp upB (r12 _ N0x z33 z36 q c vo vm i a g h h1 h2 f d e)
def Bg2(i:s.length<=900){r}{h1}(d:Par (AsA s=none) (Aem s) r h1):(∃e a:Int,e≠0/\r=.Bj [.agg zq,.agg [iI e,iI a]]) \/
 ∃Q xe xw xf ve vo vm,TxG Q xe xw xf/\r=.Bj [.agg (qc Q ve vo vm),.agg [iI 0,iI 0]]/\QV h1 Q ve vo vm:=by
 rcases d with⟨_,h2⟩|⟨l,Q,n,ve,vo,vm,⟨xs,h2,f⟩,c,j,g⟩;. grind
 .have⟨g1,_⟩:=Bfv h2;have⟨_,_,_,K⟩:=Bnr ⟨f,g1⟩ om c;grind
def Cdl:tk prog 28=.int:=rfl
def Cdm:tk prog 30=.struct [(28,0),(3,1)]:=by kernel_rfl
def B1p d a b:aeq prog (d+1) 28 (iI a) (iI b)=some (decide (a=b)):=by show Dy ..=_;unfold Dy;rw[Cdl,<- X7];rfl
def B1q(e a:Int)(c:e≠0):aeq prog 20 30 (.agg [iI e,iI a]) (.agg [iI 0,iI 0])=some false:=by show Dy _ _ _ _ _=_;unfold Dy;rw[Cdm];show Amw prog (aeq prog 19) [(28,0),(3,1)] [iI e,iI a] [iI 0,iI 0]=_;unfold Amw;rw[show Hc prog 28 [AV.int .i64 e,iI a] 0=some (iI e)from rfl,show Hc prog _ _ 0=some _ from rfl];show(match aeq _ _ _ .. with|some true=>Amw _ _ _ ..|some false=>some _|none=>none)=_;rw[B1p,Yc c]
def B5d(e a:Int)(d:e≠0)(c:H):Aj prog .neq 30 false (.agg [iI e,iI a]) (.agg [iI 0,iI 0]) c=.ok uz c:=by
 have f:Xm prog 30 false (O6 (.agg [iI e,iI a])) (O6 (.agg [iI 0,iI 0]))=true:=by show Xm prog 30 false 1 1=true;kernel_rfl
 show(@Bool.rec (λ_=>OR) (.bad 39) ((match aeq prog 20 30 (.agg [iI e,iI a]) (.agg [iI 0,iI 0])with|some b=>OR.ok (.bool (true != b)) c|none=>.bad 38)) (Xm prog 30 false ..):OR)=_;rw[f,B1q e a d];rfl
def Bx3 hh:Aj prog .neq 30 false (.agg [iI 0,iI 0]) (.agg [iI 0,iI 0]) hh=.ok ux hh:=by kernel_rfl
def Bwb hh:Aj prog .eql 30 false (.agg [iI 0,iI 0]) (.agg [iI 0,iI 0]) hh=.ok uz hh:=by kernel_rfl
def K13 h:=∀h1,Ai h h1->Ah h1 (λr _=>r=uz) (Z.call 4 [] h1)
def Psh s:=∀h,AeZ h->S0 h->EG h->Ah h (λr h1=>(∃e a:Int,e≠0/\r=.Bj [.agg zq,.agg [iI e,iI a]]) \/
 ∃Q xe xw xf ve vo vm,TxG Q xe xw xf/\r=.Bj [.agg (qc Q ve vo vm),.agg [iI 0,iI 0]]/\QV h1 Q ve vo vm) (Z.call 5 [.str s] h)
set_option maxHeartbeats 2000000 in
def r400(f:K13 Z h)(B:s.length<=900->Psh Z s)(y:∀{Q xe xw xf},TxG Q xe xw xf->R37 Z Q (txt Q xe xw xf))(x:∀{Q xe xw xf},TxG Q xe xw xf->R62 Z Q (txt Q xe xw xf))(E:R12 Z)(J:AeZ h)(L:S0 h)(I:EG h):
 Ah h (λv _=>v=uz) (mr Z N 3 [.str s] h):=by
 rw[B9s];refine Fj (f h (Ai.refl h)) λv1 h1 e1 l1 G q1=>?_;subst q1;by_cases hs:s.length<=900;rotate_left
 .have W:decide ((900:Int)<(s.length:Int))=true:=dt;have k2:decide (900<s.length)=true:=dt;refine wk ?_;exact zr e1 rfl
 have W:decide ((900:Int)<(s.length:Int))=false:=df;have k2:decide (900<s.length)=false:=df;refine wk ?_;refine Fj (B hs _ (J.gr (e1.trans Ex)) (L.By (Ai.keeps (e1.trans Ex))) (I.gr (e1.trans Ex))) λv2 h2 S l2 O q2=>?_;have g2:=e1.trans S;rcases q2 with⟨e,a,he,rfl⟩|⟨Q,xe,xw,xf,ve,vo,vm,K,rfl,qv⟩
 .have F:=B5d e a he;refine wk ?_;exact zr (g2.trans Ex) rfl
 have F:=Bx3;have X:=Bwb;have g:=y K;have j:=x K;obtain⟨r1,r2⟩:=B2 qv.c;obtain⟨r3,r4⟩:=B2 qv.o;obtain⟨r5,r6⟩:=B2 qv.m;have k:=J.gr g2;have p:=L.By g2.keeps;have n:=I.gr g2;obtain⟨Y,y2,y3⟩:=K.lens;replace qv:=(show F5 (QV h2 Q ve vo vm)from qv)
 replace g:=(show F5 (R37 Z Q (txt Q xe xw xf))from g)
 replace j:=(show F5 (R62 Z Q (txt Q xe xw xf))from j)
 replace E:=(show F5 (R12 Z)from E)
 generalize txt Q xe xw xf=u at *
 clear f B y x K G O e1 S J L I l1 l2;refine wk ?_;refine Fj ((show R37 Z Q u from g) ve vo vm _ ((show QV h2 Q ve vo vm from qv).By M0) (k.gr Ex) (p.By M0) (n.gr Ex)) λv3 h3 U l3 i q3=>?_
 subst q3;simp only[C9]at l3 i;have C:Ai h2 h3:=Ai.trans Ex U;have R:=(i h2.nx om).trans ((Aq _ _ _ om).trans (A2 ..));clear U i;refine wk ?_;refine Fj ((show R62 Z Q u from j) _ (k.gr (C.trans Ex)) (p.By (Ai.keeps (C.trans Ex))) (n.gr (C.trans Ex))) λv4 f V l4 A q4=>?_
 obtain⟨z,q,r,rfl,l⟩:=q4;obtain⟨s1,s2⟩:=B2 l.c;obtain⟨s3,s4⟩:=B2 l.o;obtain⟨s5,s6⟩:=B2 l.m;have w:Ai h2 f:=Ai.trans (C.trans Ex) V;have T:=(A h2.nx om).trans R;clear V A R;replace l:=(show F5 (QV f Q z q r)from l)
 refine wk ?_;refine Fj ((show R37 Z Q u from g) z q r _ ((show QV f Q z q r from l).By M0) (k.gr (w.trans Ex)) (p.By (Ai.keeps (w.trans Ex))) (n.gr (w.trans Ex))) λv5 B P l5 d q5=>?_
 subst q5;simp only[C9]at l5 d;have M:Ai f B:=Ai.trans Ex P;have b5:=(d h2.nx om).trans ((Aq _ _ _ om).trans ((Aq _ _ _ om).trans ((Cq _ _ ml).trans ((Cq _ _ om).trans T))));have d5:=(d f.nx om).trans ((Aq _ _ _ om).trans (A2 ..));have f5:=(d (f.nx+1) om).trans (A2 ..);clear P d T;refine wk ?_;refine Fj ((show R12 Z from E) Q ve vo vm z q r _ ((show QV h2 Q ve vo vm from qv).By (Ai.keeps ((w.trans M).trans Ex))) ((show QV f Q z q r from l).By (Ai.keeps (M.trans Ex))) Y y2 y3) λv6 h6 e6 l6 Axm q6=>?_
 subst q6;refine wk ?_;exact zr ((g2.trans (w.trans M)).trans (Ai.trans Ex e6)) rfl
end Go.Proofs
