/- Equations of functions, by program. -/
import Derived.Test.YtmjmhajonaelcaaGreatDoorEvG
import Derived.Test.YtmjmhajonaelcaaGreatDoorProg
set_option linter.all false
set_option maxRecDepth 100000
noncomputable section
namespace Go.Proofs
open Go Go.Ev Tryz
def fi(Z:Ac)(g:FuncId):KT:=Bz prog Z (As prog g)
def j0:Nat->KT:=λ_ _ _=>.bad 406
def cB(g:FuncId)(p:uq)(q:Bool)(Z:Ac)(N:Nat)(j:Nat->KT)(k:KT):KT:=xc (sub (Bc prog g) p) prog Z N q j (fi Z g) k
def fz(f:L2)(a:uq)(b:uw):L2:=fr f (a.zip b)
@[simp] noncomputable abbrev eW(i p:Nat)(r:RS)(h h1:H):EF:=⟨i,p,wrote h.nx h1.lg,r,h,h1⟩
@[simp] noncomputable abbrev eZ(i p:Nat)(r:RS)(h:H):EF:=⟨i,p,[],r,h,h⟩
def kr{α:Type}{a b:α}(h:a=b:=by kernel_rfl):a=b:=h
abbrev iI(n:Int):AV:=.int .i64 n
abbrev ff:=iI 0
abbrev fg:=iI 1
abbrev fh:AV:=.bool false
abbrev fj:AV:=.bool true
abbrev fk:AV:=.str []
abbrev fl:AV:=.Bj []
abbrev mr(Z:Ac)(N:Nat):=Ay prog Z N true
abbrev lN(x:AV)(h:H):OR:=Ae (some none) x h
abbrev lS(n:Nat)(x:AV)(h:H):OR:=Ae (some (some n)) x h
abbrev bo(o:BinOp)(t:TypeId)(c:Bool)(x y:AV)(h:H):OR:=Aj prog o t c x y h
abbrev al(o:AO)(h:H):OR:=mk h o (.ptr h.nx 0)
abbrev mM(f:H->OR)(k:AV->H->OR)(h:H):OR:=Aa (f h) k
abbrev fm(Z:Ac)(g:FuncId)(l:List AV)(k:AV->H->OR)(h:H):OR:=mM (Z.call g l) k h
abbrev mW(x:AV)(b:Bool)(f:H->OR)(k:AV->H->OR)(h:H):OR:=Aa (Ad x b (f h) h) k
abbrev mL(x:AV)(i:Nat)(k:AV->AV->H->OR)(h:H):OR:=Aa (Bs x i h) λa h=>Aa (Ae (some none) a h) λb h=>k a b h
abbrev mV(c:AV)(w:Bool)(x:AV)(i:Nat)(k:AV->AV->H->OR)(h:H):OR:=Aa (Ad c w (Bs x i h) h) λa h=>Aa (Ad c w (Ae (some none) a h) h) λb h=>k a b h
abbrev mC(x:AV)(a b:H->OR)(h:H):OR:=Af x (a h) (b h)
abbrev Qj a b c d e k h:=mM (bo a b c d e) k h
abbrev fp a b c k h:=mM (A4 a b c) k h
abbrev fq a b k h:=mM (L9 a b) k h
abbrev ft a b c k h:=mM (Bo a b c) k h
abbrev ga a k h:=mM (lN a) k h
abbrev fv a k h:=mM (Fu a) k h
abbrev Qk a b k h:=mM (Bs a b) k h
abbrev Qn a k h:=mM (Fo a) k h
abbrev fx a b c d e k h:=mM (Bh a b c d e) k h
abbrev fy a k h:=mM (al a) k h
abbrev fw a b k h:=mM (bo .eql 3 true a b) k h
abbrev Qw a b c k h:=mM (Gc a b c) k h
abbrev Pz a b k h:=mM (bo .add 3 true a b) k h
abbrev Qx a k h:=mM (lnS a) k h
abbrev gi a b c d e f k h:=mM (As5 a b c d e f) k h
abbrev gu a b k h:=mM (Qe a b) k h
abbrev Pd a b c d e k h:=mM (xSl a b c d e) k h
abbrev Pj a b k h:=mM (bo .lss 3 false a b) k h
abbrev Pn a b k h:=mM (Oy a b) k h
abbrev gf a b k h:=mM (B7 a b) k h
abbrev gj a b k h:=mM (lS a b) k h
abbrev Pu a b k h:=mM (A6r a b) k h
abbrev ij a b k h:=mM (bo .gtr 3 true a b) k h
abbrev gm a b c d e k h:=mM (Ds a b c d e) k h
abbrev ib a b k h:=mM (bo .sub 3 true a b) k h
abbrev ik a b k h:=mM (bo .geq 3 true a b) k h
abbrev ig a b k h:=mM (bo .add 3 false a b) k h
abbrev ie a b k h:=mM (bo .lss 3 true a b) k h
abbrev Px a b k h:=mM (bo .mul 226 true a b) k h
abbrev qQ(f:H->OR)(k:AV->H->OR)(h:H):OR:=Al h (f (Ab h)) k
abbrev qP(f:H->OR)(k:AV->H->OR)(h:H):OR:=Al (Ab h) (f (Ab h)) k
abbrev qL(x:AV)(i:Nat)(k:AV->AV->H->OR)(h:H):OR:=Al h (Bs x i (Ab h)) λa h=>Al h (Ae (some none) a (Ab h)) λb h=>k a b h
abbrev wQ(x:AV)(b:Bool)(f:H->OR)(k:AV->H->OR)(h:H):OR:=Al h (Ad x b (f (Ab h)) (Ab h)) k
abbrev wP(x:AV)(b:Bool)(f:H->OR)(k:AV->H->OR)(h:H):OR:=Al (Ab h) (Ad x b (f (Ab h)) (Ab h)) k
variable (Z:Ac)(N:Nat)(a0 a1 a2 t0 t1 t2 t6 t7 t8 t30 t52 t66:AV)(f0:L2)(h:H)
def e64:mr Z N 86 [a0] h=(mM (Hn prog Z a0 (mnm prog 142 1) []) λb=>ik b (iI 9) λa=>.ok a) h:=kr
variable (Z:Ac)(N n1:Nat)(a0 a1 a2 t0 t1 t2 t3 t5 t6 t7 t8 t9 t10 t11 t12 t13:AV)(f0:L2)(h:H)
def A78:mr Z N 133 [a0,a1] h=Aa (Z.call 162 [a0] h) λb g=>Aa (Z.call 162 [a1] g) λa g=>Af b ( Af a ( .ok ff g) ( .ok (iI (-1)) g)) ( Af a ( .ok fg g) ( Aa (Aj prog .lss 3 false a0 a1 g) λd g=>Af d ( .ok (iI (-1)) g) ( Aa (Aj prog .gtr 3 false a0 a1 g) λc g=>Af c ( .ok fg g) ( .ok ff g)))):=kr
def A7F:mr Z N 162 [a0] h=Aa (Aj prog .neq 3 false a0 a0 h) λa g=>.ok a g:=kr
def A7G:mr Z N 163 [a0] h=Aa (Aj prog .neq 9 false a0 a0 h) λa g=>.ok a g:=kr
def A2g:KT:=Lk (cB 51 [1,1,1] true Z N j0 (fi Z 51))
def A2h:Nat->KT:=E4 0 (A2g Z N) j0
def A2i:KT->KT:=cB 51 [1,1,0,1,0,0] true Z N (A2h Z N)
def Alg:OR:=F2 (A2i Z N) n1 (fz f0 [255,0,1,6,11,12,13] [.Bj [],t0,t1,t6,t11,t12,t13]) h
def Ajh:Alg Z N (n1+1) t0 t1 t6 t11 t12 t13 f0 h=Aa (Aj prog .lss 3 false t13 t12 h) λv1 g=>Af v1 ( Aa (Gc 3 t11 t13 g) λv2 g=>Aa (Ae (some (some 3)) v2 g) λv3 g=>Aa (mk g (cz [ff,ff,fk] 64) (.ptr g.nx 0)) λi g=>Aa (A4 3 i v3 g) λv5 g=>Aa (Bs i 0 g) λv6 g=>Aa (Ae (some none) v6 g) λv7 g=>Aa (Aj prog .lss 3 true v7 fg g) λm g=>Aa (Ad m false (Bs i 0 g) g) λv9 g=>Aa (Ad m false (Ae (some none) v9 g) g) λG g=>Aa (Ad m false (Aj prog .gtr 3 true G (iI 17) g) g) λt g=>Aa (Bo m uz t g) λd g=>Aa (Ad d false (Bs i 1 g) g) λE0 g=>Aa (Ad d false (Ae (some none) E0 g) g) λEr g=>Aa (Ad d false (Aj prog .neq 3 true Er ff g) g) λD5 g=>Aa (Ad d false (.ok D5 g) g) λw g=>Aa (Ad w true (Bs i 0 g) g) λGq g=>Aa (Ad w true (Ae (some none) Gq g) g) λHt g=>Aa (Ad w true (Aj prog .neq 3 true Ht fg g) g) λH7 g=>Aa (Ad d false (Bo w H7 ux g) g) λx g=>Aa (Bo d uz x g) λa g=>Aa (Ad a false (Bs i 2 g) g) λJw g=>Aa (Ad a false (Ae (some none) Jw g) g) λJm g=>Aa (Ad a false (Aj prog .neq 9 true Jm fk g) g) λr g=>Aa (Ad a false (.ok r g) g) λV g=>Aa (Ad V true (Bs i 0 g) g) λLj g=>Aa (Ad V true (Ae (some none) Lj g) g) λM3 g=>Aa (Ad V true (Aj prog .neq 3 true M3 (iI 2) g) g) λv28 g=>Aa (Ad a false (Bo V v28 ux g) g) λPo g=>Aa (Ad a false (.ok Po g) g) λf g=>Aa (Ad f true (Bs i 0 g) g) λK g=>Aa (Ad f true (Ae (some none) K g) g) λRy g=>Aa (Ad f true (Aj prog .neq 3 true Ry (iI 3) g) g) λPp g=>Aa (Ad a false (Bo f Pp ux g) g) λZf g=>Aa (Bo a uz Zf g) λVx g=>Af Vx ( .ok (.Bj [.B3,ux]) g) ( Aa (Bs i 0 g) λQp g=>Aa (Ae (some none) Qp g) λv37 g=>Aa (Aj prog .eql 3 true v37 (iI 3) g) λj g=>Aa (Ad j true (.ok t13 g) g) λVj g=>Aa (Ad j true (Aj prog .eql 3 true Vj ff g) g) λv g=>Aa (Ad j true (.ok v g) g) λk g=>Aa (Ad k false (.ok t0 g) g) λUx g=>Aa (Ad k false (.ok t13 g) g) λXk g=>Aa (Ad k false (Aj prog .sub 3 true Xk fg g) g) λI g=>Aa (Ad k false (Gc 3 Ux I g) g) λu g=>Aa (Ad k false (Bs u 0 g) g) λn g=>Aa (Ad k false (Ae (some none) n g) g) λX g=>Aa (Ad k false (Aj prog .neq 3 true X (iI 2) g) g) λR g=>Aa (Ad j true (Bo k uz R g) g) λT g=>Aa (Ad j true (.ok T g) g) λl g=>Aa (Ad l false (.ok t13 g) g) λW g=>Aa (Ad l false (Aj prog .add 3 true W fg g) g) λF g=>Aa (Ad l false (.ok t0 g) g) λC g=>Aa (Ad l false (Fo C g) g) λo g=>Aa (Ad l false (Aj prog .geq 3 false F o g) g) λO g=>Aa (Ad j true (Bo l uz O g) g) λU g=>Aa (Ad j true (.ok U g) g) λe g=>Aa (Ad e false (.ok t0 g) g) λz g=>Aa (Ad e false (.ok t13 g) g) λv59 g=>Aa (Ad e false (Aj prog .add 3 true v59 fg g) g) λy g=>Aa (Ad e false (Gc 3 z y g) g) λv61 g=>Aa (Ad e false (Bs v61 0 g) g) λD g=>Aa (Ad e false (Ae (some none) D g) g) λM g=>Aa (Ad e false (Aj prog .neq 3 true M (iI 9) g) g) λP g=>Aa (Ad e false (.ok P g) g) λc g=>Aa (Ad c true (.ok t0 g) g) λq g=>Aa (Ad c true (.ok t13 g) g) λs g=>Aa (Ad c true (Aj prog .add 3 true s fg g) g) λS g=>Aa (Ad c true (Gc 3 q S g) g) λQ g=>Aa (Ad c true (Bs Q 0 g) g) λv70 g=>Aa (Ad c true (Ae (some none) v70 g) g) λJ g=>Aa (Ad c true (Aj prog .neq 3 true J (iI 10) g) g) λY g=>Aa (Ad e false (Bo c Y ux g) g) λv73 g=>Aa (Ad j true (Bo e uz v73 g) g) λA g=>Aa (Bo j A ux g) λE g=>Af E ( .ok (.Bj [.B3,ux]) g) ( Aa (Ae (some (some 3)) i g) λv76 g=>Aa (Z.call 85 [t6,v76] g) λB g=>Aa (Qe .not B g) λp g=>Af p ( .ok (.Bj [.B3,ux]) g) ( Aa (Aj prog .add 3 true t13 fg g) λL g=>Alg Z N n1 t0 t1 t6 t11 t12 L (fz f0 [255,14,15,16,17,8,7,18,19,20,21,22,23,24,25,26,27,28,29,30,31,32,33,34,35,36,37,38,39,40,41,42,43,44,45,46,47,48,49,50,51,52,53,54,55,56,57,58,59,60,61,62,63,64,65,66,67,68,69,70,71,72,73,74,75,76,77,78,79,80,81,82,83,84,85,86,87,88,89,90,91,92,93,94,95,96] [fl,v1,t13,v2,v3,i,t13,v6,v7,m,m,v9,G,t,d,d,E0,Er,D5,w,Gq,Ht,H7,x,a,a,Jw,Jm,r,V,Lj,M3,v28,Po,f,K,Ry,Pp,Zf,Vx,Qp,v37,j,j,Vj,v,k,Ux,Xk,I,u,n,X,R,T,l,W,F,C,o,O,U,e,z,v59,y,v61,D,M,P,c,q,s,S,Q,v70,J,Y,v73,A,E,t6,v76,B,p,L]) g)))) ( Aa (Fu t6 g) λv80 g=>Aa (Bs v80 0 g) λv81 g=>Aa (Ae (some none) v81 g) λv82 g=>Aa (Fo v82 g) λv83 g=>Aa (Aj prog .neq 3 true v83 fg g) λb g=>Aa (Ad b false (.ok t6 g) g) λv85 g=>Aa (Ad b false (Fu v85 g) g) λv86 g=>Aa (Ad b false (Bs v86 0 g) g) λv87 g=>Aa (Ad b false (Ae (some none) v87 g) g) λv88 g=>Aa (Ad b false (Gc 1 v88 ff g) g) λv89 g=>Aa (Ad b false (Ae (some none) v89 g) g) λv90 g=>Aa (Ad b false (Z.call 86 [v90] g) g) λv91 g=>Aa (Ad b false (.ok t1 g) g) λv92 g=>Aa (Ad b false (Aj prog .neq 4 false v91 v92 g) g) λv93 g=>Aa (Bo b uz v93 g) λv94 g=>Af v94 ( .ok (.Bj [.B3,ux]) g) ( Aa (Fu t6 g) λv95 g=>Aa (Bs v95 0 g) λv96 g=>Aa (Ae (some none) v96 g) λv97 g=>Aa (Gc 1 v97 ff g) λv98 g=>Aa (Ae (some none) v98 g) λv99 g=>.ok (.Bj [v99,uz]) g)):=kr
def e28:mr Z N 51 [a0,a1] h=Aa (Oy 138 (.agg [.Bv]) h) λa g=>Aa (Fo a0 g) λb g=>Alg Z N N a0 a1 a a0 b ff (fz Az [4,5,9,10] [.B3,ux,.agg [.Bv],a]) g:=kr
variable (Z:Ac)(N n1:Nat)(a0 a1 t0 t1 t6 t7 t11 t12 t13 t27 t28 t29:AV)(f0:L2)(h:H)
def CbB:mr Z N 157 [a0] h=(Qj .eql 136 true a0 .Bv λb=>mC b (.ok .Bv) (fx 90 1 0 [] [] λa=>gm 90 1 16 a a0 λc=>.ok c)) h:=kr
def Bto:KT:=Lk (cB 120 [1,1,1,1,1] true Z N j0 (fi Z 120))
def Btp:Nat->KT:=E4 0 (Bto Z N) j0
def Btq:KT->KT:=cB 120 [1,1,1,1,0,1,0,0] true Z N (Btp Z N)
def A64:OR:=F2 (Btq Z N) n1 (fz f0 [255,0,1,6,7,27,28,29] [.Bj [],t0,t1,t6,t7,t27,t28,t29]) h
def BeG:A64 Z N (n1+1) t0 t1 t6 t7 t27 t28 t29 f0 h=(Pj t29 t28 λi=>mC i (Qw 1 t27 t29 λe=>ga e λa b=>Al (Ab b) (Z.call 86 [a] (Ab b)) λk=>qP (Gc 1 t1 t29) λj=>qQ (lN j) λf=>qQ (bo .neq 4 false k f) λm g=>Af m (.ok (.Bj [.Bv,ux]) (Be b.lg g)) (Aa (bo .add 3 true t29 fg (Be b.lg g)) λl=>A64 Z N n1 t0 t1 t6 t7 t27 t28 l (fz f0 [255,30,31,32,33,8,9,34,35,36,37,38,39,40,41] [fl,i,t29,e,a,t29,a,a,k,t1,t29,j,f,m,l]))) (fv t0 λq=>mL q 0 λn c=>Pd prog 136 c none (some t6) λd=>fv t0 λo=>Qk o 0 λp=>fp 1 p d λr=>.ok (.Bj [t7,uz]))) h:=kr
def Cb9:mr Z N 120 [a0,a1] h=(fv a0 λf=>mL f 0 λm e=>Qn e λi=>Qn a1 λg=>Qj .sub 3 false i g λb=>ie b ff λk=>mC k (.ok (.Bj [.Bv,ux])) (fv a0 λj=>mL j 0 λn c=>Pd prog 136 c (some b) none λd=>fm Z 157 [d] λa=>Qn a λl=>A64 Z N N a0 a1 b a a l ff (fz Az [4,5,10,11,12,13,14,15,16,17,18,19,20,21,22,23,24,25,26] [.Bv,ux,a0,f,m,e,i,a1,g,b,b,k,a0,j,n,c,b,d,a]))) h:=kr
def B30:KT:=Lk (cB 51 [1,1,1] true Z N j0 (fi Z 51))
def B33:Nat->KT:=E4 0 (B30 Z N) j0
def B37:KT->KT:=cB 51 [1,1,0,1,0,0] true Z N (B33 Z N)
def Baq:OR:=F2 (B37 Z N) n1 (fz f0 [255,0,1,6,11,12,13] [.Bj [],t0,t1,t6,t11,t12,t13]) h
def Bhl:Baq Z N (n1+1) t0 t1 t6 t11 t12 t13 f0 h=(Pj t13 t12 λv1=>mC v1 (Qw 3 t11 t13 λv2=>gj 3 v2 λv3=>fy (cz [ff,ff,fk] 64) λe=>fp 3 e v3 λv5=>mL e 0 λv6 v7=>ie v7 fg λs=>mV s false e 0 λv9 C=>mW s false (bo .gtr 3 true C (iI 17)) λq=>ft s uz q λd=>mV d false e 1 λE0 Er=>mW d false (bo .neq 3 true Er ff) λD5=>mW d false (.ok D5) λF9=>mV F9 true e 0 λGq Ht=>mW F9 true (bo .neq 3 true Ht fg) λH7=>mW d false (Bo F9 H7 ux) λu=>ft d uz u λa=>mV a false e 2 λJw Jm=>mW a false (bo .neq 9 true Jm fk) λo=>mW a false (.ok o) λMb=>mV Mb true e 0 λLj M3=>mW Mb true (bo .neq 3 true M3 (iI 2)) λT=>mW a false (Bo Mb T ux) λPo=>mW a false (.ok Po) λi=>mV i true e 0 λv31 Ry=>mW i true (bo .neq 3 true Ry (iI 3)) λPp=>mW a false (Bo i Pp ux) λZf=>ft a uz Zf λVx=>mC Vx (.ok (.Bj [.B3,ux])) (mL e 0 λQp V=>fw V (iI 3) λf=>mW f true (.ok t13) λVj=>mW f true (bo .eql 3 true Vj ff) λt=>mW f true (.ok t) λj=>mW j false (.ok t0) λUx=>mW j false (.ok t13) λXk=>mW j false (bo .sub 3 true Xk fg) λD=>mW j false (Gc 3 Ux D) λr=>mV j false r 0 λv46 R=>mW j false (bo .neq 3 true R (iI 2)) λL=>mW f true (Bo j uz L) λO=>mW f true (.ok O) λk=>mW k false (.ok t13) λQ=>mW k false (bo .add 3 true Q fg) λB=>mW k false (.ok t0) λz=>mW k false (Fo z) λl=>mW k false (bo .geq 3 false B l) λI=>mW f true (Bo k uz I) λP=>mW f true (.ok P) λg=>mW g false (.ok t0) λw=>mW g false (.ok t13) λU=>mW g false (bo .add 3 true U fg) λv=>mW g false (Gc 3 w v) λW=>mV g false W 0 λv62 G=>mW g false (bo .neq 3 true G (iI 9)) λJ=>mW g false (.ok J) λc=>mW c true (.ok t0) λn=>mW c true (.ok t13) λp=>mW c true (bo .add 3 true p fg) λM=>mW c true (Gc 3 n M) λK=>mV c true K 0 λv70 E=>mW c true (bo .neq 3 true E (iI 10)) λS=>mW g false (Bo c S ux) λX=>mW f true (Bo g uz X) λx=>ft f x ux λA=>mC A (.ok (.Bj [.B3,ux])) (gj 3 e λY=>fm Z 85 [t6,Y] λy=>gu .not y λm=>mC m (.ok (.Bj [.B3,ux])) (Pz t13 fg λF=>Baq Z N n1 t0 t1 t6 t11 t12 F (fz f0 [255,14,15,16,17,8,7,18,19,20,21,22,23,24,25,26,27,28,29,30,31,32,33,34,35,36,37,38,39,40,41,42,43,44,45,46,47,48,49,50,51,52,53,54,55,56,57,58,59,60,61,62,63,64,65,66,67,68,69,70,71,72,73,74,75,76,77,78,79,80,81,82,83,84,85,86,87,88,89,90,91,92,93,94,95,96] [fl,v1,t13,v2,v3,e,t13,v6,v7,s,s,v9,C,q,d,d,E0,Er,D5,F9,Gq,Ht,H7,u,a,a,Jw,Jm,o,Mb,Lj,M3,T,Po,i,v31,Ry,Pp,Zf,Vx,Qp,V,f,f,Vj,t,j,Ux,Xk,D,r,v46,R,L,O,k,Q,B,z,l,I,P,g,w,U,v,W,v62,G,J,c,n,p,M,K,v70,E,S,X,x,A,t6,Y,y,m,F]))))) (fv t6 λv80=>mL v80 0 λv81 v82=>Qn v82 λv83=>Qj .neq 3 true v83 fg λb=>mW b false (.ok t6) λv85=>mW b false (Fu v85) λv86=>mV b false v86 0 λv87 v88=>mW b false (Gc 1 v88 ff) λv89=>mW b false (lN v89) λv90=>mW b false (Z.call 86 [v90]) λv91=>mW b false (.ok t1) λv92=>mW b false (bo .neq 4 false v91 v92) λv93=>ft b uz v93 λv94=>mC v94 (.ok (.Bj [.B3,ux])) (fv t6 λv95=>mL v95 0 λv96 v97=>Qw 1 v97 ff λv98=>ga v98 λv99=>.ok (.Bj [v99,uz])))) h:=kr
def q28:mr Z N 51 [a0,a1] h=(Pn 138 (.agg [.Bv]) λa=>Qn a0 λb=>Baq Z N N a0 a1 a a0 b ff (fz Az [4,5,9,10] [.B3,ux,.agg [.Bv],a])) h:=kr
def q63:Ay prog Z N false 85 [a0,a1] h=(Pn 64 a1 λc=>mL c 0 λv2 v3=>Qj .leq 3 true v3 (iI 3) λv4 R=>Af v4 (Aa (Fu a0 (Ab R)) λv5 h5=>Aa (Bs v5 0 (Ab h5)) λv6 h6=>Aa (lN v6 (Ab h6)) λv7 h7=>Aa (lS 3 c (Ab h7)) λv8 h8=>Aa (B7 [ff,ff,fk] [(0,3,v8)] (Ab h8)) λv9 h9=>Aa (Bh 90 1 1 [.B3] [(0,1,.I6 142 v9)] (Ab h9)) λv10 Fh=>Aa (Ds 90 1 16 v7 v10 (Ab Fh)) λv11 Kc=>Aa (Fu a0 (Ab Kc)) λv12 Gd=>Aa (Bs v12 0 (Ab Gd)) λE0 It=>Aa (A4 1 E0 v11 (Ab It)) λEr g=>Ff R.lg [eW 4096 4095 .all It g,eW 2048 2047 .none Gd It,eW 1024 1023 .none Kc Gd,eW 512 510 .all Fh Kc,eW 256 224 .none (Ab h9) Fh,eZ 128 96 .none h9,eW 64 32 .none h8 h9,eW 32 0 (Bn (some (some 3)) c) h7 h8,eW 16 14 (Bn (some none) v6) h6 h7,eW 8 6 .none h5 h6,eW 4 2 .none (Ab R) h5,eZ 2 0 .none (Ab R),eZ 1 0 .none R] g λMt=>.ok uz Mt) (Aa (Bs c 0 R) λF9=>ga F9 λGq=>fw Gq (iI 7) λHt=>mV Ht false c 0 λH7 v20=>mW Ht false (bo .eql 3 true v20 (iI 17)) λv21=>ft Ht uz v21 λJw=>mC Jw (mL c 0 λJm v24=>fw v24 (iI 17) λMb=>fx 4 1 1 [ux] [(0,1,Mb)] λLj=>fm Z 120 [a0,Lj] λM3=>fq M3 0 λv28=>fq M3 1 λPo Q=>Af Po (Aa (Fu a0 (Ab Q)) λv30 J3=>Aa (Bs v30 0 (Ab J3)) λv31 N7=>Aa (lN v31 (Ab N7)) λRy D=>Aa (Bs c 0 (Ab D)) λPp W3=>Aa (lN Pp (Ab W3)) λZf d=>Aa (Gc 1 v28 ff (Ab d)) λVx K=>Aa (lN Vx (Ab K)) λQp Zz=>Aa (B7 [ff,.B3] [(0,1,Zf),(1,1,Qp)] (Ab Zz)) λv37 k=>Aa (Bh 90 1 1 [.B3] [(0,1,.I6 144 v37)] (Ab k)) λRz Fg=>Aa (Ds 90 1 16 Ry Rz (Ab Fg)) λVj U9=>Aa (Fu a0 (Ab U9)) λv40 Va=>Aa (Bs v40 0 (Ab Va)) λW6 We=>Aa (A4 1 W6 Vj (Ab We)) λUx g=>Ff Q.lg [eW 65536 65535 .all We g,eW 32768 32767 .none Va We,eW 16384 16383 .none U9 Va,eW 8192 8190 .all Fg U9,eW 4096 4064 .none (Ab k) Fg,eZ 2048 2016 .none k,eW 1024 992 .none Zz k,eW 512 384 (Bn (some none) Vx) K Zz,eW 256 128 .none (Ab d) K,eZ 128 0 .none d,eW 64 32 (Bn (some none) Pp) W3 d,eW 32 0 .none D W3,eW 16 14 (Bn (some none) v31) N7 D,eW 8 6 .none J3 N7,eW 4 2 .none (Ab Q) J3,eZ 2 0 .none (Ab Q),eZ 1 0 .none Q] g λh43=>.ok Po h43) (.ok Po Q)) (mL c 0 λv44 v45=>fw v45 (iI 8) λv46=>mC v46 (fx 4 1 3 [ux,ux,ux] [(0,1,uz),(1,1,ux),(2,1,ux)] λv47=>fm Z 120 [a0,v47] λv48=>fq v48 0 λI=>fq v48 1 λQ8 b=>Af Q8 (Aa (Fu a0 (Ab b)) λv51 q=>Aa (Bs v51 0 (Ab q)) λY J=>Aa (lN Y (Ab J)) λv53 n=>Aa (Gc 1 I ff (Ab n)) λS u=>Aa (lN S (Ab u)) λv55 i=>Aa (Gc 1 I fg (Ab i)) λv56 o=>Aa (lN v56 (Ab o)) λVy f=>Aa (Gc 1 I (iI 2) (Ab f)) λV y=>Aa (lN V (Ab y)) λv59 C=>Aa (B7 [.B3,.B3,.B3] [(0,1,v55),(1,1,Vy),(2,1,v59)] (Ab C)) λv60 e=>Aa (Bh 90 1 1 [.B3] [(0,1,.I6 151 v60)] (Ab e)) λv61 L=>Aa (Ds 90 1 16 v53 v61 (Ab L)) λv62 t=>Aa (Fu a0 (Ab t)) λv63 F=>Aa (Bs v63 0 (Ab F)) λv64 A=>Aa (A4 1 v64 v62 (Ab A)) λv65 g=>Ff b.lg [eW 1048576 1048575 .all A g,eW 524288 524287 .none F A,eW 262144 262143 .none t F,eW 131072 131070 .all L t,eW 65536 65504 .none (Ab e) L,eZ 32768 32736 .none e,eW 16384 16352 .none C e,eW 8192 6144 (Bn (some none) V) y C,eW 4096 2048 .none (Ab f) y,eZ 2048 0 .none f,eW 1024 768 (Bn (some none) v56) o f,eW 512 256 .none (Ab i) o,eZ 256 0 .none i,eW 128 96 (Bn (some none) S) u i,eW 64 32 .none (Ab n) u,eZ 32 0 .none n,eW 16 14 (Bn (some none) Y) J n,eW 8 6 .none q J,eW 4 2 .none (Ab b) q,eZ 2 0 .none (Ab b),eZ 1 0 .none b] g λh66=>.ok Q8 h66) (.ok Q8 b)) (mL c 0 λv67 v68=>fw v68 (iI 15) λE=>mV E false c 0 λv70 v71=>mW E false (bo .eql 3 true v71 (iI 16)) λv72=>ft E uz v72 λv73=>fx 4 1 2 [ux,ux] [(0,1,v73),(1,1,v73)] λv74=>fm Z 120 [a0,v74] λX=>fq X 0 λv76=>fq X 1 λw a=>Af w (Aa (Fu a0 (Ab a)) λv78 O=>Aa (Bs v78 0 (Ab O)) λv79 p=>Aa (lN v79 (Ab p)) λv80 B=>Aa (Bs c 0 (Ab B)) λW P=>Aa (lN W (Ab P)) λv82 l=>Aa (Gc 1 v76 ff (Ab l)) λU G=>Aa (lN U (Ab G)) λv84 m=>Aa (Gc 1 v76 fg (Ab m)) λT M=>Aa (lN T (Ab M)) λv86 x=>Aa (B7 [ff,.B3,.B3] [(0,1,v82),(1,1,v84),(2,1,v86)] (Ab x)) λv87 j=>Aa (Bh 90 1 1 [.B3] [(0,1,.I6 149 v87)] (Ab j)) λv88 s=>Aa (Ds 90 1 16 v80 v88 (Ab s)) λv89 r=>Aa (Fu a0 (Ab r)) λv90 z=>Aa (Bs v90 0 (Ab z)) λv91 v=>Aa (A4 1 v91 v89 (Ab v)) λv92 g=>Ff a.lg [eW 524288 524287 .all v g,eW 262144 262143 .none z v,eW 131072 131071 .none r z,eW 65536 65534 .all s r,eW 32768 32736 .none (Ab j) s,eZ 16384 16352 .none j,eW 8192 8160 .none x j,eW 4096 3072 (Bn (some none) T) M x,eW 2048 1024 .none (Ab m) M,eZ 1024 0 .none m,eW 512 384 (Bn (some none) U) G m,eW 256 128 .none (Ab l) G,eZ 128 0 .none l,eW 64 32 (Bn (some none) W) P l,eW 32 0 .none B P,eW 16 14 (Bn (some none) v79) p B,eW 8 6 .none O p,eW 4 2 .none (Ab a) O,eZ 2 0 .none (Ab a),eZ 1 0 .none a] g λh93=>.ok w h93) (.ok w a))))) h:=kr
variable (Z:Ac)(N n1:Nat)(a0 a1 t0 t1 t5:AV)(f0:L2)(h:H)
def e12:mr Z N 7 [a0,a1] h=(Pn 27 a0 λa=>Pn 27 a1 λb=>mL a 1 λv3 v4=>mL b 1 λv5 v6=>fm Z 23 [v4,v6] λv7=>gu .not v7 λp=>mV p false a 17 λv9 Q=>mV p false b 17 λv11 v12=>mW p false (Z.call 23 [Q,v12]) λE0=>mW p false (Qe .not E0) λEr=>ft p uz Er λo=>mV o false a 8 λF9 Gq=>mV o false b 8 λHt H7=>mW o false (Z.call 24 [Gq,H7]) λG=>mW o false (Qe .not G) λw=>ft o uz w λJw=>mC Jw (.ok ux) (mL a 0 λJm z=>mL b 0 λMb Lj=>Qj .neq 3 false z Lj λu=>mV u false a 2 λv28 Po=>mV u false b 2 λv30 T=>mW u false (bo .neq 3 false Po T) λRy=>ft u uz Ry λt=>mV t false a 3 λZf Vx=>mV t false b 3 λQp v37=>mW t false (bo .neq 3 false Vx v37) λRz=>ft t uz Rz λs=>mV s false a 4 λv40 W6=>mV s false b 4 λUx Xk=>mW s false (bo .neq 3 false W6 Xk) λR=>ft s uz R λc=>mV c false a 5 λv46 v47=>mV c false b 5 λv48 v49=>mW c false (bo .neq 3 false v47 v49) λQ8=>ft c uz Q8 λk=>mV k false a 6 λv52 L=>mV k false b 6 λv54 V=>mW k false (bo .neq 9 false L V) λv56=>ft k uz v56 λr=>mV r false a 7 λv58 v59=>mV r false b 7 λv60 v61=>mW r false (bo .neq 3 false v59 v61) λO=>ft r uz O λf=>mV f false a 9 λv64 x=>mV f false b 9 λv66 C=>mW f false (bo .neq 3 false x C) λv68=>ft f uz v68 λg=>mV g false a 10 λv70 S=>mV g false b 10 λv72 v73=>mW g false (bo .neq 4 false S v73) λJ=>ft g uz J λP=>mC P (.ok ux) (mL a 11 λv76 K=>mL b 11 λv78 U=>Qj .eql 9 false K U λm=>mV m true a 12 λv81 M=>mV m true b 12 λv83 v84=>mW m true (bo .eql 3 false M v84) λB=>ft m B ux λd=>mV d true a 13 λv87 Y=>mV d true b 13 λv89 v90=>mW d true (bo .eql 9 false Y v90) λv91=>ft d v91 ux λn=>mV n true a 14 λv93 E=>mV n true b 14 λv95 X=>mW n true (bo .eql 9 false E X) λF=>ft n F ux λj=>mV j true a 15 λv99 B3K=>mV j true b 15 λCbO A=>mW j true (bo .eql 9 false B3K A) λD=>ft j D ux λl=>mV l true a 16 λv105 I=>mV l true b 16 λv107 y=>mW l true (bo .eql 3 false I y) λq=>ft l q ux λe=>mV e true a 18 λCbP B3P=>mV e true b 18 λCbQ B3Q=>mW e true (bo .eql 25 false B3P B3Q) λv=>ft e v ux λi=>mV i true a 19 λv117 B3S=>mV i true b 19 λCbR W=>mW i true (bo .eql 3 false B3S W) λB3U=>ft i B3U ux λB3V=>.ok B3V))) h:=kr
def Bul:KT:=Lk (cB 23 [1,1,1] true Z N j0 (fi Z 23))
def Bum:Nat->KT:=E4 0 (Bul Z N) j0
def Bun:KT->KT:=cB 23 [1,1,0,1,0,0] true Z N (Bum Z N)
def Bdm:OR:=F2 (Bun Z N) n1 (fz f0 [255,0,1,5] [.Bj [],t0,t1,t5]) h
def Bao:Bdm Z N (n1+1) t0 t1 t5 f0 h=(Qn t0 λe=>Pj t5 e λc a=>Af c (Al (Ab a) (Gc 3 t0 t5 (Ab a)) λb=>qQ (lS 3 b) λi=>qP (Gc 3 t1 t5) λf=>qQ (lS 3 f) λd=>qQ (bo .neq 64 false i d) λk g=>Af k (.ok ux (Be a.lg g)) (Aa (bo .add 3 true t5 fg (Be a.lg g)) λj=>Bdm Z N n1 t0 t1 j (fz f0 [255,11,12,13,14,17,18,19,20,21,22,23,24,25,15,16] [fl,t5,t0,e,c,t0,t5,b,i,t1,t5,f,d,k,t5,j]))) (.ok uz a)) h:=kr
def e33:mr Z N 23 [a0,a1] h=(Qn a0 λb=>Qn a1 λa=>Qj .neq 3 false b a λc=>mC c (.ok ux) (Bdm Z N N a0 a1 ff (fz Az [4,6,7,8,9,10] [ux,a0,b,a1,a,c]))) h:=kr
def Buo:KT:=Lk (cB 24 [1,1,1] true Z N j0 (fi Z 24))
def Bup:Nat->KT:=E4 0 (Buo Z N) j0
def Buq:KT->KT:=cB 24 [1,1,0,1,0,0] true Z N (Bup Z N)
def Bdn:OR:=F2 (Buq Z N) n1 (fz f0 [255,0,1,5] [.Bj [],t0,t1,t5]) h
def Bap:Bdn Z N (n1+1) t0 t1 t5 f0 h=(Qn t0 λe=>Pj t5 e λc a=>Af c (Al (Ab a) (Gc 2 t0 t5 (Ab a)) λb=>qQ (lS 2 b) λi=>qP (Gc 2 t1 t5) λf=>qQ (lS 2 f) λd=>qQ (bo .neq 66 false i d) λk g=>Af k (.ok ux (Be a.lg g)) (Aa (bo .add 3 true t5 fg (Be a.lg g)) λj=>Bdn Z N n1 t0 t1 j (fz f0 [255,11,12,13,14,17,18,19,20,21,22,23,24,25,15,16] [fl,t5,t0,e,c,t0,t5,b,i,t1,t5,f,d,k,t5,j]))) (.ok uz a)) h:=kr
def e36:mr Z N 24 [a0,a1] h=(Qn a0 λb=>Qn a1 λa=>Qj .neq 3 false b a λc=>mC c (.ok ux) (Bdn Z N N a0 a1 ff (fz Az [4,6,7,8,9,10] [ux,a0,b,a1,a,c]))) h:=kr
def e96:mr Z N 136 [a0] h=(Qj .eql 88 true a0 .Bv λb=>mC b (.ok .Bv) (fx 9 1 0 [] [] λa=>gm 9 1 16 a a0 λc=>.ok c)) h:=kr
variable (Z:Ac)(N n1:Nat)(a0 a1 t0 t1 t7 t8:AV)(f0:L2)(h:H)
def Bjv:mr Z N 83 [a0,a1] h=(fm Z 119 [a0,a1] λb=>ik b ff λa=>.ok a) h:=kr
def Bcc:KT:=Lk (cB 119 [1,1] true Z N j0 (fi Z 119))
def Bce:Nat->KT:=E4 0 (Bcc Z N) j0
def Bcf:KT->KT:=cB 119 [1,0,1,0,0] true Z N (Bce Z N)
def Asv:OR:=F2 (Bcf Z N) n1 (fz f0 [255,0,1,7,8] [.Bj [],t0,t1,t7,t8]) h
def Ays:Asv Z N (n1+1) t0 t1 t7 t8 f0 h=(Pj t8 t7 λc=>mC c (Qw 1 t0 t8 λb=>ga b λa=>Qj .eql 9 false t1 a λd=>mC d (.ok t8) (Pz t8 fg λe=>Asv Z N n1 t0 t1 t7 e (fz f0 [255,9,10,5,11,12,13,14,15,16,18] [fl,c,t8,t8,t1,t0,t8,b,a,d,e]))) (.ok (iI (-1)))) h:=kr
def Bj7:mr Z N 119 [a0,a1] h=(Qn a0 λa=>Asv Z N N a0 a1 a ff (fz Az [4,6] [ff,a0])) h:=kr
variable (Z:Ac)(N n1:Nat)(a0 a1 t0 t1 t6 t7 t8 t26 t27:AV)(f0:L2)(h:H)
def BbP:KT:=Lk (cB 100 [1,1,1] true Z N j0 (fi Z 100))
def BbQ:Nat->KT:=E4 0 (BbP Z N) j0
def BbR:KT->KT:=cB 100 [1,1,0,1,0,0] true Z N (BbQ Z N)
def ArU:OR:=F2 (BbR Z N) n1 (fz f0 [255,0,26,27] [.Bj [],t0,t26,t27]) h
def Ayn:ArU Z N (n1+1) t0 t26 t27 f0 h=(Pj t27 t26 λp=>mC p (mM (xIx prog .str t0 t27) λa=>Qj .lss 5 true a (cw 97) λd=>mW d false (.ok a) λs=>mW d false (bo .gtr 5 true s (cw 122)) λt=>ft d uz t λb=>mW b true (.ok a) λq=>mW b true (bo .lss 5 true q (cw 48)) λr=>mW b true (.ok r) λi=>mW i false (.ok a) λc=>mW i false (bo .gtr 5 true c (cw 57)) λg=>mW b true (Bo i uz g) λe=>ft b e ux λf=>mW f true (.ok a) λn=>mW f true (bo .neq 5 true n (cw 95)) λm=>ft f m ux λk=>mC k (.ok ux) (Pz t27 fg λo=>ArU Z N n1 t0 t26 o (fz f0 [255,28,29,3,30,31,32,4,33,34,35,36,37,38,39,40,41,42,43,44,45,46,47,48,49,50,51] [fl,p,t27,t27,t0,t27,a,a,a,d,d,s,t,b,b,q,r,i,c,g,e,f,f,n,m,k,o]))) (Pd prog 197 (.ptr 0 0) none none λu=>fm Z 138 [u,t0] λl=>fq l 0 λv=>fq l 1 λj=>gu .not j λw=>.ok w)) h:=kr
def Bj2:mr Z N 100 [a0] h=(Qx a0 λj=>ie j fg λb=>mW b false (.ok a0) λi=>mW b false (lnS i) λl=>mW b false (bo .gtr 3 true l (iI 20)) λk=>ft b uz k λc=>mW c false (.ok a0) λo=>mW c false (xIx prog .str o ff) λm=>mW c false (bo .lss 5 true m (cw 97)) λn=>ft c uz n λa=>mW a false (.ok a0) λd=>mW a false (xIx prog .str d ff) λe=>mW a false (bo .gtr 5 true e (cw 122)) λg=>ft a uz g λf=>mC f (.ok ux) (Qx a0 λp=>ArU Z N N a0 p ff (fz Az [2,7,8,9,10,11,12,13,14,15,16,17,18,19,20,21,22,23,24,25] [ux,a0,j,b,b,i,l,k,c,c,o,m,n,a,a,d,e,g,f,a0]))) h:=kr
def Bcg:KT:=Lk (cB 138 [1,1,1,1] true Z N j0 (fi Z 138))
def Bch:Nat->KT:=E4 0 (Bcg Z N) j0
def Bci:KT->KT:=cB 138 [1,1,1,0,0,0] true Z N (Bch Z N)
def Anb:OR:=F2 (Bci Z N) n1 (fz f0 [255,0,1,6,7,8] [.Bj [],t0,t1,t6,t7,t8]) h
def Ayt:Anb Z N (n1+1) t0 t1 t6 t7 t8 f0 h=(Pj t7 t8 λj=>mC j (ig t7 t8 λo=>Pu .u64 o λe=>Qj .shr 222 true e (cn 1) λp=>Pu .i64 p λb=>Qw 1 t0 b λg=>ga g λk=>fm Z 165 [k,t1] λn=>mC n (Pz b fg λs=>Anb Z N n1 t0 t1 t6 s t8 (fz f0 [255,13,14,15,16,17,18,19,20,21,9,22,23,24,25,26,27,28,29] [fl,t7,t8,j,t7,t8,o,e,p,b,b,t0,b,g,k,t1,n,b,s])) (Anb Z N n1 t0 t1 t6 t7 b (fz f0 [255,13,14,15,16,17,18,19,20,21,9,22,23,24,25,26,27,30] [fl,t7,t8,j,t7,t8,o,e,p,b,b,t0,b,g,k,t1,n,b]))) (Pj t7 t6 λa=>mW a true (.ok t0) λr=>mW a true (.ok t7) λf=>mW a true (Gc 1 r f) λz=>mW a true (lN z) λy=>mW a true (.ok t1) λv=>mW a true (bo .eql 9 false y v) λt=>mW a true (.ok t) λc=>mW c false (.ok t0) λw=>mW c false (.ok t7) λu=>mW c false (Gc 1 w u) λi=>mW c false (lN i) λd=>mW c false (Z.call 166 [d]) λC=>mW c false (.ok C) λq=>mW q true (.ok t1) λl=>mW q true (Z.call 166 [l]) λB=>mW c false (Bo q B ux) λA=>mW a true (Bo c uz A) λx=>ft a x ux λm=>.ok (.Bj [t7,m]))) h:=kr
def BjB:mr Z N 138 [a0,a1] h=(Qn a0 λa=>Anb Z N N a0 a1 a ff a (fz Az [4,5,10,11,12] [ff,ux,a0,a,a])) h:=kr
def BjF:mr Z N 165 [a0,a1] h=(fm Z 163 [a0] λa=>mW a true (.ok a1) λd=>mW a true (Z.call 163 [d]) λc=>mW a true (Qe .not c) λf=>ft a f ux λb=>mW b false (.ok a0) λe=>mW b false (.ok a1) λj=>mW b false (bo .lss 9 false e j) λg=>ft b uz g λi=>.ok i) h:=kr
def BjG:mr Z N 166 [a0] h=(Qj .neq 9 false a0 a0 λa=>.ok a) h:=kr
end Go.Proofs
