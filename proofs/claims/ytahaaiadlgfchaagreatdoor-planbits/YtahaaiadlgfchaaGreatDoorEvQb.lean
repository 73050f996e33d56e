/- Equations of functions -/
import Derived.Test.YtahaaiadlgfchaaGreatDoorEvG
import Derived.Test.YtahaaiadlgfchaaGreatDoorProg
set_option linter.all false
set_option maxRecDepth 100000
noncomputable section
namespace Go.Proofs
open Go Go.Ev Tryz
def fi(Z:Ac)(g:FuncId):KT:=Bz prog Z (As prog g)
def j0:Nat->KT:=λ_ _ _=>.bad 406
def cB(g:FuncId)(p:uw)(q:Bool)(Z:Ac)(N:Nat)(j:Nat->KT)(k:KT):KT:=xc (sub (Bc prog g) p) prog Z N q j (fi Z g) k
def fz(f:L2)(a:uw)(b:uz):L2:=fr f (a.zip b)
@[simp] noncomputable abbrev eW(i p:Nat)(r:RS)(h h1:H):EF:=⟨i,p,wrote h.nx h1.lg,r,h,h1⟩
@[simp] noncomputable abbrev eZ(i p:Nat)(r:RS)(h:H):EF:=⟨i,p,[],r,h,h⟩
def kr{α:Type}{a b:α}(h:a=b:=by kernel_rfl):a=b:=h
abbrev iI(n:Int):AV:=.int .i64 n
abbrev ff:=iI 0
abbrev fg:=iI 1
abbrev fh:AV:=.bool false
abbrev fj:AV:=.bool true
abbrev fk:AV:=.str []
abbrev Ef:AV:=.Bj []
abbrev ml(Z:Ac)(N:Nat):=Ay prog Z N true
abbrev lN(x:AV)(h:H):OR:=Ae (some none) x h
abbrev lS(n:Nat)(x:AV)(h:H):OR:=Ae (some (some n)) x h
abbrev bo(o:BinOp)(t:TypeId)(c:Bool)(x y:AV)(h:H):OR:=Aj prog o t c x y h
abbrev al(o:AO)(h:H):OR:=mk h o (.ptr h.nx 0)
abbrev mM(f:H->OR)(k:AV->H->OR)(h:H):OR:=Aa (f h) k
abbrev fm(Z:Ac)(g:FuncId)(l:List AV)(k:AV->H->OR)(h:H):OR:=mM (Z.call g l) k h
abbrev mW(x:AV)(b:Bool)(f:H->OR)(k:AV->H->OR)(h:H):OR:=Aa (Ad x b (f h) h) k
abbrev mL(x:AV)(i:Nat)(k:AV->AV->H->OR)(h:H):OR:=Aa (Bs x i h) λa h=>Aa (Ae (some none) a h) λb h=>k a b h
abbrev mV(c:AV)(w:Bool)(x:AV)(i:Nat)(k:AV->AV->H->OR)(h:H):OR:=Aa (Ad c w (Bs x i h) h) λa h=>Aa (Ad c w (Ae (some none) a h) h) λb h=>k a b h
abbrev mC(x:AV)(a b:H->OR)(h:H):OR:=Af x (a h) (b h)
abbrev Qj a b c d e k h:=mM (bo a b c d e) k h
abbrev fq a b k h:=mM (L9 a b) k h
abbrev fp a b c k h:=mM (A4 a b c) k h
abbrev Eg a b k h:=mM (Oy a b) k h
abbrev ft a b c k h:=mM (Bo a b c) k h
abbrev Eh a k h:=mM (Fo a) k h
abbrev gj a b k h:=mM (lS a b) k h
abbrev Ek a b k h:=mM (Bs a b) k h
abbrev ga a k h:=mM (lN a) k h
abbrev fy a k h:=mM (al a) k h
abbrev Db a b k h:=mM (B7 a b) k h
abbrev Qw a b c k h:=mM (Gc a b c) k h
abbrev Dc a b k h:=mM (bo .add 3 true a b) k h
abbrev fv a k h:=mM (Fu a) k h
abbrev fw a b k h:=mM (bo .eql 3 true a b) k h
abbrev fx a b c d e k h:=mM (Bh a b c d e) k h
abbrev Pj a b k h:=mM (bo .lss 3 false a b) k h
abbrev gu a b k h:=mM (Qe a b) k h
abbrev ib a b k h:=mM (bo .sub 3 true a b) k h
abbrev Qx a k h:=mM (lnS a) k h
abbrev gm a b c d e k h:=mM (Ds a b c d e) k h
abbrev ie a b k h:=mM (bo .lss 3 true a b) k h
abbrev Dg a b k h:=mM (bo .neq 35 true a b) k h
abbrev Di a b c d e k h:=mM (xSl a b c d e) k h
abbrev ij a b k h:=mM (bo .gtr 3 true a b) k h
abbrev Dm a b k h:=mM (A6r a b) k h
abbrev Dv a b c d k h:=mM (cvV a b c d) k h
abbrev ik a b k h:=mM (bo .geq 3 true a b) k h
abbrev ig a b k h:=mM (bo .add 3 false a b) k h
abbrev gi a b c d e f k h:=mM (As5 a b c d e f) k h
abbrev Dz a b k h:=mM (bo .eql 35 true a b) k h
abbrev D9 a b k h:=mM (bo .mul 209 true a b) k h
abbrev qQ(f:H->OR)(k:AV->H->OR)(h:H):OR:=Al h (f (Ab h)) k
abbrev qP(f:H->OR)(k:AV->H->OR)(h:H):OR:=Al (Ab h) (f (Ab h)) k
abbrev qL(x:AV)(i:Nat)(k:AV->AV->H->OR)(h:H):OR:=Al h (Bs x i (Ab h)) λa h=>Al h (Ae (some none) a (Ab h)) λb h=>k a b h
abbrev wQ(x:AV)(b:Bool)(f:H->OR)(k:AV->H->OR)(h:H):OR:=Al h (Ad x b (f (Ab h)) (Ab h)) k
abbrev wP(x:AV)(b:Bool)(f:H->OR)(k:AV->H->OR)(h:H):OR:=Al (Ab h) (Ad x b (f (Ab h)) (Ab h)) k
variable (Z:Ac)(N:Nat)(a0 a1:AV)(f0:L2)(h:H)
def A78:ml Z N 120 [a0,a1] h=Aa (Z.call 158 [a0] h) λv1 g=>Aa (Z.call 158 [a1] g) λv2 g=>Af v1 ( Af v2 ( .ok ff g) ( .ok (iI (-1)) g)) ( Af v2 ( .ok fg g) ( Aa (Aj prog .lss 3 false a0 a1 g) λv3 g=>Af v3 ( .ok (iI (-1)) g) ( Aa (Aj prog .gtr 3 false a0 a1 g) λv4 g=>Af v4 ( .ok fg g) ( .ok ff g)))):=kr
def A7F:ml Z N 158 [a0] h=Aa (Aj prog .neq 3 false a0 a0 h) λv1 g=>.ok v1 g:=kr
def A7G:ml Z N 244 [a0] h=Aa (Aj prog .neq 9 false a0 a0 h) λv1 g=>.ok v1 g:=kr
variable (Z:Ac)(N n1:Nat)(a0 a1 t0 t1 t5:AV)(f0:L2)(h:H)
def e26:ml Z N 20 [a0] h=(Qj .eql 26 true a0 .Bv λv1=>mC v1 (.ok .Bv) (fx 50 3 0 [] [] λv2=>gm 50 3 32 v2 a0 λv3=>.ok v3)) h:=kr
def e27:ml Z N 21 [a0] h=(Qj .eql 27 true a0 .Bv λv1=>mC v1 (.ok .Bv) (fx 48 2 0 [] [] λv2=>gm 48 2 16 v2 a0 λv3=>.ok v3)) h:=kr
variable (Z:Ac)(N n1:Nat)(a0 a1 t0 t1 t12 t13 t91 t92 t93:AV)(f0:L2)(h:H)
def e47:ml Z N 44 [a0] h=(fv a0 λv1=>mL v1 20 λv2 v3=>fm Z 93 [v3] λv4=>fq v4 0 λa=>fq v4 1 λc=>fq v4 2 λd=>Dg a ff λb=>mC b (.ok (iI 3)) (.ok ff)) h:=kr
def Ck9:KT:=Lk (cB 45 [1,1,1,1] true Z N j0 (fi Z 45))
def CkA:Nat->KT:=E4 0 (Ck9 Z N) j0
def CkB:KT->KT:=cB 45 [1,1,1,0,1,0,0] true Z N (CkA Z N)
def Bxm:OR:=F2 (CkB Z N) n1 (fz f0 [255,91,92,93] [.Bj [],t91,t92,t93]) h
def B5n:Bxm Z N (n1+1) t91 t92 t93 f0 h=(Pj t93 t92 λv1=>mC v1 (Qw 1 t91 t93 λv2=>ga v2 λv3=>mC v3 (.ok (iI 3)) (Dc t93 fg λv4=>Bxm Z N n1 t91 t92 v4 (fz f0 [255,94,95,96,5,97,98] [Ef,v1,v2,v3,v3,v3,v4]))) (.ok ff)) h:=kr
def e48:ml Z N 45 [a0] h=(fv a0 λv1=>Ek v1 0 λv2=>gj 20 v2 λv3=>fy (cd [ff,.Bv,ff,ff,ff,ff,fk,ff,.Bv,ff,ct,fk,ff,fk,fk,fk,ff,.Bv,fk,ff] 30) λv4=>fp 20 v4 v3 λv5=>mL v4 0 λv6 v7=>ie v7 fg λY=>mV Y false v4 0 λv9 l=>mW Y false (bo .gtr 3 true l (iI 10)) λT=>ft Y ux T λp Gd=>Af p (.ok (iI 2) Gd) (Al (Ab Gd) (Z.call 94 [a0] (Ab Gd)) λE0=>qQ (Qe .not E0) λa=>wP a true (Bs v4 1) λD5=>wQ a true (lN D5) λF9=>wQ a true (Fo F9) λGq=>wQ a true (bo .gtr 3 true Gq ff) λHt=>wQ a true (.ok Ht) λq=>wQ q false (Bs v4 2) λA=>wQ q false (lN A) λn=>wQ q false (bo .neq 3 true n ff) λJw=>wQ a true (Bo q ux Jw) λJm=>wQ a true (.ok Jm) λd=>wQ d false (Bs v4 3) λMb=>wQ d false (lN Mb) λLj=>wQ d false (bo .neq 3 true Lj ff) λM3=>wQ a true (Bo d ux M3) λJ=>qQ (Bo a J ct) λPo=>qP (Bh 3 1 1 [ff] [(0,1,iI 5)]) λs=>qQ (Z.call 95 [a0,s]) λt=>qQ (Qe .not t) λf=>wP f true (Bs v4 4) λPp=>wQ f true (lN Pp) λZf=>wQ f true (bo .neq 3 true Zf ff) λVx=>wQ f true (.ok Vx) λO=>wQ O false (Bs v4 5) λM=>wQ O false (lN M) λRz=>wQ O false (bo .neq 3 true Rz ff) λVj=>wQ f true (Bo O ux Vj) λv40=>qQ (Bo f v40 ct) λW6=>qP (Bh 3 1 3 [ff,ff,ff] [(0,1,fg),(1,1,iI 2),(2,1,iI 5)]) λUx=>qQ (Z.call 95 [a0,Ux]) λj=>wP j true (Bs v4 6) λm=>wQ j true (lN m) λX=>wQ j true (bo .neq 9 true X fk) λz=>qQ (Bo j z ct) λu=>qP (Bh 3 1 1 [ff] [(0,1,iI 7)]) λE=>qQ (Z.call 95 [a0,E]) λU=>qQ (Qe .not U) λi=>wP i true (Bs v4 7) λL=>wQ i true (lN L) λk=>wQ i true (bo .neq 3 true k ff) λP=>qQ (Bo i P ct) λB=>qP (Bh 3 1 1 [ff] [(0,1,iI 10)]) λx=>qQ (Z.call 95 [a0,x]) λQ=>qQ (Qe .not Q) λe=>wP e true (Bs v4 8) λG=>wQ e true (lN G) λK=>wQ e true (Fo K) λC=>wQ e true (bo .gtr 3 true C ff) λV=>wQ e true (.ok V) λb=>wQ b false (Bs v4 9) λv=>wQ b false (lN v) λy=>wQ b false (bo .neq 3 true y ff) λr=>wQ e true (Bo b ux r) λF=>qQ (Bo e F ct) λR=>qP (Bh 3 1 1 [ff] [(0,1,iI 3)]) λS=>qQ (Z.call 95 [a0,S]) λD=>qQ (Qe .not D) λc=>wP c true (Bs v4 10) λo=>wQ c true (lN o) λw=>qQ (Bo c w ct) λW=>qQ (Bh 4 1 6 [ct,ct,ct,ct,ct,ct] [(0,1,Po),(1,1,W6),(2,1,u),(3,1,B),(4,1,R),(5,1,W)]) λI=>qQ (Fo I) λv75 g=>Bxm Z N N I v75 ff (fz Az [0,2,6,7,8,9,3,10,11,12,13,14,15,16,17,18,19,20,21,22,23,24,25,26,27,28,29,30,31,32,33,34,35,36,37,38,39,40,41,42,43,44,45,46,47,48,49,50,51,52,53,54,55,56,57,58,59,60,61,62,63,64,65,66,67,68,69,70,71,72,73,74,75,76,77,78,79,80,81,82,83,84,85,86,87,88,89,90] [a0,ff,a0,v1,v2,v3,v4,v6,v7,Y,Y,v9,l,T,p,a0,E0,a,a,D5,F9,Gq,Ht,q,A,n,Jw,Jm,d,Mb,Lj,M3,J,Po,a0,s,t,f,f,Pp,Zf,Vx,O,M,Rz,Vj,v40,W6,a0,Ux,j,j,m,X,z,u,a0,E,U,i,i,L,k,P,B,a0,x,Q,e,e,G,K,C,V,b,v,y,r,F,R,a0,S,D,c,c,o,w,W]) (Be Gd.lg (Ab g)))) h:=kr
def e49:ml Z N 46 [a0] h=Al (Ab h) (Fu a0 (Ab h)) λv1=>qL v1 20 λv2 v3=>qP (Fu a0) λv4=>qQ (Bs v4 0) λd=>qL d 11 λf e=>qQ (Z.call 92 [v3,e]) λc=>qP (L9 c 0) λi=>qQ (L9 c 1) λa g=>Aa (Qe .not a (Be h.lg (Ab g))) λb=>mC b (.ok (iI 7)) (.ok ff):=kr
def e50:ml Z N 47 [a0] h=(fv a0 λv1=>Ek v1 0 λv2=>mL v2 12 λv3 v4=>ie v4 ff λe=>mW e false (.ok v4) λg=>mW e false (bo .gtr 3 true g (iI 50)) λk=>ft e ux k λj=>mC j (.ok (iI 2)) (Qj .neq 3 true v4 ff λa=>mW a true (.ok a0) λb=>mW a true (Fu b) λc=>mW a true (Bs c 21) λd=>mV a true d 1 λl f=>ft a f ct λi=>mC i (.ok (iI 10)) (.ok ff))) h:=kr
def e52:ml Z N 49 [a0] h=(fv a0 λv1=>Ek v1 0 λv2=>mL v2 17 λv3 v4=>Eh v4 λj=>fw j ff λi a=>Af i (.ok ff a) (Al (Ab a) (Fu a0 (Ab a)) λl=>qQ (Bs l 0) λk=>qL k 17 λm b=>qP (Fu a0) λc=>qL c 29 λf e=>qQ (Z.call 98 [b,e,ux]) λd g=>.ok d (Be a.lg (Ab g)))) h:=kr
def e53:ml Z N 50 [a0] h=(fm Z 94 [a0] λv1=>gu .not v1 λv2 h2=>Af v2 (.ok ff h2) (Al (Ab h2) (Fu a0 (Ab h2)) λv3=>qQ (Bs v3 0) λv4=>qL v4 1 λf b=>qP (Fu a0) λd=>qL d 29 λe c=>qQ (Z.call 98 [b,c,ct]) λa g=>.ok a (Be h2.lg (Ab g)))) h:=kr
def e54:ml Z N 51 [a0] h=(fv a0 λv1=>Ek v1 0 λv2=>gj 20 v2 λv3=>fy (cd [ff,.Bv,ff,ff,ff,ff,fk,ff,.Bv,ff,ct,fk,ff,fk,fk,fk,ff,.Bv,fk,ff] 30) λv4=>fp 20 v4 v3 λv5=>fm Z 94 [a0] λc=>mV c true v4 2 λX E=>mW c true (Z.call 99 [E]) λz=>mW c true (.ok z) λb=>mV b false v4 3 λP j=>mW b false (Z.call 99 [j]) λD=>mW c true (Bo b ux D) λA=>mW c true (.ok A) λe=>mV e false v4 2 λT B=>mV e false v4 3 λU y=>mW e false (bo .gtr 3 false B y) λn=>mW c true (Bo e ux n) λi=>ft c i ct λS=>mC S (.ok (iI 2)) (fx 3 1 1 [ff] [(0,1,iI 5)] λK=>fm Z 95 [a0,K] λa=>mV a true v4 3 λV I=>mV a true v4 2 λW s=>mW a true (bo .sub 3 false I s) λQ=>mW a true (bo .geq 3 true Q (iI 64)) λk=>mW a true (.ok k) λd=>mV d false v4 4 λRy C=>mW d false (bo .lss 3 true C fg) λL=>mW a true (Bo d ux L) λO=>mW a true (.ok O) λf=>mV f false v4 4 λJ G=>mV f false v4 5 λY w=>mW f false (bo .geq 3 false G w) λF=>mW a true (Bo f ux F) λM=>mW a true (.ok M) λr=>mV r false v4 5 λx v=>mW r false (bo .gtr 3 true v (iI 100)) λm=>mW a true (Bo r ux m) λl=>ft a l ct λq=>mC q (.ok (iI 2)) (fx 3 1 1 [ff] [(0,1,iI 7)] λu=>fm Z 95 [a0,u] λp=>mV p true v4 7 λR g=>mW p true (Z.call 99 [g]) λt=>ft p t ct λo=>mC o (.ok (iI 2)) (.ok ff)))) h:=kr
def e58:ml Z N 55 [a0] h=(fv a0 λv1=>Ek v1 0 λv2=>mL v2 19 λv3 v4=>ie v4 fg λa=>mW a false (.ok a0) λe=>mW a false (Fu e) λg=>mW a false (Bs g 0) λf=>mV a false f 19 λi b=>mW a false (bo .gtr 3 true b (iI 256)) λc=>ft a ux c λd=>mC d (.ok (iI 2)) (.ok ff)) h:=kr
def e84:ml Z N 92 [a0,a1] h=(Eg 9 a1 λv1=>fm Z 124 [a0,.fn (.func 125) [] [v1]] λv2=>fm Z 123 [v2] λv3=>fq v3 0 λv4=>fq v3 1 λa=>.ok (.Bj [v4,a])) h:=kr
def e85:ml Z N 94 [a0] h=(fx 3 1 3 [ff,ff,ff] [(0,1,iI 2),(1,1,iI 4),(2,1,iI 5)] λv1=>fm Z 95 [a0,v1] λv2=>.ok v2) h:=kr
def e86:ml Z N 95 [a0,a1] h=(fv a0 λv1=>Ek v1 0 λv2=>mL v2 0 λv3 v4=>fm Z 127 [a1,v4] λa=>.ok a) h:=kr
def e87:ml Z N 96 [a0,a1] h=(fy (cd [fk,ff,ff,.Bv] 100) λv1=>Db [fk,ct,ff,.Bv] [(3,1,a0)] λv2=>fm Z 105 [v2,a1] λv3=>fq v3 0 λv4=>fq v3 1 λf=>gu .not f λd=>mC d (fp 4 v1 (.agg [fk,ff,ff,.Bv]) λg=>Vk [.c (some (some 4)) v1,.v ct]) (Qw 4 a0 v4 λa=>gj 4 a λe=>fp 4 v1 e λb=>Vk [.c (some (some 4)) v1,.v ux])) h:=kr
def CkW:KT:=Lk (cB 97 [1,1,1] true Z N j0 (fi Z 97))
def CkX:Nat->KT:=E4 0 (CkW Z N) j0
def CkY:KT->KT:=cB 97 [1,1,0,1,0,0] true Z N (CkX Z N)
def BxA:OR:=F2 (CkY Z N) n1 (fz f0 [255,0,1,12,13] [.Bj [],t0,t1,t12,t13]) h
def B5Q:BxA Z N (n1+1) t0 t1 t12 t13 f0 h=(Pj t13 t12 λv1 h1=>Af v1 (Al (Ab h1) (Gc 1 t0 t13 (Ab h1)) λv2=>qQ (lN v2) λv3=>qP (Gc 1 t1 t13) λv4=>qQ (lN v4) λc=>qQ (bo .neq 9 false v3 c) λa g=>Af a (.ok ct (Be h1.lg g)) (Aa (bo .add 3 true t13 fg (Be h1.lg g)) λb=>BxA Z N n1 t0 t1 t12 b (fz f0 [255,14,15,5,16,17,18,19,20,21,22,23,24,25] [Ef,v1,t13,t13,t0,t13,v2,v3,t1,t13,v4,c,a,b]))) (.ok ux h1)) h:=kr
def e88:ml Z N 97 [a0,a1] h=(Eh a0 λv1=>Eh a1 λv2=>Qj .neq 3 false v1 v2 λv3=>mC v3 (.ok ct) (Eh a0 λv4=>BxA Z N N a0 a1 v4 ff (fz Az [4,6,7,8,9,10,11] [ct,a0,v1,a1,v2,v3,a0]))) h:=kr
def e90:ml Z N 99 [a0] h=(ie a0 (iI (-1000000)) λv1=>mW v1 false (.ok a0) λv2=>mW v1 false (bo .gtr 3 true v2 (iI 1000000)) λv3=>ft v1 ux v3 λv4=>.ok v4) h:=kr
def e91:ml Z N 100 [a0] h=(Eg 100 a0 λv1=>gj 4 v1 λv2=>fm Z 133 [v2] λv3=>gu .not v3 λv4=>mC v4 (.ok ff) (mL v1 2 λe c=>mL v1 1 λf b=>Qj .sub 3 false c b λd=>Dc d fg λa=>.ok a)) h:=kr
variable (Z:Ac)(N n1:Nat)(a0 a1 t0 t1 t7 t8:AV)(f0:L2)(h:H)
def e95:ml Z N 166 [a0] h=(Qj .eql 80 true a0 .Bv λv1=>mC v1 (.ok .Bv) (fx 100 4 0 [] [] λv2=>gm 100 4 56 v2 a0 λv3=>.ok v3)) h:=kr
def e96:ml Z N 167 [a0] h=(Qj .eql 98 true a0 .Bv λv1=>mC v1 (.ok .Bv) (fx 9 1 0 [] [] λv2=>gm 9 1 16 v2 a0 λv3=>.ok v3)) h:=kr
def Crb:ml Z N 123 [a0] h=(mM (mm false [a0,ff]) λv1=>ik a0 ff λv2=>.ok (.Bj [v1,v2])) h:=kr
def CfW:KT:=Lk (cB 124 [1,1] true Z N j0 (fi Z 124))
def CfX:Nat->KT:=E4 0 (CfW Z N) j0
def CfY:KT->KT:=cB 124 [1,0,1,0,0] true Z N (CfX Z N)
def Bis:OR:=F2 (CfY Z N) n1 (fz f0 [255,0,1,7,8] [.Bj [],t0,t1,t7,t8]) h
def Bxg:Bis Z N (n1+1) t0 t1 t7 t8 f0 h=(Pj t8 t7 λv1=>mC v1 (Qw 4 t0 t8 λv2=>gj 4 v2 λv3=>Dv t1 [v3] prog Z λv4=>mC v4 (.ok t8) (Dc t8 fg λa=>Bis Z N n1 t0 t1 t7 a (fz f0 [255,9,10,5,11,12,13,14,15,16,18] [Ef,v1,t8,t8,t1,t0,t8,v2,v3,v4,a]))) (.ok (iI (-1)))) h:=kr
def Crc:ml Z N 124 [a0,a1] h=(Eh a0 λv1=>Bis Z N N a0 a1 v1 ff (fz Az [4,6] [ff,a0])) h:=kr
def Crd:ml Z N 125 [a0,a1] h=(Eg 82 a0 λv1=>mL v1 0 λv2 v3=>ga a1 λv4=>Qj .eql 9 false v3 v4 λa=>.ok a) h:=kr
def Cre:ml Z N 127 [a0,a1] h=(fm Z 162 [a0,a1] λv1=>ik v1 ff λv2=>.ok v2) h:=kr
def Crf:ml Z N 105 [a0,a1] h=(Eg 82 a0 λv1=>Eg 9 a1 λv2=>mL v1 3 λv3 v4=>fm Z 141 [v4,.fn (.func 142) [] [v2]] λc=>fm Z 123 [c] λa=>fq a 0 λb=>fq a 1 λd=>.ok (.Bj [b,d])) h:=kr
def Crg:ml Z N 128 [] h=(fy (cd [.Bv,ff,.Bv,ff,.Bv,ff,.Bv,ff,.Bv,ff,.Bv,ff,.Bv,ff,.Bv,ff,.Bv,ff,.Bv,ff,.Bv,ff,.Bv,ff,.Bv,ff,.Bv,ff,.Bv,ff,.Bv,ff,.Bv,ff,.Bv,ff] 195) λv1=>fx 192 1 1 [ff] [(0,1,ff)] λv2=>fx 192 1 2 [ff,ff] [(0,1,ff),(1,1,ff)] λv3=>fx 192 1 1 [ff] [(0,1,fg)] λv4=>fx 192 1 2 [ff,ff] [(0,1,fg),(1,1,fg)] λg=>Db [.Bv,ff] [(0,1,v3),(1,1,ff)] λm=>Db [.Bv,ff] [(0,1,v3),(1,1,ff)] λs=>Db [.Bv,ff] [(0,1,v3),(1,1,ff)] λj=>Db [.Bv,ff] [(0,1,v2),(1,1,ff)] λr=>fx 192 1 3 [ff,ff,ff] [(0,1,fg),(1,1,ff),(2,1,ff)] λa=>Db [.Bv,ff] [(0,1,a),(1,1,ff)] λb=>Db [.Bv,ff] [(0,1,v3),(1,1,fg)] λf=>Db [.Bv,ff] [(0,1,v3),(1,1,fg)] λl=>Db [.Bv,ff] [(0,1,v3),(1,1,fg)] λk=>Db [.Bv,ff] [(0,1,v3),(1,1,fg)] λo=>Db [.Bv,ff] [(0,1,v3),(1,1,fg)] λi=>Db [.Bv,ff] [(0,1,v3),(1,1,fg)] λp=>Db [.Bv,ff] [(0,1,g),(1,1,fg)] λq=>Db [.Bv,ff] [(0,1,g),(1,1,fg)] λn=>Db [.Bv,ff] [(0,1,v4),(1,1,fg)] λe=>Db [.Bv,ff,.Bv,ff,.Bv,ff,.Bv,ff,.Bv,ff,.Bv,ff,.Bv,ff,.Bv,ff,.Bv,ff,.Bv,ff,.Bv,ff,.Bv,ff,.Bv,ff,.Bv,ff,.Bv,ff,.Bv,ff,.Bv,ff,.Bv,ff] [(2,2,.agg [.Bv,ff]),(4,2,.agg [.Bv,ff]),(6,2,.agg [.Bv,ff]),(8,2,m),(10,2,s),(12,2,j),(14,2,r),(16,2,b),(18,2,f),(20,2,l),(22,2,k),(24,2,o),(26,2,i),(28,2,p),(30,2,q),(32,2,n),(34,2,e)] λd=>fp 36 v1 d λt=>Vk [.c (some (some 36)) v1]) h:=kr
def Crl:ml Z N 133 [a0] h=(Eg 100 a0 λv1=>gj 4 v1 λv2=>fx 100 4 1 [fk,ff,ff,.Bv] [(0,4,v2)] λv3=>fm Z 164 [v3,ff] λv4=>Dz v4 ff λa=>.ok a) h:=kr
variable (Z:Ac)(N n1:Nat)(a0 a1 a2 t0 t1 t7 t8 t9:AV)(f0:L2)(h:H)
def Bjv:ml Z N 184 [a0,a1] h=(fm Z 208 [a0,a1] λv1=>ik v1 ff λv2=>.ok v2) h:=kr
def Cgc:KT:=Lk (cB 162 [1,1] true Z N j0 (fi Z 162))
def Cgd:Nat->KT:=E4 0 (Cgc Z N) j0
def Cge:KT->KT:=cB 162 [1,0,1,0,0] true Z N (Cgd Z N)
def BiB:OR:=F2 (Cge Z N) n1 (fz f0 [255,0,1,7,8] [.Bj [],t0,t1,t7,t8]) h
def Bxi:BiB Z N (n1+1) t0 t1 t7 t8 f0 h=(Pj t8 t7 λv1=>mC v1 (Qw 1 t0 t8 λv2=>ga v2 λv3=>Qj .eql 3 false t1 v3 λv4=>mC v4 (.ok t8) (Dc t8 fg λa=>BiB Z N n1 t0 t1 t7 a (fz f0 [255,9,10,5,11,12,13,14,15,16,18] [Ef,v1,t8,t8,t1,t0,t8,v2,v3,v4,a]))) (.ok (iI (-1)))) h:=kr
def Crq:ml Z N 162 [a0,a1] h=(Eh a0 λv1=>BiB Z N N a0 a1 v1 ff (fz Az [4,6] [ff,a0])) h:=kr
def Cgf:KT:=Lk (cB 141 [1,1] true Z N j0 (fi Z 141))
def Cgg:Nat->KT:=E4 0 (Cgf Z N) j0
def Cgh:KT->KT:=cB 141 [1,0,1,0,0] true Z N (Cgg Z N)
def Be6:OR:=F2 (Cgh Z N) n1 (fz f0 [255,0,1,7,8] [.Bj [],t0,t1,t7,t8]) h
def Bcl:Be6 Z N (n1+1) t0 t1 t7 t8 f0 h=(Pj t8 t7 λv1=>mC v1 (Qw 4 t0 t8 λv2=>gj 4 v2 λv3=>Dv t1 [v3] prog Z λv4=>mC v4 (.ok t8) (Dc t8 fg λa=>Be6 Z N n1 t0 t1 t7 a (fz f0 [255,9,10,5,11,12,13,14,15,16,18] [Ef,v1,t8,t8,t1,t0,t8,v2,v3,v4,a]))) (.ok (iI (-1)))) h:=kr
def Clo:ml Z N 141 [a0,a1] h=(Eh a0 λv1=>Be6 Z N N a0 a1 v1 ff (fz Az [4,6] [ff,a0])) h:=kr
def Crr:ml Z N 142 [a0,a1] h=(Eg 100 a0 λv1=>mL v1 0 λv2 v3=>ga a1 λv4=>Qj .eql 9 false v3 v4 λa=>.ok a) h:=kr
def Crs:ml Z N 164 [a0,a1] h=(Qw 4 a0 a1 λv1=>gj 4 v1 λv2=>fy (cd [fk,ff,ff,.Bv] 100) λv3=>fp 4 v3 v2 λv4=>mL v3 0 λz i=>fm Z 179 [i] λp=>gu .not p λs=>mC s (.ok (iI 19)) (Di prog 80 a0 none (some a1) λl=>fm Z 185 [l,.fn (.func 186) [] [v3]] λb=>mC b (.ok (iI 8)) (mL v3 3 λt d=>Eh d λr=>ij r ff λn=>mC n (gj 4 v3 λj=>fm Z 187 [j] λg=>.ok g) (mL v3 1 λx k=>ie k (iI (-1000000)) λe=>mV e false v3 2 λo c=>mW e false (bo .gtr 3 true c (iI 1000000)) λw=>ft e ux w λa=>mV a false v3 1 λq v=>mV a false v3 2 λy m=>mW a false (bo .gtr 3 false v m) λf=>ft a ux f λu=>mC u (.ok (iI 2)) (.ok ff))))) h:=kr
def Crx:ml Z N 176 [a0,a1] h=(Eg 187 a0 λv1=>Eg 35 a1 λv2=>.ok (.fn (.func 177) [] [v1,v2])) h:=kr
def Cry:ml Z N 177 [a0,a1,a2] h=(Eg 82 a0 λv1=>ga a1 λv2=>gj 4 v1 λv3=>Dv v2 [v3] prog Z λv4=>mC v4 (ga a2 λa=>.ok (.Bj [a,iI (-1)])) (.ok (.Bj [ff,iI (-1)]))) h:=kr
def Crz:ml Z N 178 [a0] h=(Eg 82 a0 λv1=>mL v1 0 λv2 v3=>fm Z 179 [v3] λv4=>gu .not v4 λa=>.ok a) h:=kr
def Cr0:ml Z N 180 [a0] h=(Eg 82 a0 λv1=>mL v1 1 λv2 v3=>mV v3 true v1 2 λv4 p=>mW v3 true (bo .neq 3 true p ff) λk=>ft v3 k ct λb=>mV b false v1 1 λr o=>mW b false (Qe .not o) λc=>mW b false (.ok c) λa=>mV a true v1 2 λj i=>mW a true (bo .lss 3 true i fg) λg=>mW a true (.ok g) λf=>mV f false v1 2 λq m=>mW f false (bo .gtr 3 true m (iI 50)) λn=>mW a true (Bo f ux n) λl=>mW b false (Bo a l ct) λe=>ft b ux e λd=>.ok d) h:=kr
def Cr1:ml Z N 181 [a0] h=(Eg 82 a0 λv1=>mL v1 3 λv2 v3=>Eh v3 λv4=>fw v4 ff λa=>.ok a) h:=kr
def Cr2:ml Z N 182 [a0] h=(Eg 82 a0 λv1=>mL v1 3 λv2 v3=>Eh v3 λv4=>ij v4 (iI 16) λa=>.ok a) h:=kr
def Cgi:KT:=Lk (cB 183 [1,1] true Z N j0 (fi Z 183))
def Cgj:Nat->KT:=E4 0 (Cgi Z N) j0
def Cgk:KT->KT:=cB 183 [1,0,1,0,0] true Z N (Cgj Z N)
def BiC:OR:=F2 (Cgk Z N) n1 (fz f0 [255,1,8,9] [.Bj [],t1,t8,t9]) h
def Bxj:BiC Z N (n1+1) t1 t8 t9 f0 h=(Pj t9 t8 λv1=>mC v1 (mL t1 3 λv2 v3=>fm Z 164 [v3,t9] λv4=>Dg v4 ff λb=>mC b (.ok (.Bj [v4,t9])) (Dc t9 fg λa=>BiC Z N n1 t1 t8 a (fz f0 [255,10,11,4,12,13,14,15,5,16,17,20] [Ef,v1,t9,t9,v2,v3,t9,v4,v4,v4,b,a]))) (.ok (.Bj [ff,iI (-1)]))) h:=kr
def Cr3:ml Z N 183 [a0] h=(Eg 82 a0 λv1=>mL v1 3 λv2 v3=>Eh v3 λv4=>BiC Z N N v1 v4 ff (fz Az [0,2,3,6,7] [a0,ff,ff,v2,v3])) h:=kr
def Bcc:KT:=Lk (cB 208 [1,1] true Z N j0 (fi Z 208))
def Bce:Nat->KT:=E4 0 (Bcc Z N) j0
def Bcf:KT->KT:=cB 208 [1,0,1,0,0] true Z N (Bce Z N)
def Asv:OR:=F2 (Bcf Z N) n1 (fz f0 [255,0,1,7,8] [.Bj [],t0,t1,t7,t8]) h
def Ays:Asv Z N (n1+1) t0 t1 t7 t8 f0 h=(Pj t8 t7 λv1=>mC v1 (Qw 1 t0 t8 λv2=>ga v2 λv3=>Qj .eql 9 false t1 v3 λv4=>mC v4 (.ok t8) (Dc t8 fg λa=>Asv Z N n1 t0 t1 t7 a (fz f0 [255,9,10,5,11,12,13,14,15,16,18] [Ef,v1,t8,t8,t1,t0,t8,v2,v3,v4,a]))) (.ok (iI (-1)))) h:=kr
def Bj7:ml Z N 208 [a0,a1] h=(Eh a0 λv1=>Asv Z N N a0 a1 v1 ff (fz Az [4,6] [ff,a0])) h:=kr
def Cr4:ml Z N 185 [a0,a1] h=(fm Z 141 [a0,a1] λv1=>ik v1 ff λv2=>.ok v2) h:=kr
def Cr5:ml Z N 186 [a0,a1] h=(Eg 100 a0 λv1=>mL v1 0 λv2 v3=>mL a1 0 λv4 b=>Qj .eql 9 false v3 b λa=>.ok a) h:=kr
def Cr6:ml Z N 187 [a0] h=(Eg 100 a0 λv1=>mL v1 3 λv2 v3=>Eh v3 λv4=>ij v4 (iI 64) λm=>mC m (.ok (iI 4)) (mL v1 3 λp n=>fm Z 209 [n,.fn (.func 210) [] []] λg=>mC g (.ok (iI 19)) (mL v1 3 λs b=>fm Z 211 [b] λc=>mC c (.ok (iI 8)) (mL v1 1 λj i=>Qj .neq 3 true i ff λa=>mV a false v1 2 λq f=>mV a false v1 3 λr l=>mW a false (Fo l) λk=>mW a false (bo .sub 3 true k fg) λe=>mW a false (bo .neq 3 false f e) λd=>ft a ux d λo=>mC o (.ok (iI 2)) (.ok ff))))) h:=kr
def Cr7:ml Z N 209 [a0,a1] h=(fm Z 233 [a0,a1] λv1=>ik v1 ff λv2=>.ok v2) h:=kr
def Cr8:ml Z N 210 [a0] h=(fm Z 179 [a0] λv1=>gu .not v1 λv2=>.ok v2) h:=kr
def Cgo:KT:=Lk (cB 233 [1,1] true Z N j0 (fi Z 233))
def Cgp:Nat->KT:=E4 0 (Cgo Z N) j0
def Cgq:KT->KT:=cB 233 [1,0,1,0,0] true Z N (Cgp Z N)
def BiI:OR:=F2 (Cgq Z N) n1 (fz f0 [255,0,1,7,8] [.Bj [],t0,t1,t7,t8]) h
def Bxl:BiI Z N (n1+1) t0 t1 t7 t8 f0 h=(Pj t8 t7 λv1=>mC v1 (Qw 1 t0 t8 λv2=>ga v2 λv3=>Dv t1 [v3] prog Z λv4=>mC v4 (.ok t8) (Dc t8 fg λa=>BiI Z N n1 t0 t1 t7 a (fz f0 [255,9,10,5,11,12,13,14,15,16,18] [Ef,v1,t8,t8,t1,t0,t8,v2,v3,v4,a]))) (.ok (iI (-1)))) h:=kr
def CrB:ml Z N 233 [a0,a1] h=(Eh a0 λv1=>BiI Z N N a0 a1 v1 ff (fz Az [4,6] [ff,a0])) h:=kr
variable (Z:Ac)(N n1:Nat)(a0 a1 t0 t1 t6 t7 t8 t26 t27:AV)(f0:L2)(h:H)
def BbP:KT:=Lk (cB 179 [1,1,1] true Z N j0 (fi Z 179))
def BbQ:Nat->KT:=E4 0 (BbP Z N) j0
def BbR:KT->KT:=cB 179 [1,1,0,1,0,0] true Z N (BbQ Z N)
def ArU:OR:=F2 (BbR Z N) n1 (fz f0 [255,0,26,27] [.Bj [],t0,t26,t27]) h
def Ayn:ArU Z N (n1+1) t0 t26 t27 f0 h=(Pj t27 t26 λv1=>mC v1 (mM (xIx prog .str t0 t27) λv2=>Qj .lss 5 true v2 (ch 97) λv3=>mW v3 false (.ok v2) λv4=>mW v3 false (bo .gtr 5 true v4 (ch 122)) λo=>ft v3 ux o λa=>mW a true (.ok v2) λp=>mW a true (bo .lss 5 true p (ch 48)) λj=>mW a true (.ok j) λf=>mW f false (.ok v2) λb=>mW f false (bo .gtr 5 true b (ch 57)) λd=>mW a true (Bo f ux d) λe=>ft a e ct λc=>mW c true (.ok v2) λk=>mW c true (bo .neq 5 true k (ch 95)) λm=>ft c m ct λi=>mC i (.ok ct) (Dc t27 fg λn=>ArU Z N n1 t0 t26 n (fz f0 [255,28,29,3,30,31,32,4,33,34,35,36,37,38,39,40,41,42,43,44,45,46,47,48,49,50,51] [Ef,v1,t27,t27,t0,t27,v2,v2,v2,v3,v3,v4,o,a,a,p,j,f,b,d,e,c,c,k,m,i,n]))) (Di prog 268 (.ptr 0 0) none none λr=>fm Z 207 [r,t0] λl=>fq l 0 λq=>fq l 1 λg=>gu .not g λs=>.ok s)) h:=kr
def Bj2:ml Z N 179 [a0] h=(Qx a0 λv1=>ie v1 fg λv2=>mW v2 false (.ok a0) λv3=>mW v2 false (lnS v3) λv4=>mW v2 false (bo .gtr 3 true v4 (iI 20)) λg=>ft v2 ux g λb=>mW b false (.ok a0) λk=>mW b false (xIx prog .str k ff) λj=>mW b false (bo .lss 5 true j (ch 97)) λi=>ft b ux i λa=>mW a false (.ok a0) λc=>mW a false (xIx prog .str c ff) λd=>mW a false (bo .gtr 5 true d (ch 122)) λf=>ft a ux f λe=>mC e (.ok ct) (Qx a0 λl=>ArU Z N N a0 l ff (fz Az [2,7,8,9,10,11,12,13,14,15,16,17,18,19,20,21,22,23,24,25] [ct,a0,v1,v2,v2,v3,v4,g,b,b,k,j,i,a,a,c,d,f,e,a0]))) h:=kr
def Bcg:KT:=Lk (cB 207 [1,1,1,1] true Z N j0 (fi Z 207))
def Bch:Nat->KT:=E4 0 (Bcg Z N) j0
def Bci:KT->KT:=cB 207 [1,1,1,0,0,0] true Z N (Bch Z N)
def Anb:OR:=F2 (Bci Z N) n1 (fz f0 [255,0,1,6,7,8] [.Bj [],t0,t1,t6,t7,t8]) h
def Ayt:Anb Z N (n1+1) t0 t1 t6 t7 t8 f0 h=(Pj t7 t8 λv1=>mC v1 (ig t7 t8 λv2=>Dm .u64 v2 λv3=>Qj .shr 169 true v3 (cm 1) λv4=>Dm .i64 v4 λb=>Qw 1 t0 b λf=>ga f λi=>fm Z 231 [i,t1] λl=>mC l (Dc b fg λo=>Anb Z N n1 t0 t1 t6 o t8 (fz f0 [255,13,14,15,16,17,18,19,20,21,9,22,23,24,25,26,27,28,29] [Ef,t7,t8,v1,t7,t8,v2,v3,v4,b,b,t0,b,f,i,t1,l,b,o])) (Anb Z N n1 t0 t1 t6 t7 b (fz f0 [255,13,14,15,16,17,18,19,20,21,9,22,23,24,25,26,27,30] [Ef,t7,t8,v1,t7,t8,v2,v3,v4,b,b,t0,b,f,i,t1,l,b]))) (Pj t7 t6 λa=>mW a true (.ok t0) λn=>mW a true (.ok t7) λe=>mW a true (Gc 1 n e) λv=>mW a true (lN v) λu=>mW a true (.ok t1) λr=>mW a true (bo .eql 9 false u r) λp=>mW a true (.ok p) λc=>mW c false (.ok t0) λs=>mW c false (.ok t7) λq=>mW c false (Gc 1 s q) λg=>mW c false (lN g) λd=>mW c false (Z.call 232 [d]) λy=>mW c false (.ok y) λm=>mW m true (.ok t1) λj=>mW m true (Z.call 232 [j]) λx=>mW c false (Bo m x ct) λw=>mW a true (Bo c ux w) λt=>ft a t ct λk=>.ok (.Bj [t7,k]))) h:=kr
def BjB:ml Z N 207 [a0,a1] h=(Eh a0 λv1=>Anb Z N N a0 a1 v1 ff v1 (fz Az [4,5,10,11,12] [ff,ct,a0,v1,v1])) h:=kr
def BjF:ml Z N 231 [a0,a1] h=(fm Z 244 [a0] λv1=>mW v1 true (.ok a1) λv2=>mW v1 true (Z.call 244 [v2]) λv3=>mW v1 true (Qe .not v3) λv4=>ft v1 v4 ct λa=>mW a false (.ok a0) λc=>mW a false (.ok a1) λe=>mW a false (bo .lss 9 false c e) λb=>ft a ux b λd=>.ok d) h:=kr
def BjG:ml Z N 232 [a0] h=(Qj .neq 9 false a0 a0 λv1=>.ok v1) h:=kr
variable (Z:Ac)(N n1:Nat)(a0 a1 a2 t0 t1 t2 t7 t8 t9 t10 t12 t13 t14 t15 t16 t20 t21 t53 t54 t55:AV)(f0:L2)(h:H)
def Ck2:KT:=Lk (cB 19 [1,1,1] false Z N j0 (fi Z 19))
def Ck3:Nat->KT:=E4 0 (Ck2 Z N) j0
def Ck4:KT->KT:=cB 19 [1,1,0,1,0,0] false Z N (Ck3 Z N)
def Ble:OR:=F2 (Ck4 Z N) n1 (fz f0 [255,53,54,55] [.Bj [],t53,t54,t55]) h
def B5l:Ble Z N (n1+1) t53 t54 t55 f0 h=(Pj t55 t54 λv1=>mC v1 (Qw 2 t53 t55 λv2=>gj 2 v2 λv3=>fy (cd [fk,.Iy] 110) λv4=>fp 2 v4 v3 λl=>mL v4 1 λk i=>Dv i [] prog Z λb=>Dg b ff λf h9=>Af f (Aa (Bs v4 0 (Ab h9)) λa d=>Aa (lN a (Ab d)) λc g=>Ff h9.lg [eZ 16 15 .none (Ab g),eZ 8 1 .none g,eW 4 2 (Bn (some none) a) d g,eW 2 0 .none (Ab h9) d,eZ 1 0 .none h9] (Ab g) λj=>.ok (.Bj [b,c]) j) (Aa (bo .add 3 true t55 fg h9) λe=>Ble Z N n1 t53 t54 e (fz f0 [255,56,57,58,9,59,60,61,10,62,63,67] [Ef,v1,v2,v3,v4,k,i,b,b,b,f,e]))) (.ok (.Bj [ff,fk]))) h:=kr
def e18:Ay prog Z N false 19 [a0,a1] h=(Eg 30 a0 λv1=>gj 20 v1 λv2=>fm Z 43 [v2,a1] λv3=>fq v3 0 λv4=>fq v3 1 λn=>Db [fk,.Iy] [(0,1,.str [115,99,104,101,109,97,115]),(1,1,.fn (.func 44) [v4] [])] λi=>Db [fk,.Iy] [(0,1,.str [107,105,110,100]),(1,1,.fn (.func 45) [v4] [])] λo=>Db [fk,.Iy] [(0,1,.str [116,97,98,108,101]),(1,1,.fn (.func 46) [v4] [])] λe=>Db [fk,.Iy] [(0,1,.str wv),(1,1,.fn (.func 47) [v4] [])] λm=>Db [fk,.Iy] [(0,1,.str wj),(1,1,.fn (.func 48) [v4] [])] λa=>Db [fk,.Iy] [(0,1,.str ug),(1,1,.fn (.func 49) [v4] [])] λb=>Db [fk,.Iy] [(0,1,.str uh),(1,1,.fn (.func 50) [v4] [])] λc=>Db [fk,.Iy] [(0,1,.str [114,97,110,103,101]),(1,1,.fn (.func 51) [v4] [])] λg=>Db [fk,.Iy] [(0,1,.str [99,111,108,117,109,110]),(1,1,.fn (.func 52) [v4] [])] λf=>Db [fk,.Iy] [(0,1,.str [114,97,110,103,101,115]),(1,1,.fn (.func 53) [v4] [])] λj=>Db [fk,.Iy] [(0,1,.str uc),(1,1,.fn (.func 54) [v4] [])] λd=>Db [fk,.Iy] [(0,1,.str wy),(1,1,.fn (.func 55) [v4] [])] λk=>fx 110 2 12 [fk,.Iy,fk,.Iy,fk,.Iy,fk,.Iy,fk,.Iy,fk,.Iy,fk,.Iy,fk,.Iy,fk,.Iy,fk,.Iy,fk,.Iy,fk,.Iy] [(0,2,i),(2,2,o),(4,2,e),(6,2,m),(8,2,a),(10,2,b),(12,2,c),(14,2,g),(16,2,f),(18,2,j),(20,2,d),(22,2,k)] λl=>Eh l λp=>Ble Z N N l p ff (fz Az [0,1,2,4,5,12,13,14,11,15,16,6,7,17,18,19,20,21,22,23,24,25,26,27,28,29,30,31,32,33,34,35,36,37,38,39,40,41,42,43,44,45,46,47,48,49,50,51,52] [a0,a1,v1,ff,fk,v2,a1,v3,v3,v4,n,v4,n,v4,.fn (.func 44) [v4] [],i,v4,.fn (.func 45) [v4] [],o,v4,.fn (.func 46) [v4] [],e,v4,.fn (.func 47) [v4] [],m,v4,.fn (.func 48) [v4] [],a,v4,.fn (.func 49) [v4] [],b,v4,.fn (.func 50) [v4] [],c,v4,.fn (.func 51) [v4] [],g,v4,.fn (.func 52) [v4] [],f,v4,.fn (.func 53) [v4] [],j,v4,.fn (.func 54) [v4] [],d,v4,.fn (.func 55) [v4] [],k])) h:=kr
def e46:Ay prog Z N false 43 [a0,a1] h=(Eg 30 a0 λv1=>gj 20 v1 λv2=>Db [ff,.Bv,ff,ff,ff,ff,fk,ff,.Bv,ff,ct,fk,ff,fk,fk,fk,ff,.Bv,fk,ff,.Bv,fk,ct,ff,.Bv,fk,ct,ff,.Bv,.Bv] [(0,20,v2),(20,1,a1)] λv3=>Eg 148 v3 λv4=>mL v1 11 λv5 X=>fm Z 92 [a1,X] λQ=>fq Q 0 λS=>fq Q 1 λv9=>gu .not v9 λq=>mC q (.ok (.Bj [v4,ct])) (Qw 4 a1 S λK=>gj 4 K λt=>fv v4 λE0=>Ek E0 21 λEr=>fp 4 Er t λD5 o=>Aa (Fu v4 (Ab o)) λV r=>Aa (Bs V 29 (Ab r)) λP x=>Aa (lN P (Ab x)) λHt p=>Aa (Gc 4 a1 S (Ab p)) λY y=>Aa (Bs Y 3 (Ab y)) λl z=>Aa (lN l (Ab z)) λs B=>Aa (Ds 100 4 56 Ht s (Ab B)) λJw a=>Aa (Fu v4 (Ab a)) λJm I=>Aa (Bs Jm 29 (Ab I)) λD d=>Aa (A4 1 D Jw (Ab d)) λMb g=>Ff o.lg [eW 8192 8191 .all d g,eW 4096 4095 .none I d,eW 2048 2047 .none a I,eW 1024 1022 .all B a,eW 512 480 (Bn (some none) l) z B,eW 256 224 .none y z,eW 128 96 .none (Ab p) y,eZ 64 0 .none (Ab p),eZ 32 0 .none p,eW 16 14 (Bn (some none) P) x p,eW 8 6 .none r x,eW 4 2 .none (Ab o) r,eZ 2 0 .none (Ab o),eZ 1 0 .none o] g λW=>Aa (Bs v1 13 W) λM3=>ga M3 λE=>Qj .eql 9 true E fk λPo=>mC Po (.ok (.Bj [v4,ux])) (mL v1 13 λv30 u=>fm Z 92 [a1,u] λU=>fq U 0 λR=>fq U 1 λG=>mC G (Qw 4 a1 R λVx=>gj 4 Vx λQp=>fv v4 λF=>Ek F 25 λRz=>fp 4 Rz Qp λVj m=>Aa (Fu v4 (Ab m)) λM O=>Aa (Bs M 29 (Ab O)) λT C=>Aa (lN T (Ab C)) λUx n=>Aa (Gc 4 a1 R (Ab n)) λXk f=>Aa (Bs Xk 3 (Ab f)) λk j=>Aa (lN k (Ab j)) λL b=>Aa (Ds 100 4 56 Ux L (Ab b)) λw e=>Aa (Fu v4 (Ab e)) λv i=>Aa (Bs v 29 (Ab i)) λA c=>Aa (A4 1 A w (Ab c)) λv49 g=>Ff m.lg [eW 8192 8191 .all c g,eW 4096 4095 .none i c,eW 2048 2047 .none e i,eW 1024 1022 .all b e,eW 512 480 (Bn (some none) k) j b,eW 256 224 .none f j,eW 128 96 .none (Ab n) f,eZ 64 0 .none (Ab n),eZ 32 0 .none n,eW 16 14 (Bn (some none) T) C n,eW 8 6 .none O C,eW 4 2 .none (Ab m) O,eZ 2 0 .none (Ab m),eZ 1 0 .none m] g λJ=>.ok (.Bj [v4,G]) J) (.ok (.Bj [v4,G]))))) h:=kr
def e51:Ay prog Z N false 48 [a0] h=(fv a0 λv1=>Ek v1 0 λv2=>gj 20 v2 λv3=>fy (cd [ff,.Bv,ff,ff,ff,ff,fk,ff,.Bv,ff,ct,fk,ff,fk,fk,fk,ff,.Bv,fk,ff] 30) λv4=>fp 20 v4 v3 λv5=>mL v4 13 λv6 v7=>Qj .eql 9 true v7 fk λv8 x=>Af v8 (Aa (Bs v4 14 x) λv9=>ga v9 λv10=>Qj .neq 9 true v10 fk λk=>mV k false v4 15 λv12 E0=>mW k false (bo .neq 9 true E0 fk) λEr=>ft k ux Er λD=>mV D false v4 16 λF9 Gq=>mW D false (bo .neq 3 true Gq ff) λHt=>ft D ux Ht λH7=>mC H7 (.ok (iI 3)) (.ok ff)) (Aa (Fu a0 (Ab x)) λP I=>Aa (Bs P 20 (Ab I)) λu O8=>Aa (lN u (Ab O8)) λJw p=>Aa (Bs v4 13 (Ab p)) λJm V=>Aa (lN Jm (Ab V)) λL l=>Aa (Z.call 92 [Jw,L] (Ab l)) λMb A=>Aa (L9 Mb 0 (Ab A)) λLj C=>Aa (L9 Mb 1 (Ab C)) λM3 g=>Ff x.lg [eZ 2048 2047 .none (Ab g),eZ 1024 511 .none g,eW 512 255 .none C g,eW 256 255 .none (Ab A) C,eZ 128 127 .none A,eW 64 63 .all l A,eW 32 16 (Bn (some none) Jm) V l,eW 16 0 .none p V,eW 8 7 (Bn (some none) u) O8 p,eW 4 3 .none I O8,eW 2 1 .none (Ab x) I,eZ 1 0 .none x] (Ab g) λz=>Aa (Fu a0 (Ab z)) λPo X=>Aa (Bs Po 21 (Ab X)) λO R=>Aa (Bs O 3 (Ab R)) λw N7=>Aa (lN w (Ab N7)) λRy o=>Aa (Bs v4 14 (Ab o)) λPp K=>Aa (lN Pp (Ab K)) λZf i=>Aa (Z.call 96 [Ry,Zf] (Ab i)) λVx d=>Aa (L9 Vx 0 (Ab d)) λQp E=>Aa (L9 Vx 1 (Ab E)) λv37 b=>Aa (mk (Ab b) (cd [fk,ff,ff,.Bv] 100) (.ptr (Ab b).nx 0)) λRz Fg=>Aa (A4 4 Rz Qp (Ab Fg)) λVj g=>Ff z.lg [eZ 8192 8191 .none g,eW 4096 3071 .all Fg g,eW 2048 0 .none b Fg,eW 1024 511 .none E b,eW 512 511 .none (Ab d) E,eZ 256 255 .none d,eW 128 127 .all i d,eW 64 32 (Bn (some none) Pp) K i,eW 32 0 .none o K,eW 16 15 (Bn (some none) w) N7 o,eW 8 7 .none R N7,eW 4 3 .none X R,eW 2 1 .none (Ab z) X,eZ 1 0 .none z] (Ab g) λB=>Aa (Fu a0 (Ab B)) λW6 We=>Aa (Bs W6 25 (Ab We)) λUx Nj=>Aa (Bs Ux 3 (Ab Nj)) λXk f=>Aa (lN Xk (Ab f)) λv44 j=>Aa (Bs v4 15 (Ab j)) λv q=>Aa (lN v (Ab q)) λF m=>Aa (Z.call 96 [v44,F] (Ab m)) λy a=>Aa (L9 y 0 (Ab a)) λv48 r=>Aa (L9 y 1 (Ab r)) λv49 c=>Aa (mk (Ab c) (cd [fk,ff,ff,.Bv] 100) (.ptr (Ab c).nx 0)) λQ8 s=>Aa (A4 4 Q8 v48 (Ab s)) λv51 g=>Ff B.lg [eZ 8192 8191 .none g,eW 4096 3071 .all s g,eW 2048 0 .none c s,eW 1024 511 .none r c,eW 512 511 .none (Ab a) r,eZ 256 255 .none a,eW 128 127 .all m a,eW 64 32 (Bn (some none) v) q m,eW 32 0 .none j q,eW 16 15 (Bn (some none) Xk) f j,eW 8 7 .none Nj f,eW 4 3 .none We Nj,eW 2 1 .none (Ab B) We,eZ 1 0 .none B] (Ab g) λh52=>Aa (Qe .not M3 h52) λU=>mC U (.ok (iI 7)) (fv a0 λG=>Ek G 21 λv55=>mL v55 1 λv56 t=>mW t true (.ok a0) λS=>mW t true (Fu S) λv59=>mW t true (Bs v59 25) λQ=>mV t true Q 1 λv61 Y=>mW t true (Qe .not Y) λv63=>ft t v63 ct λv64=>mC v64 (.ok (iI 10)) (gu .not v37 λe=>mW e false (.ok v49) λJ=>mW e false (Qe .not J) λM=>ft e ux M λv68=>mC v68 (.ok (iI 7)) (mL Rz 3 λv69 v70=>mL Q8 3 λv71 v72=>fm Z 97 [v70,v72] λv73=>gu .not v73 λT=>mC T (.ok (iI 10)) (mL v4 16 λv75 v76=>ie v76 fg λn=>mV n false v4 16 λv78 v79=>mW n false (bo .gtr 3 true v79 (iI 50)) λv80=>ft n ux v80 λW=>mC W (.ok (iI 2)) (.ok ff))))))) h:=kr
def e57:Ay prog Z N false 54 [a0] h=(fv a0 λv1=>Ek v1 0 λv2=>mL v2 18 λv3 v4=>fm Z 70 [v4] λp=>Dg p ff λm=>mC m (.ok (iI 3)) (fm Z 11 [v4,.str [49]] λf=>fq f 0 λi=>fq f 1 λq=>fm Z 11 [v4,.str uf] λa=>fq a 0 λc=>fq a 1 λk=>Qx v4 λj=>ij j (iI 40) λb=>mW b false (.ok i) λn=>mW b false (bo .leq 3 true n ff) λg=>ft b ux g λe=>mW e false (.ok c) λo=>mW e false (bo .gtr 3 true o ff) λl=>ft e ux l λd=>mC d (.ok (iI 2)) (.ok ff))) h:=kr
def CkK:KT:=Lk (cB 93 [1,1,1] false Z N j0 (fi Z 93))
def CkL:Nat->KT:=E4 0 (CkK Z N) j0
def CkM:KT->KT:=cB 93 [1,1,0,1,0,0] false Z N (CkL Z N)
def Bxu:OR:=F2 (CkM Z N) n1 (fz f0 [255,0,14,15,16] [.Bj [],t0,t14,t15,t16]) h
def B5N:Bxu Z N (n1+1) t0 t14 t15 t16 f0 h=(Pj t16 t15 λv1=>mC v1 (Qw 4 t14 t16 λv2=>gj 4 v2 λv3=>fy (cd [fk,ct,ff,.Bv] 82) λv4=>fp 4 v4 v3 λv=>gj 4 v4 λq=>fm Z 126 [q] λk=>fq k 0 λe=>fq k 1 λm=>Dg e ff λc b=>Af c (.ok (.Bj [e,t16,m]) b) (Aa (xSl prog 24 t0 none (some t16) (Ab b)) λd p=>Aa (Bs v4 0 (Ab p)) λa l=>Aa (lN a (Ab l)) λu n=>Aa (Z.call 92 [d,u] (Ab n)) λi j=>Aa (L9 i 0 (Ab j)) λr o=>Aa (L9 i 1 (Ab o)) λf g=>Ff b.lg [eZ 1024 1023 .none (Ab g),eZ 512 255 .none g,eW 256 127 .none o g,eW 128 127 .none (Ab j) o,eZ 64 63 .none j,eW 32 31 .all n j,eW 16 8 (Bn (some none) a) l n,eW 8 0 .none p l,eW 4 3 .none (Ab b) p,eZ 2 0 .none (Ab b),eZ 1 0 .none b] (Ab g) λt=>Af f (.ok (.Bj [iI 8,t16,iI (-1)]) t) (Aa (bo .add 3 true t16 fg t) λs=>Bxu Z N n1 t0 t14 t15 s (fz f0 [255,17,18,19,20,6,5,22,23,21,24,25,7,8,26,27,32,33,34,35,36,37,31,38,39,9,10,40,42] [Ef,v1,t16,v2,v3,v4,t16,q,k,k,e,m,e,m,e,c,t0,t16,d,a,u,i,i,r,f,r,f,f,s])))) (.ok (.Bj [ff,iI (-1),iI (-1)]))) h:=kr
def e59:Ay prog Z N false 93 [a0] h=(Eh a0 λv1=>ij v1 (iI 16) λv2=>mC v2 (.ok (.Bj [iI 4,iI 16,iI (-1)])) (Eh a0 λv3=>Bxu Z N N a0 a0 v3 ff (fz Az [2,3,4,11,12,13] [ff,ff,ff,a0,v1,v2]))) h:=kr
def Cld:KT:=Lk (cB 126 [1,1] false Z N j0 (fi Z 126))
def Cle:Nat->KT:=E4 0 (Cld Z N) j0
def Clf:KT->KT:=cB 126 [1,0,1,0,0] false Z N (Cle Z N)
def BxB:OR:=F2 (Clf Z N) n1 (fz f0 [255,1,8,9,10] [.Bj [],t1,t8,t9,t10]) h
def B5S:BxB Z N (n1+1) t1 t8 t9 t10 f0 h=(Pj t10 t9 λv1=>mC v1 (Qw 1 t8 t10 λv2=>ga v2 λv3=>gj 4 t1 λv4=>Dv v3 [v4] prog Z λb=>fq b 0 λa=>fq b 1 λc=>Dg a ff λd=>mC d (.ok (.Bj [a,c])) (Dc t10 fg λe=>BxB Z N n1 t1 t8 t9 e (fz f0 [255,11,12,13,5,15,16,17,14,18,19,6,7,20,21,24] [Ef,v1,v2,v3,v3,v3,v4,b,b,a,c,a,c,a,d,e]))) (.ok (.Bj [ff,iI (-1)]))) h:=kr
def e94:Ay prog Z N false 126 [a0] h=(Eg 82 a0 λv1=>fm Z 161 [] λv2=>Eh v2 λv3=>BxB Z N N v1 v2 v3 ff (fz Az [0,2,3] [a0,ff,ff])) h:=kr
def Crp:Ay prog Z N false 161 [] h=(Dv (.fn (.func 176) [] []) [.fn (.func 178) [] [],iI 19] prog Z λv1=>Dv (.fn (.func 176) [] []) [.fn (.func 180) [] [],iI 2] prog Z λv2=>Dv (.fn (.func 176) [] []) [.fn (.func 181) [] [],iI 3] prog Z λv3=>Dv (.fn (.func 176) [] []) [.fn (.func 182) [] [],iI 4] prog Z λv4=>fx 231 1 5 [.Iy,.Iy,.Iy,.Iy,.Iy] [(0,1,v1),(1,1,v2),(2,1,v3),(3,1,v4),(4,1,.fn (.func 183) [] [])] λa=>.ok a) h:=kr
def Crh:Ay prog Z N false 129 [a0,a1,a2] h=(Qw 3 a0 a1 λv1=>gj 3 v1 λv2=>fy (cd [ff,ff,fk] 50) λv3=>fp 3 v3 v2 λv4=>mL v3 0 λv5 x=>ie x fg λn=>mV n false v3 0 λY B=>mW n false (bo .gtr 3 true B (iI 17)) λg=>ft n ux g λb=>mV b false v3 1 λw L=>mW b false (bo .neq 3 true L ff) λE=>mW b false (.ok E) λj=>mV j true v3 0 λW G=>mW j true (bo .neq 3 true G fg) λA=>mW b false (Bo j A ct) λy=>ft b ux y λa=>mV a false v3 2 λv V=>mW a false (bo .neq 9 true V fk) λP=>mW a false (.ok P) λc=>mV c true v3 0 λX O=>mW c true (bo .neq 3 true O (iI 2)) λD=>mW a false (Bo c D ct) λp=>mW a false (.ok p) λs=>mV s true v3 0 λz k=>mW s true (bo .neq 3 true k (iI 3)) λU=>mW a false (Bo s U ct) λK=>ft a ux K λR=>mC R (.ok (iI 3)) (mL v3 1 λVx Q=>ie Q ff λd=>mV d false v3 1 λRz S=>mW d false (bo .gtr 3 true S (iI 1000000000)) λr=>ft d ux r λM=>mC M (.ok (iI 2)) (mL v3 0 λUx J=>fw J (iI 3) λi=>mC i (fm Z 163 [a0,a1,a2] λt=>.ok t) (mL v3 0 λF l=>fw l (iI 2) λo=>mC o (mL v3 2 λT I=>fm Z 96 [a2,I] λe=>fq e 0 λf=>fq e 1 λq=>fy (cd [fk,ff,ff,.Bv] 100) λm=>fp 4 m f λC=>gu .not q λu=>mC u (.ok (iI 7)) (.ok ff)) (.ok ff))))) h:=kr
def CfZ:KT:=Lk (cB 132 [1,1,1] false Z N j0 (fi Z 132))
def Cga:Nat->KT:=E4 0 (CfZ Z N) j0
def Cgb:KT->KT:=cB 132 [1,1,0,1,0,0] false Z N (Cga Z N)
def BiA:OR:=F2 (Cgb Z N) n1 (fz f0 [255,0,1,12,13] [.Bj [],t0,t1,t12,t13]) h
def Bxh:BiA Z N (n1+1) t0 t1 t12 t13 f0 h=(Pj t13 t12 λv1 h1=>Af v1 (Aa (Gc 1 t0 t13 (Ab h1)) λv2 h2=>Aa (lN v2 (Ab h2)) λv3 a=>Aa (Gc 1 t1 t13 (Ab a)) λv4 b=>Aa (lN v4 (Ab b)) λf c=>Aa (bo .neq 192 false v3 f (Ab c)) λd g=>Ff h1.lg [eW 256 255 .none c g,eW 128 112 (Bn (some none) v4) b c,eW 64 48 .none (Ab a) b,eZ 32 0 .none (Ab a),eZ 16 0 .none a,eW 8 7 (Bn (some none) v2) h2 a,eW 4 3 .none (Ab h1) h2,eZ 2 0 .none (Ab h1),eZ 1 0 .none h1] g λe=>Af d (.ok ct e) (Aa (bo .add 3 true t13 fg e) λi=>BiA Z N n1 t0 t1 t12 i (fz f0 [255,14,15,5,16,17,18,19,20,21,22,23,24,25] [Ef,v1,t13,t13,t0,t13,v2,v3,t1,t13,v4,f,d,i]))) (.ok ux h1)) h:=kr
def Crk:Ay prog Z N false 132 [a0,a1] h=(Eh a0 λv1=>Eh a1 λv2=>Qj .neq 3 false v1 v2 λv3=>mC v3 (.ok ct) (Eh a0 λv4=>BiA Z N N a0 a1 v4 ff (fz Az [4,6,7,8,9,10,11] [ct,a0,v1,a1,v2,v3,a0]))) h:=kr
def CkZ:KT:=Lk (cB 98 [1,1,1,1,1] false Z N j0 (fi Z 98))
def Cla:Nat->KT:=E4 0 (CkZ Z N) j0
def Clb:KT->KT:=cB 98 [1,1,1,1,0,1,0,0] false Z N (Cla Z N)
def Blf:OR:=F2 (Clb Z N) n1 (fz f0 [255,0,1,2,7,8,20,21] [.Bj [],t0,t1,t2,t7,t8,t20,t21]) h
def Clc:KT:=Lk (cB 98 [1,1,1,1,1,1,1] false Z N j0 (fi Z 98))
def B5j:OR:=(Clc Z N) (fz f0 [255,8,12] [.Bj [],t8,t12]) h
def B5R:Blf Z N (n1+1) t0 t1 t2 t7 t8 t20 t21 f0 h=(Pj t21 t20 λv1=>mC v1 (fm Z 129 [t0,t21,t1] λv2=>Dg v2 ff λv3=>mC v3 (.ok v2) (Qw 3 t0 t21 λv4=>mL v4 0 λo g=>mM (AxM 18 2 t7 g) λk=>gj 2 k λj=>fy (cd [.Bv,ff] 194) λb=>fp 2 b j λl=>mL b 0 λc a=>fm Z 130 [t8,a] λf=>gu .not f λe=>mC e (.ok (iI 10)) (mL b 1 λn d=>fm Z 131 [t8,d] λm=>Dc t21 fg λi=>Blf Z N n1 t0 t1 t2 t7 t8 t20 i (fz f0 [255,22,23,9,24,25,26,27,10,28,29,31,32,33,34,35,36,37,11,38,39,40,41,42,43,44,45,46,47] [Ef,v1,t21,t21,t0,t21,t1,v2,v2,v2,v3,t0,t21,v4,o,g,k,j,b,t8,c,a,f,e,t8,n,d,m,i])))) (mC t2 (B5j Z N t8 fg (fz f0 [255,0,1,2,7,20,21,22,48] [Ef,t0,t1,t2,t7,t20,t21,v1,t2])) (B5j Z N t8 ff (fz f0 [255,0,1,2,7,20,21,22,48] [Ef,t0,t1,t2,t7,t20,t21,v1,t2])))) h:=kr
def Cfu:B5j Z N t8 t12 f0 h=(fv t8 λv1=>mL v1 0 λv2 v3=>fx 192 1 1 [ff] [(0,1,t12)] λv4=>fm Z 132 [v3,v4] λb=>gu .not b λa=>mC a (.ok (iI 10)) (.ok ff)) h:=kr
def e89:Ay prog Z N false 98 [a0,a1,a2] h=(Eh a0 λv1=>ij v1 (iI 200) λv2=>mC v2 (.ok (iI 4)) (fm Z 128 [] λv3=>fy (cd [.Bv,ff,.Bv,ff,.Bv,ff,.Bv,ff,.Bv,ff,.Bv,ff,.Bv,ff,.Bv,ff,.Bv,ff,.Bv,ff,.Bv,ff,.Bv,ff,.Bv,ff,.Bv,ff,.Bv,ff,.Bv,ff,.Bv,ff,.Bv,ff] 195) λv4=>fp 36 v4 v3 λc=>Eg 199 (.agg [.Bv]) λa=>Eh a0 λb=>Blf Z N N a0 a1 a2 v4 a b ff (fz Az [6,13,14,15,16,17,18,19] [ff,a0,v1,v2,v3,.agg [.Bv],a,a0]))) h:=kr
def Chc:Ay prog Z N false 163 [a0,a1,a2] h=(fw a1 ff λv1=>mW v1 false (.ok a0) λv2=>mW v1 false (.ok a1) λv3=>mW v1 false (bo .sub 3 true v3 fg) λv4=>mW v1 false (Gc 3 v2 v4) λv5=>mV v1 false v5 0 λv6 P=>mW v1 false (bo .neq 3 true P (iI 2)) λU=>ft v1 ux U λm=>mW m false (.ok a1) λs=>mW m false (bo .add 3 true s fg) λB=>mW m false (.ok a0) λv=>mW m false (Fo v) λS=>mW m false (bo .geq 3 false B S) λK=>ft m ux K λc=>mW c false (.ok a0) λE=>mW c false (.ok a1) λM=>mW c false (bo .add 3 true M fg) λG=>mW c false (Gc 3 E G) λF=>mV c false F 0 λL u=>mW c false (bo .neq 3 true u (iI 9)) λJw=>mW c false (.ok Jw) λi=>mW i true (.ok a0) λA=>mW i true (.ok a1) λI=>mW i true (bo .add 3 true I fg) λW=>mW i true (Gc 3 A W) λJ=>mV i true J 0 λT Po=>mW i true (bo .neq 3 true Po (iI 10)) λw=>mW c false (Bo i w ct) λx=>ft c ux x λRy=>mC Ry (.ok (iI 10)) (ib a1 fg λR=>Qw 3 a0 R λY=>mL Y 2 λVx X=>fm Z 96 [a2,X] λp=>fq p 0 λV=>fq p 1 λVj=>fy (cd [fk,ff,ff,.Bv] 100) λl=>fp 4 l V λW6=>mL l 3 λUx Q=>Eh Q λt=>fw t ff λC b=>Af C (.ok (iI 10) b) (Aa (Bs l 3 (Ab b)) λn f=>Aa (lN n (Ab f)) λy a=>Aa (Gc 3 a0 a1 (Ab a)) λz d=>Aa (Bs z 2 (Ab d)) λq k=>Aa (lN q (Ab k)) λO j=>Aa (Z.call 184 [y,O] (Ab j)) λD e=>Aa (Qe .not D (Ab e)) λr g=>Ff b.lg [eZ 512 511 .none g,eW 256 255 .none e g,eW 128 127 .all j e,eW 64 60 (Bn (some none) q) k j,eW 32 28 .none d k,eW 16 12 .none (Ab a) d,eZ 8 0 .none (Ab a),eZ 4 0 .none a,eW 2 1 (Bn (some none) n) f a,eW 1 0 .none b f] (Ab g) λo=>Af r (.ok (iI 7) o) (.ok ff o)))) h:=kr
variable (Z:Ac)(N n1:Nat)(a0 a1 t0 t1 t2 t3 t7 t8 t9 t10 t11:AV)(f0:L2)(h:H)
def CkN:KT:=Lk (cB 140 [1,1,1] false Z N j0 (fi Z 140))
def CkO:Nat->KT:=E4 0 (CkN Z N) j0
def CkP:KT->KT:=cB 140 [1,1,0,1,0,0] false Z N (CkO Z N)
def Bxw:OR:=F2 (CkP Z N) n1 (fz f0 [255,1,2,10,11] [.Bj [],t1,t2,t10,t11]) h
def B5P:Bxw Z N (n1+1) t1 t2 t10 t11 f0 h=(Pj t11 t10 λv1 h1=>Af v1 (Aa (Bs t1 3 (Ab h1)) λv2 h2=>Aa (lN v2 (Ab h2)) λv3 e=>Aa (Bs t1 3 (Ab e)) λv4 f=>Aa (lN v4 (Ab f)) λp d=>Aa (Gc 4 p t11 (Ab d)) λo m=>Aa (Bs o 3 (Ab m)) λk j=>Aa (lN k (Ab j)) λs l=>Aa (Z.call 167 [s] (Ab l)) λq h9=>Aa (Gc 4 v3 t11 (Ab h9)) λa i=>Aa (Bs a 3 (Ab i)) λb n=>Aa (A4 1 b q (Ab n)) λt g=>Ff h1.lg [eW 4096 4095 .all n g,eW 2048 2047 .none i n,eW 1024 1023 .none h9 i,eW 512 504 .all l h9,eW 256 248 (Bn (some none) k) j l,eW 128 120 .none m j,eW 64 56 .none (Ab d) m,eZ 32 0 .none d,eW 16 8 (Bn (some none) v4) f d,eW 8 0 .none (Ab e) f,eZ 4 0 .none e,eW 2 1 (Bn (some none) v2) h2 e,eW 1 0 .none h1 h2] g λv=>Aa (bo .add 3 true t11 fg v) λr=>Bxw Z N n1 t1 t2 t10 r (fz f0 [255,12,13,3,14,15,16,17,18,19,20,21,22,23,24,25,26] [Ef,v1,t11,t11,v2,v3,t11,v4,p,t11,o,k,s,q,a,b,r])) (Aa (lS 4 t1 h1) λu=>fp 4 t2 u λw=>Vk [.c (some (some 4)) t2])) h:=kr
def e60:Ay prog Z N false 140 [a0] h=(Eg 82 a0 λv1=>fy (cd [fk,ct,ff,.Bv] 82) λv2=>mL v1 3 λv3 v4=>fm Z 166 [v4] λd=>Ek v1 3 λb=>fp 1 b d λf=>mL v1 3 λe c=>Eh c λa=>Bxw Z N N v1 v2 a ff (fz Az [0,4,5,6,7,8,9] [a0,v3,v4,d,b,e,c])) h:=kr
def e19:Ay prog Z N false 104 [a0,a1] h=(Eg 30 a0 λv1=>fm Z 93 [a1] λv2=>fq v2 0 λv3=>fq v2 1 λv4=>fq v2 2 λn=>Dg v3 ff λg=>mC g (.ok .Bv) (gj 20 v1 λl=>fm Z 43 [l,a1] λd=>fq d 0 λk=>fq d 1 λa=>gu .not a λb=>mC b (.ok .Bv) (fv k λc=>mL c 29 λm f=>Db [fk,ct,ff,.Bv] [(3,1,f)] λj=>fm Z 140 [j] λe=>mM (BlW (some none) 3 e) λi=>.ok i))) h:=kr
def Cgl:KT:=Lk (cB 211 [1,1,1] false Z N j0 (fi Z 211))
def Cgm:Nat->KT:=E4 0 (Cgl Z N) j0
def Cgn:KT->KT:=cB 211 [1,1,0,1,0,0] false Z N (Cgm Z N)
def BiD:OR:=F2 (Cgn Z N) n1 (fz f0 [255,0,3,7,8,9] [.Bj [],t0,t3,t7,t8,t9]) h
def Bxk:BiD Z N (n1+1) t0 t3 t7 t8 t9 f0 h=(Pj t9 t8 λv1=>mC v1 (Qw 1 t7 t9 λv2=>ga v2 λv3=>Db [fk,ct] [(0,1,v3)] λv4=>gi prog 289 (.agg []) t3 v4 (.agg []) λe=>Dc t9 fg λa=>BiD Z N n1 t0 t3 t7 t8 a (fz f0 [255,10,11,12,5,13,14,15,16,17] [Ef,v1,v2,v3,v3,t3,v3,v4,.agg [],a])) (mM (lnM t3) λd=>Eh t0 λb=>Pj d b λc=>.ok c)) h:=kr
def Cr9:Ay prog Z N false 211 [a0] h=Aa (mk h (.map []) (.map h.nx)) λv1=>Eh a0 λv2=>BiD Z N N a0 v1 a0 v2 ff (fz Az [2,6] [ct,v1]):=kr
variable (Z:Ac)(N n1:Nat)(a0 t0 t4 t40 t41 t42:AV)(f0:L2)(h:H)
def e55:Ay prog Z N false 52 [a0] h=(fx 3 1 3 [ff,ff,ff] [(0,1,fg),(1,1,iI 2),(2,1,iI 5)] λv1=>fm Z 95 [a0,v1] λv2 h2=>Af v2 (.ok ff h2) (Aa (Fu a0 (Ab h2)) λv3 l=>Aa (Bs v3 29 (Ab l)) λv4 f=>Aa (lN v4 (Ab f)) λz d=>Aa (Fu a0 (Ab d)) λs m=>Aa (Bs s 0 (Ab m)) λx i=>Aa (Bs x 6 (Ab i)) λp k=>Aa (lN p (Ab k)) λv h9=>Aa (Z.call 96 [z,v] (Ab h9)) λa c=>Aa (L9 a 0 (Ab c)) λn o=>Aa (L9 a 1 (Ab o)) λe b=>Aa (mk (Ab b) (cd [fk,ff,ff,.Bv] 100) (.ptr (Ab b).nx 0)) λq j=>Aa (A4 4 q n (Ab j)) λA g=>Ff h2.lg [eZ 32768 32767 .none g,eW 16384 12287 .all j g,eW 8192 0 .none b j,eW 4096 2047 .none o b,eW 2048 2047 .none (Ab c) o,eZ 1024 1023 .none c,eW 512 511 .all h9 c,eW 256 240 (Bn (some none) p) k h9,eW 128 112 .none i k,eW 64 48 .none m i,eW 32 16 .none (Ab d) m,eZ 16 0 .none d,eW 8 7 (Bn (some none) v4) f d,eW 4 3 .none l f,eW 2 1 .none (Ab h2) l,eZ 1 0 .none h2] (Ab g) λy=>Aa (Qe .not e y) λr=>mC r (.ok (iI 7)) (gj 4 q λw=>fm Z 100 [w] λu=>ij u (iI 64) λt=>mC t (.ok (iI 2)) (.ok ff)))) h:=kr
def CkH:KT:=Lk (cB 53 [1,1,1,1,1] false Z N j0 (fi Z 53))
def CkI:Nat->KT:=E4 1 (CkH Z N) j0
def CkJ:KT->KT:=cB 53 [1,1,1,1,0,1,0,0] false Z N (CkI Z N)
def Bxt:OR:=F2 (CkJ Z N) n1 (fz f0 [255,0,4,40,41,42] [.Bj [],t0,t4,t40,t41,t42]) h
def B5o:Bxt Z N (n1+1) t0 t4 t40 t41 t42 f0 h=(Pj t42 t41 λv1=>mC v1 (Qw 2 t40 t42 λv2=>gj 2 v2 λv3=>fy (cd [ff,ff] 48) λv4=>fp 2 v4 v3 λB=>mM (AxM 2 1 v4 ff) λl=>ga l λt=>mL t4 1 λx p=>Pj t p λa=>mW a false (AxM 2 1 v4 fg) λg=>mW a false (lN g) λe=>mV a false t4 2 λw r=>mW a false (bo .gtr 3 false e r) λn=>ft a ux n λb=>mW b false (AxM 2 1 v4 fg) λs=>mW b false (lN s) λo=>mW b false (AxM 2 1 v4 ff) λm=>mW b false (lN m) λf=>mW b false (bo .lss 3 false o f) λd=>ft b ux d λv=>mC v (.ok (iI 2)) (Dc t42 fg λu=>Bxt Z N n1 t0 t4 t40 t41 u (fz f0 [255,43,44,45,7,46,47,48,49,50,51,52,53,54,55,56,57,58,59,60,61,62,63,64,65] [Ef,v1,v2,v3,v4,l,t,x,p,a,a,g,e,w,r,n,b,b,s,o,m,f,d,v,u]))) (fv t0 λk=>Ek k 0 λz=>mL z 9 λA q=>ie q ff λc=>mW c false (.ok q) λy=>mW c false (bo .gtr 3 true y (iI 2)) λi=>ft c ux i λj=>mC j (.ok (iI 2)) (.ok ff))) h:=kr
def e56:Ay prog Z N false 53 [a0] h=(fv a0 λv1=>Ek v1 0 λv2=>mL v2 8 λv3 v4=>fx 3 1 1 [ff] [(0,1,iI 10)] λF=>fm Z 95 [a0,F] λA=>gu .not A λt=>mC t (.ok ff) (Eh v4 λE=>fw E ff λp=>mC p (.ok (iI 3)) (Eh v4 λc=>ij c (iI 64) λb i=>Af b (.ok (iI 4) i) (Aa (Fu a0 (Ab i)) λe o=>Aa (Bs e 29 (Ab o)) λv s=>Aa (lN v (Ab s)) λD k=>Aa (Fu a0 (Ab k)) λB x=>Aa (Bs B 0 (Ab x)) λz n=>Aa (Bs z 6 (Ab n)) λq r=>Aa (lN q (Ab r)) λC y=>Aa (Z.call 96 [D,C] (Ab y)) λj l=>Aa (L9 j 0 (Ab l)) λf u=>Aa (L9 j 1 (Ab u)) λd m=>Aa (mk (Ab m) (cd [fk,ff,ff,.Bv] 100) (.ptr (Ab m).nx 0)) λG a=>Aa (A4 4 G f (Ab a)) λJ g=>Ff i.lg [eZ 32768 32767 .none g,eW 16384 12287 .all a g,eW 8192 0 .none m a,eW 4096 2047 .none u m,eW 2048 2047 .none (Ab l) u,eZ 1024 1023 .none l,eW 512 511 .all y l,eW 256 240 (Bn (some none) q) r y,eW 128 112 .none n r,eW 64 48 .none x n,eW 32 16 .none (Ab k) x,eZ 16 0 .none k,eW 8 7 (Bn (some none) v) s k,eW 4 3 .none o s,eW 2 1 .none (Ab i) o,eZ 1 0 .none i] (Ab g) λw=>Aa (Fo v4 w) λI=>Bxt Z N N a0 G v4 I ff (fz Az [2,9,10,11,12,13,3,15,16,17,18,14,20,21,22,19,24,25,26,23,28,29,30,31,32,33,34,35,36,37,27,38,39,5] [ff,a0,v1,v2,v3,v4,v4,a0,F,A,t,t,v4,E,p,p,v4,c,b,b,a0,e,v,D,a0,B,z,q,C,j,j,f,d,d]))))) h:=kr
variable (Z:Ac)(N:Nat)(a0 a1:AV)(f0:L2)(h:H)
def Cri:Ay prog Z N false 130 [a0,a1] h=(fv a0 λv1=>mL v1 0 λv2 v3=>Eh v3 λv4=>Eh a1 λk=>Qj .sub 3 false v4 k λd=>ie d ff λa=>mW a false (.ok a0) λs=>mW a false (Fu s) λm=>mV a false m 0 λi f=>mW a false (.ok d) λc=>mW a false (xSl prog 191 f (some c) none) λq=>mW a false (.ok a1) λn=>mW a false (Z.call 132 [q,n]) λj=>mW a false (Qe .not j) λg=>ft a ux g λo=>mC o (.ok ct) (fv a0 λl=>mL l 0 λu e=>Di prog 191 e none (some d) λb=>fv a0 λt=>Ek t 0 λr=>fp 1 r b λp=>.ok ux)) h:=kr
def Crj:Ay prog Z N false 131 [a0,a1] h=(fv a0 λv1=>mL v1 0 λv2 v3=>fx 192 1 1 [ff] [(0,1,a1)] λv4=>gm 192 1 8 v3 v4 λc=>fv a0 λa=>Ek a 0 λb=>fp 1 b c λd=>.ok Ef) h:=kr
end Go.Proofs
