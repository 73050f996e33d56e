/- The other built-in functions. -/
import Derived.Test.YtmjmhajonaelcaaGreatDoorEvB
import Derived.Laws.BytesString
import Derived.Laws.LoneSync
import Derived.Lib.UnsafeStr
set_option linter.all false
noncomputable section
namespace Go.Ev
variable {j:List Value}{o:List MapEntry}{p:TypeDesc}{C:Value}{I:TypeInfo}{J:SI}
variable [Ii]
variable {P:Program}{G:Nat}{σ:Dx}{h h':H}{w w':World}{v:AV}{nt:Nat}{f:L2}{a:Act}{Z:Ac}
structure St(G:Nat)(σ:Dx)(nt:Nat)(f:L2)(a:Act)(h:H)(w:World):Prop where
 fr:Pt σ nt f a
 gl:Vm G σ
 ai:Om h
 so:SOk σ w
 ma:V1 G σ h.m.get w
def Fx(σ:Dx)(h h':H):Prop:=∀b,h.nx<=b->b<h'.nx->σ b=none
def R5(P:Program)(G:Nat)(o:Oper):Prop:=∀(σ:Dx) (nt:Nat) (f:L2) (a:Act) (h h':H) (w:World) (v:AV) (Z:Ac),
 opD o.op o.type P Z f h=.ok v h'->o.op.operands.toList.all (Es G)=true->St G σ nt f a h w->h'.nx<=Bq->Fx σ h h' ->
 ∃b v' w',Ran P (execOp a.eval o) w v' w'/\Au b v v'/\Out G σ h w b h' w'
def Ag4.out{v'}(i:Ag4 σ h w v v' h' w')(b:St G σ nt f a h w)(e:h'.nx<=Bq)(d:Fx σ h h'):∃g,Au g v v'/\Out G σ h w g h' w':=by cases i with
|quiet v v' j=>exact⟨_,j,Out.refl b.ai b.so b.ma⟩
|ptr cs D7 t hc=>have c:=e;exact⟨_,.ptr _ 0 ⟨_,cs.length,none⟩ (by simp[Gu]),Tc b.ai b.so b.ma c (d _ (Ye _) (Up _)) hc⟩
|sl cs D7 t len cap sz hle hc=>have c:=e;exact⟨_,.sl _ 0 _ _ _ _ ⟨_,cs.length,none⟩ _ (by simp[Gu]) hle (Ye _) (λ_=>rfl) λk=>by grind,Tc b.ai b.so b.ma c (d _ (Ye _) (Up _)) hc⟩
def Hm.to3{o}(i:Hm P G o):R5 P G o:=by intro σ nt f a h h' w v Z d De b e c;obtain⟨v',w',h1,g⟩:=i _ _ f a h _ w v _ d De b.fr b.gl;obtain⟨k,l,j⟩:=g.out b e c;grind
section ops
variable {dst:Option Tmp}{ty:TypeId}{pos:String}{af:Array Edge}{gd:Option (Nat × Bool)}
def AjC t x:R5 P G ⟨dst,.load t x,ty,pos,af,gd⟩:=by intro σ nt f a h h' w v Z d De c j i;obtain⟨v',h1,g,rfl⟩:=Ae0 t x d (by simpa[Op.operands]using De) c.fr c.gl λb off e _=>c.ma b e;exact⟨_,_,w,h1,g,Out.refl c.ai c.so c.ma⟩
def V3{cs}{l}(hc:Bk σ cs l)(c:Bm cs=true):∀u∈l,u.oneCell'=true:=by
 intro u b;obtain⟨i,hi,rfl⟩:=List.getElem_of_mem b;have d:=by have:=hc.1;omega
 exact Arz ((AfG _).1 c cs[i] (dl _)) (hc.2 i _ _ (Oh _) (Oh _))
def L6 σ:Au σ (.Bj []) undef:=.Bj _ _ rfl λi x y b _=>by grind
def Agc{r}(b:AnU r=.ok v h'):r=.ok h'/\v=.Bj []:=by cases r<;>cases b;simp
def Ah3 t x y:R5 P G ⟨dst,.store t x y,ty,pos,af,gd⟩:=by
 intro σ nt f a h h' w v Z A De d E D;simp[Op.operands]at De;have z:=Cj d.fr d.gl x De.1;have q:=Cj d.fr d.gl y De.2;have k:stV _ _ _ h=.ok v _:=A;generalize ev x f=u at *;generalize C:a.eval x=xx at *;cases z<;>first|(cases k)|rename_i b off e o;have c:stC _ _ b _ h=.ok v _:=k;unfold stC at c;split at c
 .rename_i cs n hc hn;rcases Bl c with⟨h1,c⟩|⟨_,c⟩
  .rcases Bl c with⟨m,c⟩|⟨_,c⟩
   .obtain⟨p,rfl⟩:=Agc c;have j:=O4 hc q;obtain⟨i,l,k2⟩:=F3 hn;have g:=Ch h1;rw[Gh]at g;obtain⟨w',s,r⟩:=Agp (P:=P) p d.ai d.so d.ma o j (V3 j m);have B:(a.eval y).cells.size=i.size:=by have:=j.1;grind
    refine⟨_,_,_,.inr ⟨?_,rfl⟩,L6 _,r⟩;simp[execOp,C,Instr.storeAt,Instr.sureAddr,storeVar,sizeOf,typeInfo,l,B,s]
   grind
  grind
 grind
def AeI{o}{u}(b:mk h o u=.ok v h'):v=u/\h'=h.new o:=by cases b;simp
def AdI t r:R5 P G ⟨dst,.makeMap t r,ty,pos,af,gd⟩:=by intro σ nt f a h h' w v Z g De c j e;have d:=g;cases r with
|some r=>cases d
|none=>
 obtain⟨rfl,rfl⟩:=AeI (show mk h ..=.ok v _ from d);have k:=j;have b:=e _ (Ye _) (Up _);refine⟨Gu σ h.nx ⟨w.heap.size,0,none⟩,.map (some w.heap.size),Dd w (.map #[] 0),.inl ?_,?_,?_⟩;. rfl
 .exact .map _ ⟨_,0,none⟩ (by simp[Gu])
 .exact Yf c.ai c.so c.ma k b rfl rfl ⟨rfl,_,0,F1 w _,rfl,λi x y l _=>by grind⟩
def wrap_small(m:Nat)(b:m<1000000000000):IntKind.i64.wrap m=m:=by apply Agq;have h1:IntKind.i64.min=-9223372036854775808:=rfl;simp_all;omega
def Qc{x}{n}(b:Arm x=some n):x=.int .i64 (.ofNat n):=by
 unfold Arm at b;split at b;. rename_i m c;cases b;exact P1 c
 grind
def Abh(t:TypeId)(x y:Operand):R5 P G ⟨dst,.makeSlice t x y,ty,pos,af,gd⟩:=by
 refine Hm.to3 ?_;intro σ nt f a h h' w v Z T De D B;simp[Op.operands]at De;have I:=Cj D B x De.1;have E:=Cj D B y De.2;have b:H5 t x y ty P Z f h=.ok v h':=T;unfold H5 at b;split at b
 .rename_i i n m R hn S;obtain⟨O,z,zz,F,hi,p,d,Q,o,r,M,U⟩:=Pk R;rw[Q]at b;dsimp only at b;rw[Qc hn]at I;rw[Qc S]at E;generalize J:a.eval x=xx at *;generalize c:a.eval y=yy at *;cases I;cases E;rcases Bl b with⟨h1,b⟩|⟨_,b⟩
  .rcases Bl b with⟨K,b⟩|⟨_,b⟩
   .obtain⟨rfl,rfl⟩:=AeI b;have u:=G2 h1;have Y:=Ec K;have g1:m<=m*(i.bytes+i.s+1):=Nat.le_mul_of_pos_right m om;have g2:m*i.bytes<=m*(i.bytes+i.s+1):=cq m om;have C:=wrap_small m om;have wn:=wrap_small n om;have V:¬ ((m:Int)<0):=by omega
    have q2:¬ ((i.bytes:Int)*(m:Int) > 2^48):=by grind
    have W:¬ ((n:Int)<0):=by omega
    have X:¬ ((n:Int) > (m:Int)):=by omega
    have k:=Aiy (U σ) m;rw[r]at k;refine⟨.slice (some ⟨w.heap.size,0,none⟩) n m,Dd w (.cells ((Array.range (m*i.s)).map (λj=>zz.cells[j%zz.cells.size]!)) i.e),.inl ?_,?_⟩
    .have l:((((m:Int)<0||(i.bytes:Int)*(m:Int) > 2^48)||(n:Int)<0||(n:Int) > (m:Int)):Bool)=false:=by simp_all
     by_cases q:m*i.s=0
     .have A:∀g:Nat->Value,(Array.range (m*i.s)).map g=#[]:=λg=>by rw[q];apply Array.ext';simp
      simp only[execOp,J,c,Instr.makeSlice,asInt,asIntOf,typeInfo,sizeOf,Sem.run_bind,run_program,Result.andThen_ok,Sem.run_pure,run_underlying F,hi,p,d,dn,C,wn,run_askRoom,newRow,A,Lm];simp only[dn,l,Mh,Fl];have L:Array.range 0=(#[]:Array Nat):=by apply Array.ext';simp
      simp[q,A,Dd,hi,p,L]
     .simp only[execOp,J,c,Instr.makeSlice,asInt,asIntOf,typeInfo,sizeOf,zeroValue,Sem.run_bind,run_program,Result.andThen_ok,Sem.run_pure,run_underlying F,hi,p,d,o,dn,C,wn,run_askRoom,newRow,Lm];simp only[l,Mh,Fl];simp[q,Dd,hi,p,o,typeInfo]
    .exact .sl (Ade z m) _ i.e n m i.s u k
   .cases b
  .cases b
 .cases b
end ops
section ops
variable {dst:Option Tmp}{ty:TypeId}{pos:String}{af:Array Edge}{gd:Option (Nat × Bool)}
def Xg{x}{n}(b:Xf x=some n):x=.int .u8 (.ofNat n)/\n<256:=by
 unfold Xf at b;split at b;. rename_i m c;cases hq:Nat.blt m 256 with
   |false=>simp_all
   |true=>rw[hq]at b;cases b;exact⟨P1 c,Ec hq⟩
 grind
def AfY x cs:Yj (x::cs)=match Xf x,Yj cs with|some n,some r=>some (n::r)|_,_=>none:=rfl
def AaQ:∀cs s l,Yj cs=some s->Bk σ cs l->l=(s.map Int.ofNat).map (Value.int .u8)/\∀n∈s,n<256:=by intro cs;induction cs with
|nil=>intro s l b c;cases b;exact⟨c.Rt,λn hn=>by grind⟩
|cons x cs g=>
 intro s l b c;rw[AfY]at b;split at b;. rename_i n r hn e;obtain⟨y,j,rfl,d,i⟩:=c.F8;obtain⟨rfl,k⟩:=Xg hn;cases d;grind
 grind
def Afp r(n:Nat)(hn:n<256):bytesOf (r.push (UInt8.ofNat n))=bytesOf r++[n]:=by unfold bytesOf;simp_all
def Afo:∀s r,(∀n∈s,n<256)->bytesOf ((s.map Int.ofNat).foldl (λr n=>r.push (UInt8.ofNat n.toNat)) r)=bytesOf r++s:=by intro s;induction s with
|nil=>simp
|cons n s c=>intro r b;simp[Co,du];rw[c _ λm d=>b m (by grind),Afp r n (b n (by simp))];simp
def AdA:bytesOf ByteArray.empty=[]:=rfl
def Aam{c}{arr}{t}{fz}(hc:w.heap[c]?=some (.cells arr t fz)):w.shape? c=some (t,arr.size):=by simp[World.shape?,hc]
def Ahx w arr t n:(Dd w (.cells arr t)).freeze ⟨w.heap.size,n,none⟩ 1=Dd w (.cells arr t (n,n+1)):=by unfold World.freeze Dd;simp[Nat.one_ne_zero,Fl];congr 1;grind
def AaZ σ s:Bk σ (U2 (bytesOf s)) (s.data.map λb=>Value.int .u8 b.toNat).toList:=by unfold bytesOf;rw[Array.toList_map];generalize s.data.toList=l;induction l with
|nil=>exact Bk.nil _
|cons b l c=>exact .cons (.int ..) c
def AaY s:(U2 s).length=s.length:=by induction s with
|nil=>rfl
|cons a s b=>show(U2 s).length+1=_;grind
def St.draw(c:St G σ nt f a h w)(n:Nat):St G σ nt f a h { w with drawn:=n }:=⟨c.fr,c.gl,c.ai,⟨c.so.inj,c.so.rng,c.so.low⟩,λb e g=>Gr.congr (Qq.refl σ) rfl (λ_ _ _ _ _ d=>d) (c.ma b e g)⟩
def Out.draw{n:Nat}{b:Dx}(e:Out G σ h { w with drawn:=n } b h' w'):Out G σ h w b h' w':=by obtain⟨nw,c,a2,d⟩:=e;exact⟨nw,c,⟨a2.le,a2.fresh,a2.ok,a2.grow,a2.frame,a2.Vh,a2.io⟩,d⟩
def AmA(P:Program)(s d:TypeId):match ApL P s d with
 |.bad=>True
 |.int k=>(∃j,P.underlying s=some (.int j))/\P.underlying d=some (.int k)
 |.Agl e=>P.underlying s=some .string/\P.underlying d=some (.slice e)/\P.underlying e=some (.int .u8)/\F7 P e=some 1
 |.ofBytes=>∃e,P.underlying s=some (.slice e)/\P.underlying d=some .string/\P.underlying e=some (.int .u8)
 |.toU=>∃e b,P.underlying s=some (.pointer e)/\P.underlying d=some .unsafePointer/\P.info? e=some b/\b.size≠0
 |.ofU u=>∃b,P.underlying s=some .unsafePointer/\P.underlying d=some (.pointer u)/\P.info? u=some b/\b.size≠0:=by
 generalize hc:ApL P s d=c;unfold ApL at hc;split at hc
 .rename_i j k h1 g;subst hc;exact⟨⟨j,h1⟩,g⟩
 .rename_i e h1 g;split at hc
  .rename_i i l;subst hc;exact⟨h1,g,i,l⟩
  .subst hc;trivial
 .rename_i e h1 g;split at hc
  .rename_i i;subst hc;exact⟨e,h1,g,i⟩
  .subst hc;trivial
 .rename_i e h1 g;split at hc
  .rename_i n i;subst hc;obtain⟨b,l,m⟩:=F3 i;exact⟨e,b,h1,g,l,by omega⟩
  .subst hc;trivial
 .rename_i u h1 g;split at hc
  .rename_i n i;subst hc;obtain⟨b,l,m⟩:=F3 i;exact⟨b,h1,g,l,by omega⟩
  .subst hc;trivial
 .subst hc;trivial
def AdH(s d:TypeId)(x:Operand):R5 P G ⟨dst,.convert s d x,ty,pos,af,gd⟩:=by
 intro σ nt f a h h' w v Z he De l hl hf;have m:=Cj l.fr l.gl x (by simpa[Op.operands]using De);have g:Ml s d x ty P Z f h=.ok v h':=he;unfold Ml at g;have z:=AmA P s d;generalize B:a.eval x=xx at *
 split at g<;>rename_i hcv<;>rw[hcv]at z
 .rename_i k;obtain⟨⟨j,h1⟩,q⟩:=z;split at g
  .rename_i k2 n o;rw[P1 o]at m;cases m;obtain⟨rfl,rfl⟩:=B4 g;refine⟨σ,.int k (k.wrap n),w,.inl ?_,by rw[Ub];exact .int _ _,Out.refl l.ai l.so l.ma⟩;simp[execOp,B,convert,run_underlying h1,run_underlying q,Conv.intToInt]
  .cases g
 .rename_i e;obtain⟨h1,q,A,O⟩:=z;split at g
  .rename_i s2 o;rw[Rj o]at m;cases m;rename_i p;rcases Bl g with⟨hsm,g⟩|⟨_,g⟩
   .obtain⟨rfl,rfl⟩:=B4 g;have D:Y2 (bytesOf p)=p.size:=by rw[Rf,Gv]
    generalize hq:Question.cut (.appendCap p.size 0 e) (w.tape w.drawn (.appendCap p.size 0 e))=cap;have Ah8:p.size<=cap:=by rw[<- hq];simp[Question.cut]
    generalize F:(p.data.map λb=>Value.int .u8 b.toNat)++Array.replicate (cap-p.size) (Value.int .u8 0)=arr;have BdZ:p.data.size=p.size:=rfl;have Fc:arr.size=cap:=by rw[<- F];simp;omega
    have Vs:h.nx+1<Bq:=hl;have T:σ (h.nx+1)=none:=hf _ om (by show h.nx+1<h.nx+2;omega)
    have J:=l.draw (w.drawn+1);have hg:=Ae4 (G:=G) (cs:=U2 (bytesOf p)) (t:=e) (arr:=arr) (fz:=(arr.size,arr.size+1)) J.ai J.so J.ma Vs (hf _ (Ye _) (by show h.nx<h.nx+2;omega)) T (by rw[AaY,Gv];omega) (by intro i u y hu hy;have hr:=AaZ σ p;have hi:=(Wp.1 hu).1;rw[AaY,Gv]at hi;refine hr.2 i u y hu ?_;rw[<- hy,<- F,bt (by simp;omega)];simp) (λi hi=>by omega)
    refine⟨_,.slice (some ⟨w.heap.size,0,none⟩) p.size cap,_,.inl ?_,?_,Out.draw hg⟩
    .have W:(Dd { w with drawn:=w.drawn+1 } (.cells arr e)).shape? w.heap.size=some (e,arr.size):=Aam (F1 { w with drawn:=w.drawn+1 } _);have hfz:=Ahx { w with drawn:=w.drawn+1 } arr e arr.size;have X:(Question.appendCap p.size 0 e).forced=false:=rfl;have hch:(choose (.appendCap p.size 0 e)).run P w=.ok cap { w with drawn:=w.drawn+1 }:=by simp only[choose,Sem.run,X,Mh,Fl,hq]
     have V:(newRow e arr).run P { w with drawn:=w.drawn+1 }=.ok ⟨w.heap.size,0,none⟩ (Dd { w with drawn:=w.drawn+1 } (.cells arr e)):=rfl;have S:(markStringish ⟨w.heap.size,0,none⟩).run P (Dd { w with drawn:=w.drawn+1 } (.cells arr e))=.ok () (Dd { w with drawn:=w.drawn+1 } (.cells arr e (arr.size,arr.size+1))):=by simp only[markStringish,Sem.run_bind,run_shape,Result.andThen_ok,W,run_freeze];exact Jh (Result.ok ()) hfz
     simp only[execOp,B,convert,Sem.run_bind,run_underlying h1,run_underlying q,run_underlying A,Result.andThen_ok,Conv.stringToBytes,hch,F,V,S,Sem.run_pure]
    .rw[D];exact .sl _ 0 _ _ 1 false ⟨w.heap.size,arr.size,some h.nx⟩ cap (by simp[Gu]) (Ye _) Ah8 (λhh=>by cases hh) (λ_=>by simp;omega)
   .cases g
  .cases g
 .obtain⟨e,h1,q,A⟩:=z;split at g
  .rename_i o;rw[Ok o]at m;cases m;obtain⟨rfl,rfl⟩:=B4 g;refine⟨σ,.string .empty,w,.inl ?_,.str ByteArray.empty,Out.refl l.ai l.so l.ma⟩;simp[execOp,B,convert,run_underlying h1,run_underlying q,run_underlying A,Conv.bytesToString]
  .rename_i b off len cap sz ex o;rw[Ri o]at m;cases m;rotate_left
   .rename_i off e1 a U C;split at g
    .rename_i c Q;have E:Nf c (off+1) 0=some []\/Nf c (off+1) 0=none:=by
      rw[E5];split
      .left;simp
      .right;rfl
     rcases E with E|E
     .rw[E]at g;obtain⟨rfl,rfl⟩:=B4 g;have L:=run_bytesToString (P:=P) w a 0 U [] rfl;refine⟨σ,.string ByteArray.empty,w,.inl ?_,.str ByteArray.empty,Out.refl l.ai l.so l.ma⟩;simp only[execOp,B,convert,Sem.run_bind,run_underlying h1,run_underlying q,run_underlying A,Result.andThen_ok,L,Sem.run_pure];rfl
     .rw[E]at g;cases g
    .cases g
   rename_i e1 U C g1 g2 g3 g4;split at g
   .rename_i c Q;split at g
    .rename_i cs E;split at g
     .rename_i s2 R;obtain⟨rfl,rfl⟩:=B4 g;obtain⟨arr,tt,fz,K,q2,q3,q4⟩:=No Q (l.ma b e1 C);obtain⟨r1,_,_⟩:=Js E;have Q0:=Uj E q4 om;obtain⟨r2,r3⟩:=AaQ cs s2 _ R Q0;have M:=Mo (P:=P) K (show off+len<=arr.size by omega)
      rw[r2]at M;have L:=run_bytesToString (P:=P) w ⟨e1.c,off,none⟩ len U (s2.map Int.ofNat) M;refine⟨σ,.string ((s2.map Int.ofNat).foldl (λr n=>r.push (UInt8.ofNat n.toNat)) ByteArray.empty),w,.inl ?_,?_,Out.refl l.ai l.so l.ma⟩
      .simp only[execOp,B,convert,Sem.run_bind,run_underlying h1,run_underlying q,run_underlying A,Result.andThen_ok,L,Sem.run_pure]
      .have e5:=Afo s2 ByteArray.empty r3;rw[AdA,I3]at e5;have:=Au.str (σ:=σ) ((s2.map Int.ofNat).foldl (λr n=>r.push (UInt8.ofNat n.toNat)) ByteArray.empty);rw[e5]at this;exact this
     .cases g
    .cases g
   .cases g
  .cases g
 .obtain⟨e,Y,h1,q,A,O⟩:=z;split at g
  .rename_i o;rw[Wv o]at m;cases m;obtain⟨rfl,rfl⟩:=B4 g;refine⟨σ,.pointer none,w,.inl ?_,.Ob,Out.refl l.ai l.so l.ma⟩;simp[execOp,B,convert,run_underlying h1,run_underlying q,Conv.unsafePointer]
  .rename_i b off o;rw[P2 o]at m;cases m;rename_i e1 C;split at g
   .rename_i c Q;rcases Bl g with⟨B6,g⟩|⟨_,g⟩
    .obtain⟨rfl,rfl⟩:=B4 g;have A8G:=Ec B6;rw[Gh]at A8G;obtain⟨arr,tt,fz,K,q2,q3,q4⟩:=No Q (l.ma b e1 C);have O9:w.cell? ⟨e1.c,off,none⟩=some arr[off]:=by rw[Xj K];exact S2 om
     have L:=run_convert_to_unsafe (P:=P) h1 q (by rw[A];simp[O]) O9;refine⟨σ,.pointer (some ⟨e1.c,off,none⟩),w,.inl ?_,.ptr b off e1 C,Out.refl l.ai l.so l.ma⟩;simp[execOp,B,L]
    .cases g
   .cases g
  .cases g
 .rename_i u;obtain⟨Y,h1,q,A,O⟩:=z;split at g
  .rename_i o;rw[Wv o]at m;cases m;obtain⟨rfl,rfl⟩:=B4 g;refine⟨σ,.pointer none,w,.inl ?_,.Ob,Out.refl l.ai l.so l.ma⟩;simp[execOp,B,convert,run_underlying h1,run_underlying q,Conv.unsafePointer]
  .rename_i b off o;rw[P2 o]at m;cases m;rename_i e1 C;split at g
   .rename_i c e2 hgb;rcases Bl g with⟨I,g⟩|⟨_,g⟩
    .obtain⟨rfl,rfl⟩:=B4 g;have Ha:=l.ma b e1 C;rw[hgb]at Ha;obtain⟨arr,lo,hi2,K,q2,q3,q4,q5,q6⟩:=Ha.2 trivial;have D:=q5 rfl;unfold Awp at I;rw[Gh]at I;have Fc:arr.size=c.length:=by omega
     refine⟨σ,.pointer (some ⟨e1.c,off,none⟩),w,.inl ?_,.ptr b off e1 C,Out.refl l.ai l.so l.ma⟩;simp[execOp,B,convert,run_underlying h1,run_underlying q,Conv.unsafePointer,Conv.seenAt,viewAt,Aam K,sizeOf,typeInfo,A,O,variablesAt,Fc,I]
    .cases g
   .cases g
  .cases g
 .cases g
end ops
section ops
variable {dst:Option Tmp}{ty:TypeId}{pos:String}{af:Array Edge}{gd:Option (Nat × Bool)}
def AhL{kt:TypeId}(r:AlK P kt=true):∃d,P.underlying kt=some d/\(∀(x y:AV) (x' o:Value) (b:Bool),Gy P kt x y=some b->Au σ x x'->Au σ y o->Instr.sameNow d x' o=some b) /\
 ∀(e:Bool) (x':Value) (w:World),(Instr.checkKey e 10000 kt x').run P w=.ok () w:=by
 have p:=AbD P kt;have u:∀d,P.underlying kt=some d->(∀m,d≠.interface m)->(∀n e,d≠.array n e)->(∀z,d≠.struct z)->∀(n:Nat) (e:Bool) (x':Value) (w:World),(Instr.checkKey e (n+1) kt x').run P w=.ok () w:=λd q h1 i A n e x' w=>by simp only[Instr.checkKey,Sem.run_bind,run_underlying q,Result.andThen_ok];cases d<;>first|rfl|(exact absurd rfl (h1 _))|(exact absurd rfl (i _ _))|(exact absurd rfl (A _))
 unfold AlK at r;cases s:tk P kt<;>rw[s]at r p<;>first|(cases r;done)|skip
 .obtain⟨k,q⟩:=p;refine⟨.int k,q,?_,u _ q (by simp) (by simp) (by simp) 9999⟩;intro x y x' o b hq l j;have c:Dy P (aeq P 2) kt x y=some b:=hq;unfold Dy at c;rw[s]at c;dsimp only at c;split at c
  .rename_i t n1 k2 B h1 i;rw[P1 h1]at l;rw[P1 i]at j;cases l;cases j;cases g:kEq t k2 with
   |false=>rw[g]at c;cases c
   |true=>rw[g]at c;have e1:=(Q3 t k2).1 g;subst e1;cases c;rw[Q1];simp[Instr.sameNow]
  .cases c
 .refine⟨.string,p,?_,u _ p (by simp) (by simp) (by simp) 9999⟩;intro x y x' o b hq l j;have c:Dy P (aeq P 2) kt x y=some b:=hq;unfold Dy at c;rw[s]at c;dsimp only at c;split at c
  .rename_i C s2 h1 i;rw[Rj h1]at l;rw[Rj i]at j;cases l;cases j;cases c;rw[U1];simp[Instr.sameNow,beq_toListBytes]
  .cases c
def Kp(σ:Dx)(b:List (AV × AV))(l:List MapEntry):Prop:=
 b.length=l.length/\∀(i:Nat) (x:AV × AV) (y:MapEntry),b[i]?=some x->l[i]?=some y->Au σ x.1 y.key/\Au σ x.2 y.val
def Kp.F8{x:AV × AV}{d:List (AV × AV)}(c:Kp σ (x::d) o):∃y b,o=y::b/\Au σ x.1 y.key/\Au σ x.2 y.val/\Kp σ d b:=by
 cases o with
 |nil=>have:=c.1;simp at this
 |cons y b=>have e:=c.2 0 x y (by simp) (by simp);refine⟨y,b,rfl,e.1,e.2,by have:=c.1;simpa using this,λi u z g j=>c.2 (i+1) u z (by simpa using g) (by simpa using j)⟩
def Kp.cons{x:AV × AV}{y:MapEntry}{e:List (AV × AV)}(h1:Au σ x.1 y.key)(g:Au σ x.2 y.val)(d:Kp σ e o):Kp σ (x::e) (y::o):=by
 refine⟨by simp[d.1],λi u z b c=>?_⟩;cases i with
 |zero=>simp at b c;subst b;subst c;exact⟨h1,g⟩
 |succ i=>simp at b c;exact d.2 i u z b c
def Qo(P:Program)(kt:TypeId)(k':Value)(l:List MapEntry)(r:Option (Nat × Value)):Prop:=∀w,(Instr.findKey kt k' l).run P w=.ok r w
def Xr{kt:TypeId}(b:P.underlying kt=some p){k':Value}{r:Option (Nat × Value)}(h:Instr.findNow p k' o 0=some r):Qo P kt k' o r:=by intro w;simp[Instr.findKey,run_underlying b,h]
def Anv{n}{d}{k'}(hq:∀y y' b,n y=some b->Au σ y y'->Instr.sameNow d k' y'=some b):
 ∀e l i r,M1 n e=some r->Kp σ e l ->
  match r with
  |some x=>∃j y,Instr.findNow d k' l i=some (some (j,y))/\Au σ x y
  |none=>Instr.findNow d k' l i=some none:=by intro e;induction e with
 |nil=>
  intro l i r c g;have:l=[]:=by have:=g.1;grind
  subst this;cases c;rfl
 |cons x e o=>
  intro l i r c g;obtain⟨y,s,rfl,h1,p,q⟩:=g.F8;simp[M1]at c;split at c;. rename_i k;cases c;have:=hq _ _ _ k h1;exact⟨i,_,by simp[Instr.findNow,this],p⟩
  .rename_i k;have m:=hq _ _ _ k h1;have t:=o _ (i+1) r c q;cases r with
   |none=>simp[Instr.findNow,m];grind
   |some u=>simp[Instr.findNow,m];omega
  grind
def Anw{kt:TypeId}(g:P.underlying kt=some p)(hq:∀(x y:AV) (x' c:Value) (b:Bool),Gy P kt x y=some b->Au σ x x'->Au σ y c->Instr.sameNow p x' c=some b){k:AV}{k':Value}(i:Au σ k k')(e:List (AV × AV))(l:List MapEntry)(r:Option AV)(d:M1 (Gy P kt k) e=some r)(m:Kp σ e l):
 match r with
 |some x=>∃j y,Qo P kt k' l (some (j,y))/\Au σ x y
 |none=>Qo P kt k' l none:=by
 have:=Anv (σ:=σ) (d:=p) (k':=k') (λy c b q n=>hq k y k' c b q i n) e l 0 r d m;cases r with
 |none=>exact Xr g this
 |some x=>obtain⟨j,y,o,s⟩:=this;exact⟨j,y,Xr g o,s⟩
def AcG{t:TypeId}{c:MI}(b:AlU P t=some c):∃et,P.underlying t=some (.map c.kt et)/\Ps P et=some c.z/\AlK P c.kt=true:=by
 unfold AlU at b;split at b
 .rename_i kt et e;split at b
  .rename_i z g d;cases b;exact⟨et,e,g,d⟩
  .cases b
 .cases b
def Af1(t:TypeId)(x i:Operand)(ok:Bool):R5 P G ⟨dst,.lookup t x i ok,ty,pos,af,gd⟩:=by
 intro σ nt f a h h' w v Z he De k hl hf;simp[Op.operands]at De;have R:=Cj k.fr k.gl x De.1;have hi:=Cj k.fr k.gl i De.2;have m:Pe t x i ok ty P Z f h=.ok v h':=he;unfold Pe at m;split at m
 .rename_i J I E g;obtain⟨et,Q,hz,L⟩:=AcG E;obtain⟨Y,W,q,M,F⟩:=Ud σ hz;obtain⟨d,D,hq,p⟩:=AhL (P:=P) (σ:=σ) L;have B:∃(l:List MapEntry) (c b:Nat),Kp σ I l/\a.eval x=.map (some c)/\w.heap[c]?=some (.map l.toArray b):=by
   unfold entries at g;generalize a.eval x=xx at *
   split at g
   .rename_i r hv;rw[Ago hv]at R;cases R;rename_i e V;split at g
    .rename_i es2 K;cases g;have O:=k.ma r e V;rw[K]at O;obtain⟨_,Y8,b,X,q2,q3⟩:=O;exact⟨Y8.toList,e.c,b,⟨q2,q3⟩,rfl,by simpa using X⟩
    .cases g
   .cases g
  obtain⟨l,c,b,C,U,hc⟩:=B;have T:(getObj c).run P w=.ok (.map l.toArray b) w:=by simp[getObj,Sem.run,hc]
  have run:∀(r:Option AV),M1 (Gy P J.kt (ev i f)) I=some r->∃z n,(match r with|some u=>Au σ u n/\z=true|none=>Au σ J.z n/\z=false) /\
   (Instr.lookup t (a.eval x) (a.eval i) ok).run P w=.ok (if ok then .tuple #[n,.bool z]else n) w:=by
   intro r o;have S:=Anw D hq hi I l r o C;cases r with
   |none=>have s:Qo P J.kt (a.eval i) l none:=S;refine⟨false,W,⟨F,rfl⟩,?_⟩;simp only[Instr.lookup,U,Sem.run_bind,run_underlying Q,Result.andThen_ok,T,Sem.run_pure,p,List.toList_toArray,s _,zeroValue,typeInfo,run_program,q,M]
   |some u=>obtain⟨j,y,hj,hy⟩:=S;refine⟨true,y,⟨hy,rfl⟩,?_⟩;simp only[Instr.lookup,U,Sem.run_bind,run_underlying Q,Result.andThen_ok,T,Sem.run_pure,p,List.toList_toArray,hj _]
  split at m
  .rename_i u o;obtain⟨z,n,⟨h1,rfl⟩,A⟩:=run _ o;obtain⟨rfl,rfl⟩:=B4 m;refine⟨σ,_,w,.inl (by simp[execOp,A];rfl),?_,Out.refl k.ai k.so k.ma⟩;cases ok
   .exact h1
   .exact Ass h1 (.bool true)
  .rename_i o;obtain⟨z,n,⟨h1,rfl⟩,A⟩:=run _ o;obtain⟨rfl,rfl⟩:=B4 m;refine⟨σ,_,w,.inl (by simp[execOp,A];rfl),?_,Out.refl k.ai k.so k.ma⟩;cases ok
   .exact h1
   .exact Ass h1 (.bool false)
  .cases m
 .cases m
def Ari{n:AV->Option Bool}{k x:AV}{k' x':Value}(t:Au σ k k')(D:Au σ x x')(g:Nat)
 (hq:∀(y:AV) (o:Value) (b:Bool),n y=some b->Au σ y o->Instr.sameNow p k' o=some b):
 ∀(j c:List (AV × AV)) (l:List MapEntry) (i:Nat),Z7 n k x j=some c->Kp σ j l ->
  Instr.findNow p k' l i=some none/\Kp σ c (l++[{ key:=k',val:=x',born:=g }]):=by
 intro j;induction j with
 |nil=>
  intro c l i e m;have:l=[]:=by have:=m.1;cases l;rfl;simp at this
  subst this;cases e;exact⟨rfl,Kp.cons t D ⟨rfl,λi u y B _=>by simp at B⟩⟩
 |cons d j E=>
  intro c l i e m;obtain⟨y,F,rfl,h1,q,C⟩:=m.F8;simp only[Z7]at e;split at e
  .rename_i s;have z:=hq d.1 y.key false s h1;split at e
   .rename_i r A;cases e;obtain⟨g1,g2⟩:=E r F (i+1) A C;refine⟨?_,Kp.cons h1 q g2⟩;simp only[Instr.findNow,z];exact g1
   .cases e
  .cases e
def AhZ(t:TypeId)(m k x:Operand){Z:Ac}(j:E6 t m k x ty P Z f h=.ok v h')(h1:Es G m=true)(L:Es G k=true)(U:Es G x=true)(i:St G σ nt f a h w):
 ∃w',(Instr.mapUpdate t (a.eval m) (a.eval k) (a.eval x)).run P w=.ok () w'/\v=.Bj []/\Out G σ h w σ h' w':=by
 have K:=Cj i.fr i.gl m h1;have I:=Cj i.fr i.gl k L;have V:=Cj i.fr i.gl x U;unfold E6 at j;split at j
 .rename_i mi r A s;obtain⟨et,T,Y,C⟩:=AcG A;obtain⟨d,z,hq,E⟩:=AhL (P:=P) (σ:=σ) C;rw[Ago s]at K;generalize M:a.eval m=mm at *
  cases K;rename_i e p;split at j
  .rename_i S n;split at j
   .rename_i D q;obtain⟨rfl,rfl⟩:=B4 j;have J:=i.ma r e p;rw[n]at J;obtain⟨l,B,g,u,X,Q⟩:=J;have W:(getObj e.c).run P w=.ok (.map B g) w:=by simp[getObj,Sem.run,u]
    have F:∀o,(setObj e.c o).run P w=.ok () (Cc w e.c o):=λo=>by simp[setObj,Sem.run,u,Cc]
    obtain⟨g1,g2⟩:=Ari I V g (λy O b p R=>hq _ y _ O b p I R) S D B.toList 0 q ⟨X,Q⟩;refine⟨Cc w e.c (.map (B.push { key:=a.eval k,val:=a.eval x,born:=g }) (g+1)),?_,rfl,?_⟩
    .simp only[Instr.mapUpdate,Sem.run_bind,run_underlying T,Result.andThen_ok,W,E,Xr z g1 _,Sem.run_pure,F]
    .refine Hh i.ai i.so i.ma p n (by simp) (by simp) rfl rfl l (by simp) ?_;rw[<- Array.toList_push]at g2;exact⟨l,_,g+1,by rw[Da,Xo ⟨rfl,Dj u⟩],g2.1,g2.2⟩
   .cases j
  .cases j
 .cases j
def Af0(t:TypeId)(m k x:Operand):R5 P G ⟨dst,.insert t m k x,ty,pos,af,gd⟩:=by intro σ nt f a h h' w v Z b De d g e;simp[Op.operands]at De;obtain⟨w',h1,rfl,c⟩:=AhZ (P:=P) (ty:=ty) (Z:=Z) t m k x b De.1 De.2.1 De.2.2 d;exact⟨σ,undef,w',.inr ⟨by simp[execOp,h1],rfl⟩,L6 σ,c⟩
end ops
structure Ms(G:Nat)(σ:Dx)(h:H)(w:World):Prop where
 ai:Om h
 so:SOk σ w
 ma:V1 G σ h.m.get w
def Ms.draw(c:Ms G σ h w)(n:Nat):Ms G σ h { w with drawn:=n }:=⟨c.ai,⟨c.so.inj,c.so.rng,c.so.low⟩,λb e g=>Gr.congr (Qq.refl σ) rfl (λ_ _ _ _ _ d=>d) (c.ma b e g)⟩
def Amk{s n:Nat}{x:AV}{new:uw}(d:Hd h s x=some (n,new))(g:Au σ x C)(K:Ms G σ h w):
 (∀w',(Builtin.lenOf C).run P w'=.ok n w')/\∃l:List Value,Bk σ new l/\l.length=n*s/\∀k,k<=n->∀w',w'.heap=w.heap->∃B,(Builtin.firstCells s k C).run P w'=.ok B w'/\B.toList=l.take (k*s):=by
 unfold Hd at d;split at d
 .rename_i j;rw[Ok j]at g;cases g;cases d;exact⟨λ_=>rfl,[],Bk.nil σ,by simp,λk m w' _=>⟨#[],rfl,by simp⟩⟩
 .rename_i b off len cap sz ex j;rw[Ri j]at g;cases g;rotate_left
  .rename_i off e a E z;split at d
   .rename_i c A;have D:0*s=0:=ep s;rw[D]at d;have I:n=0/\new=[]:=by
     rw[E5]at d;split at d
     .simp at d;exact⟨d.1.symm,d.2⟩
     .cases d
    obtain⟨rfl,rfl⟩:=I;refine⟨λ_=>rfl,[],Bk.nil σ,by simp,λk m w' _=>⟨#[],?_,by simp⟩⟩;have u:k=0:=by omega
    subst u;simp[Builtin.firstCells];rfl
   .cases d
  rename_i e E z g1 g2 R O;split at d
  .rename_i c A;cases o:Nf c off (len*s)with
   |none=>simp[o]at d
   |some r=>
    simp[o]at d;obtain⟨rfl,rfl⟩:=d;obtain⟨arr,tt,fz,F,Q,M,J⟩:=No A (K.ma b e z);obtain⟨r1,_,L⟩:=Js o;have y:=Uj o J om;refine⟨λ_=>rfl,_,y,by have:=y.1;omega,λk m w' p=>?_⟩
    have t:k*s<=len*s:=D2 s m;refine⟨((arr.toList.drop off).take (k*s)).toArray,?_,?_⟩
    .exact Mo (P:=P) (by rw[p];exact F) om
    .simp[de,dw t]
  .cases d
 .split at d
  .rename_i s2 j;rw[Rj j]at g;cases g;rename_i q;cases hq:Nat.beq s 1 with
   |false=>rw[hq]at d;cases d
   |true=>
    rw[hq]at d;have e1:=Ch hq;subst e1;cases d;have i:Y2 (bytesOf q)=q.size:=by rw[Rf,Gv]
    rw[i];refine⟨λ_=>rfl,_,AaZ σ q,by rw[Array.length_toList,Array.size_map,ae];rfl,λk m w' _=>⟨_,rfl,?_⟩⟩;simp only[Array.toList_map,ae,List.map_take];rw[ByteArray.data_extract,Array.toList_extract];simp[List.map_take]
  .cases d
def AmK(b:Nat):∀(r c:Nat),c<b->Builtin.growBy b r c<=b+(b+768)/4:=by
 intro r;induction r with
 |zero=>intro c hc;simp[Builtin.growBy];omega
 |succ r d=>
  intro c hc;simp only[Builtin.growBy];rw[X2 om];by_cases e:c+(c+768)/4<b
  .exact d _ e
  .cases r with
   |zero=>simp[Builtin.growBy];omega
   |succ r=>simp only[Builtin.growBy];rw[Xo om];omega
def Akr(b Cf:Nat)(c:Cf<b):Builtin.nextslicecap b Cf<=2*b+200:=by
 unfold Builtin.nextslicecap;split
 .omega
 .split
  .omega
  .have:=AmK b 4 Cf c;omega
def Adv(z:Array Value)(n:Nat):(Builtin.zeroCells z n).size=n*z.size:=by simp[Builtin.zeroCells]
def Qs{ts:Array TypeId}{ty st g:TypeId}{zz:Value}{x':Value}{base:Option Addr}{len cap n:Nat}{Cf new:Array Value}
 (ht:ts[0]?=some st) (ht2:ts[1]?=some g) (hni:Aab P g=true) (hu:P.underlying st=some (.slice J.e)) (hi:P.info? J.e=some I) (Fc:I.size=J.s) (hby:I.bytes=J.bytes) (hzz:I.zero=some zz)
 (hs:C=.slice base len cap) (hlen:∀w',(Builtin.lenOf x').run P w'=.ok n w') (B6:cap<len+n) (hsm:(len+n)*(J.bytes+1)<1000000000000)
 (hold:∀w',w'.heap=w.heap->(Builtin.firstCells J.s len C).run P w'=.ok Cf w') (Na:∀w',w'.heap=w.heap->(Builtin.firstCells J.s n x').run P w'=.ok new w'):
 ∃nc,len+n<=nc/\(Builtin.append_ ts ty #[C,x']).run P w=.ok (.slice (some ⟨w.heap.size,0,none⟩) (len+n) nc) (Dd { w with drawn:=w.drawn+1 } (.cells (Cf++new++Builtin.zeroCells zz.cells (nc-(len+n))) J.e)):=by
 subst hs;generalize hq:Question.cut (.appendCap (len+n) cap J.e) (w.tape w.drawn (.appendCap (len+n) cap J.e))=nc;have r:len+n<=nc:=by rw[<- hq];simp[Question.cut]
 refine⟨nc,r,?_⟩;have c:∃d,P.underlying g=some d/\∀k,d≠.int k:=by
  unfold Aab at hni;cases hd:P.underlying g with
  |none=>rw[hd]at hni;cases hni
  |some d=>exact⟨_,rfl,λk A=>by rw[hd,A]at hni;cases hni⟩
 obtain⟨d,hd,F⟩:=c;have l:len+n<=(len+n)*(J.bytes+1):=Nat.le_mul_of_pos_right _ om;have b:(len+n)*J.bytes<=(len+n)*(J.bytes+1):=cq _ om;have q:=Akr (len+n) cap B6;have E:J.bytes<=1000000000000:=by
  rcases cu (len+n)with x|x
  .omega
  .have:J.bytes+1<=(len+n)*(J.bytes+1):=Nat.le_mul_of_pos_left _ x;omega
 have y:Builtin.nextslicecap (len+n) cap*J.bytes<=(2*(len+n)+200)*J.bytes:=D2 _ q;have z:(2*(len+n)+200)*J.bytes=2*((len+n)*J.bytes)+200*J.bytes:=by rw[ag,Nat.mul_assoc]
 have B:¬ (((len+n:Nat):Int) > IntKind.i64.max):=by
  have:IntKind.i64.max=9223372036854775807:=by decide
  rw[this];omega
 have c2:¬ (Builtin.nextslicecap (len+n) cap*J.bytes > 2^48):=by omega
 have m:(Question.appendCap (len+n) cap J.e).forced=false:=rfl;have u:(choose (.appendCap (len+n) cap J.e)).run P w=.ok nc { w with drawn:=w.drawn+1 }:=by simp only[choose,Sem.run,m,Mh,Fl,hq]
 have t:∀w',(sizeOf J.e).run P w'=.ok J.s w':=λw'=>by simp[sizeOf,typeInfo,hi,Fc]
 have j:∀w',(typeInfo J.e).run P w'=.ok I w':=λw'=>by simp[typeInfo,hi]
 have p:∀w',(zeroValue J.e).run P w'=.ok zz w':=λw'=>by simp[zeroValue,j,hzz]
 have D:=hold { w with drawn:=w.drawn+1 } rfl;have hn:=Na { w with drawn:=w.drawn+1 } rfl;have o:(underlying g).run P w=.ok d w:=run_underlying hd w;simp only[Builtin.append_,ht,ht2,bl,dc,ay,Sem.run_bind,run_underlying hu,Result.andThen_ok,t,o,Sem.run_pure,Mh,Fl,hlen,X2 (Nat.not_le_of_lt B6)];have c3:¬ (Builtin.nextslicecap (len+n) cap*I.bytes > 2^48):=by rw[hby];exact c2
 split
 .simp only[Bool.not_false,Jr,hlen,Sem.run_bind,Result.andThen_ok,X2 (Nat.not_le_of_lt B6),B,false_and,Fl,j,c3,u,run_askRoom,D,hn,p,newRow];rfl
 .rename_i i;exact absurd rfl i
def Ug{ts:Array TypeId}{ty st g:TypeId}{x':Value}{base:Option Addr}{len cap n:Nat}{new:Array Value}
 (ht:ts[0]?=some st) (ht2:ts[1]?=some g) (hni:Aab P g=true) (hu:P.underlying st=some (.slice J.e)) (hi:P.info? J.e=some I) (Fc:I.size=J.s)
 (hs:C=.slice base len cap) (hlen:∀w',(Builtin.lenOf x').run P w'=.ok n w') (hle:len+n<=cap)
 (Na:(Builtin.firstCells J.s n x').run P w=.ok new w) (m:∀c,base=some c->(storeCells (c.add (len*J.s)) new.toList).run P w=.ok () w') (AqI:base=none->w'=w):
 (Builtin.append_ ts ty #[C,x']).run P w=.ok (.slice base (len+n) cap) w':=by
 subst hs;have b:∃d,P.underlying g=some d/\∀k,d≠.int k:=by
  unfold Aab at hni;cases hd:P.underlying g with
  |none=>rw[hd]at hni;cases hni
  |some d=>exact⟨_,rfl,λk r=>by rw[hd,r]at hni;cases hni⟩
 obtain⟨d,hd,q⟩:=b;have l:∀w',(sizeOf J.e).run P w'=.ok J.s w':=λw'=>by simp[sizeOf,typeInfo,hi,Fc]
 have o:(underlying g).run P w=.ok d w:=run_underlying hd w;simp only[Builtin.append_,ht,ht2,bl,dc,ay,Sem.run_bind,run_underlying hu,Result.andThen_ok,l,o,Sem.run_pure,Mh,Fl,hlen,Xo hle,Bool.not_false,Jr];cases base with
 |none=>cases AqI rfl;simp only[Na,Result.andThen_ok,Sem.run_pure]
 |some c=>have m:=m c rfl;simp only[Na,m,Result.andThen_ok,Sem.run_bind,Sem.run_pure]
def Asn{n:Nat}(hn:j.length=n):j.take n=j:=by rw[<- hn];simp
def AgR{x:Array Value}(b:x.toList=j):x=j.toArray:=by rw[<- b]
def Ad4(P:Program)(G:Nat)(σ:Dx)(h:H)(w:World)(s:Sem Value)(v:AV)(h':H):Prop:=
 ∃b v' w',s.run P w=.ok v' w'/\Au b v v'/\Out G σ h w b h' w'
def SOk.place{b m:Nat}{e n:SE}(j:SOk σ w)(t:b<Bq)(l:σ m=some e)(s:n.c=e.c)(i:n.k=e.k)(hn:e.k≠none)(q:w'.heap.size=w.heap.size):SOk (Gu σ b n) w':=by
 refine⟨?_,?_,?_⟩
 .intro x y e1 p h1 d r;unfold Gu at h1 d;split at h1
  .cases h1;split at d
   .left;omega
   .rcases j.inj y m p e d l om with g|⟨g,o⟩
    .subst g;rw[l]at d;cases d;exact .inr ⟨i,by rw[i];exact hn⟩
    .exact .inr ⟨by rw[i,g],by rw[i];exact hn⟩
  .split at d
   .cases d;rcases j.inj x m e1 e h1 l om with g|⟨g,o⟩
    .subst g;rw[l]at h1;cases h1;exact .inr ⟨i.symm,hn⟩
    .exact .inr ⟨by rw[i,g],o⟩
   .exact j.inj x y e1 p h1 d r
 .intro x e1 h1;unfold Gu at h1;rw[q];split at h1
  .cases h1;have:=j.rng m e l;omega
  .exact j.rng x e1 h1
 .intro x e1 h1;unfold Gu at h1;split at h1
  .omega
  .exact j.low x e1 h1
def Aeq{o:AO}{n:Nat}(b:Aj3 o=some n):o=.Fb n:=by
 cases o<;>first|(cases b;done)|skip
 cases b;rfl
def Aoo{xs b:List Value}{cs:uw}(d:Bk σ cs (xs++j)):∀(i:Nat) (x:AV) (y:Value),cs[i]?=some x->(xs++j++b).toArray[i]?=some y->Au σ x y:=by intro i x y g c;have e:=(Wp.1 g).1;rw[d.1]at e;rw[bl,ck e]at c;exact d.2 i x y g c
def Aa3{i:SI}{zz:Value}{Cf l:List Value}{len n nc:Nat}(b:zz.cells.size=i.s)(e:Cf.length=len*i.s)(c:l.length=n*i.s)(d:len+n<=nc):
 (Cf.toArray++l.toArray++Builtin.zeroCells zz.cells (nc-(len+n))).size=nc*i.s:=by
 rw[Array.size_append,Array.size_append,Adv,b];simp only[List.size_toArray,c,e];have:nc=len+n+(nc-(len+n)):=by omega
 rw[<- ag,<- ag,<- this]
def Xb{zz:Value}{Cf:List Value}{cs:uw}(k:Nat)(c:Bk σ cs (Cf++j)):
 ∀(l:Nat) (x:AV) (y:Value),cs[l]?=some x->(Cf.toArray++j.toArray++Builtin.zeroCells zz.cells k)[l]?=some y->Au σ x y:=by
 intro l b a2 g1 g2;have e:(Cf.toArray++j.toArray++Builtin.zeroCells zz.cells k)=(Cf++j++(Builtin.zeroCells zz.cells k).toList).toArray:=by apply Array.ext';simp
 rw[e]at g2;exact Aoo c l b a2 g1 g2
def Ah5{i:SI}{zz:Value}{Cf l:List Value}{cs:uw}{len n nc:Nat}(d:zz.cells.size=i.s)(k:Bk σ cs (Cf++l))(m:Cf.length=len*i.s)(o:l.length=n*i.s)
 (hnc:len+n<=nc) (hm:Ms G σ h w) (hl:h.nx+1<Bq) (hf0:σ h.nx=none) (hf:σ (h.nx+1)=none):
 ∃g,Au g (.sl (Nat.succ h.nx) 0 (len+n) (len+n) i.s false) (.slice (some ⟨w.heap.size,0,none⟩) (len+n) nc) /\
  Out G σ h w g ((h.new (.Fb 0)).new (.cells cs i.e (.Gt h.nx))) (Dd { w with drawn:=w.drawn+1 } (.cells (Cf.toArray++l.toArray++Builtin.zeroCells zz.cells (nc-(len+n))) i.e)):=by
 have c:=Aa3 (nc:=nc) d m o hnc;have b:=hm.draw (w.drawn+1);have q:cs.length=(len+n)*i.s:=by have:=k.1;rw[Yl]at this;rw[ag];omega
 have r:=Ae4 (t:=i.e) (cs:=cs) (arr:=Cf.toArray++l.toArray++Builtin.zeroCells zz.cells (nc-(len+n))) (fz:=(0,0)) b.ai b.so b.ma hl hf0 hf
  (by rw[c,q];exact D2 _ om) (Xb _ k) (by intro j _;omega)
 refine⟨_,?_,r.draw⟩;exact Au.sl (h.nx+1) 0 (len+n) (len+n) i.s false ⟨w.heap.size,(Cf.toArray++l.toArray++Builtin.zeroCells zz.cells (nc-(len+n))).size,some h.nx⟩ nc (by simp[Gu]) (Ye _) om (by intro p;cases p) (by intro _;simp only[c];omega)
def Ad8{ts:Array TypeId}{ty st t2:TypeId}{s x:AV}{s' x':Value}(d:Xa P st s x h=.ok v h')(hs:Au σ s s')(hx:Au σ x x')(p:Ms G σ h w)
 (ht:ts[0]?=some st) (ht2:ts[1]?=some t2) (hni:Aab P t2=true) (hl:h'.nx<=Bq) (hf:Fx σ h h'):Ad4 P G σ h w (Builtin.append_ ts ty #[s',x']) v h':=by
 unfold Xa at d;split at d
 .rename_i i Z3;obtain⟨inf,z,zz,hu,hi,Fc,Y,hz,hzz,hlz,X,Q0⟩:=Pk Z3;split at d
  .rename_i n new F6;obtain⟨o,l,r,S4,hfc⟩:=Amk (P:=P) F6 hx p;have BeE:new.length=n*i.s:=by have:=r.1;omega
   have Na:∀w',w'.heap=w.heap->(Builtin.firstCells i.s n x').run P w'=.ok l.toArray w':=by intro C m;obtain⟨l',h1,Q⟩:=hfc n (Ye _) C m;rw[Asn S4]at Q;rw[h1,AgR Q]
   split at d
   .rename_i hv;rw[Ok hv]at hs;cases hs;rcases Bl d with⟨h0,d⟩|⟨h0,d⟩
    .cases d;have:=Ch h0;subst this;refine⟨σ,.slice none 0 0,w,Ug (P:=P) (base:=none) (w':=w) ht ht2 hni hu hi Fc rfl o om (Na w rfl) (λc hc=>by cases hc) (λ_=>rfl),.Bv,Out.refl p.ai p.so p.ma⟩
    .rcases Bl d with⟨h1,d⟩|⟨_,d⟩
     .rcases Bl d with⟨Q,d⟩|⟨_,d⟩
      .have AhE:=Ho h0;have A4h:∀(w':World),w'.heap=w.heap->(Builtin.firstCells i.s 0 (.slice none 0 0)).run P w'=.ok ([]:List Value).toArray w':=λw' _=>rfl;obtain⟨nc,t,U⟩:=Qs (P:=P) (w:=w) (ty:=ty) (x':=x') (n:=n) (new:=l.toArray) ht ht2 hni hu hi Fc Y hzz rfl o (by omega:(0:Nat)<0+n) (by rw[Rx];exact Ec h1)
        A4h Na
       unfold grow at d;cases d;obtain⟨σ',E,q2⟩:=Ah5 (i:=i) (zz:=zz) (Cf:=[]) (l:=l) (cs:=new) (len:=0) (n:=n) (nc:=nc) X (by simpa using r) (by simp) S4 t p hl (hf _ (Ye _) (Sa (Up _))) (hf _ om (Up _));refine⟨σ',_,_,U,?_,q2⟩;have e0:0+n=n:=Rx n;rw[e0]at E ⊢;exact E
      .cases d
     .cases d
   .rename_i b off len cap sz ex hv;rw[Ri hv]at hs;have AhE:=AkD Z3;cases hs;rotate_left
    .exfalso;rcases Bl d with⟨h1,d⟩|⟨_,d⟩
     .rcases Bl d with⟨Q,d⟩|⟨_,d⟩
      .rcases Bl d with⟨h3,d⟩|⟨_,d⟩
       .have:=Ch h3;omega
       .cases d
      .cases d
     .cases d
    rename_i e K J g2 g1 g3 g4;rcases Bl d with⟨h1,d⟩|⟨_,d⟩
    .rcases Bl d with⟨Q,d⟩|⟨_,d⟩
     .rcases Bl d with⟨h3,d⟩|⟨_,d⟩
      .have hsm:=Ec h1;have hsi:=Ch h3;subst hsi;have AdM:=V3 r Q;unfold Lg at d;rcases Bl d with⟨h4,d⟩|⟨h4,d⟩
       .have hle:len+n<=cap:=G2 h4;unfold AgN at d;cases new with
        |nil=>cases d;have hl0:l=[]:=r.Rt;subst hl0;refine⟨σ,_,w,Ug (P:=P) (w':=w) ht ht2 hni hu hi Fc rfl o (show len+n<=K by omega) (Na w rfl) (λc hc=>rfl) (λ_=>rfl),.sl b off _ cap i.s ex e K J hle g2 g3 g4,Out.refl p.ai p.so p.ma⟩
        |cons y u=>
        cases hw:h.wr b (off+len*i.s) (y::u)with
        |bad q=>rw[show(@List.rec _ (λ_=>OR) (.ok (.sl b off (Nat.add len n) cap i.s ex) h) (λ_ _ _=>RH.rec (motive:=λ_=>OR) .bad (λh'=>.ok (.sl b off (Nat.add len n) cap i.s ex) h') (h.wr b (off+len*i.s) (y::u))) (y::u):OR)=RH.rec (motive:=λ_=>OR) .bad (λh'=>.ok (.sl b off (Nat.add len n) cap i.s ex) h') (h.wr b (off+len*i.s) (y::u))from rfl,hw]at d;cases d
        |ok Q=>
         rw[show(@List.rec _ (λ_=>OR) (.ok (.sl b off (Nat.add len n) cap i.s ex) h) (λ_ _ _=>RH.rec (motive:=λ_=>OR) .bad (λh'=>.ok (.sl b off (Nat.add len n) cap i.s ex) h') (h.wr b (off+len*i.s) (y::u))) (y::u):OR)=RH.rec (motive:=λ_=>OR) .bad (λh'=>.ok (.sl b off (Nat.add len n) cap i.s ex) h') (h.wr b (off+len*i.s) (y::u))from rfl,hw]at d
         cases d;obtain⟨w',hr,Vd⟩:=Agp (P:=P) hw p.ai p.so p.ma J r AdM;refine⟨σ,_,w',Ug (P:=P) (w':=w') ht ht2 hni hu hi Fc rfl o (show len+n<=K by omega) (Na w rfl) (λc hc=>by cases hc;rw[G1];exact hr) (λhc=>by cases hc),?_,Vd⟩
         exact .sl b off _ cap i.s ex e K J hle g2 g3 g4
       .have hgt:cap<len+n:=Axo h4;rcases Bl d with⟨h5,g⟩|⟨h5,g⟩
        all_goals clear d
        .subst h5;have O0:=g3 rfl;subst O0;unfold Sf at g;split at g
         .rename_i c W4;split at g
          .rename_i Cf Ik;rw[Dl]at g;unfold grow at g;cases g;obtain⟨arr,tt,fz,E,q2,q3,q4⟩:=No W4 (p.ma b e J);obtain⟨r1,_,r3⟩:=Js Ik;have B:=Uj Ik q4 om;have W:((arr.toList.drop off).take (len*i.s)).length=len*i.s:=by rw[<- B.1];exact r3
           have F:∀(w':World),w'.heap=w.heap->(Builtin.firstCells i.s len (.slice (some ⟨e.c,off,none⟩) len K)).run P w'=.ok ((arr.toList.drop off).take (len*i.s)).toArray w':=
            λw' V=>Mo (P:=P) (off:=off) (n:=len*i.s) (by rw[V];exact E) om
           obtain⟨nc,t,U⟩:=Qs (P:=P) (w:=w) (ty:=ty) (x':=x') (n:=n) (new:=l.toArray) ht ht2 hni hu hi Fc Y hzz rfl o hgt hsm F Na;obtain⟨σ',z1,z2⟩:=Ah5 (i:=i) (zz:=zz) (nc:=nc) X (B.append r) W S4 t p hl (hf _ (Ye _) (Sa (Up _))) (hf _ om (Up _));exact⟨σ',_,_,U,z1,z2⟩
          .cases g
         .cases g
        .subst h5;unfold Ny at g;split at g
         .rename_i c e' k ho;split at g
          .rename_i st Cf Vt Ik;rcases Bl g with⟨h6,g⟩|⟨_,g⟩
           .rcases Bl g with⟨h7,g⟩|⟨_,g⟩
            .rcases Bl g with⟨h8,g⟩|⟨_,g⟩
             .have e6:=Ch h6;have e7:=Ch h7;have e8:=Ch h8;subst e7;subst e8;rw[Gh]at e6;rw[Dl]at g;cases g;have S3:=Aeq Vt;have Ha:=p.ma b e J;rw[ho]at Ha;obtain⟨arr,lo,D,E,q2,q3,q4,q5,q6⟩:=Ha.2 trivial;have O0:=g4 rfl;have P4:h.nx<Bq:=hl;have M:=hf h.nx (Ye _) (Up _);have Ox:(c++new).length=(len+n)*i.s:=by rw[Yl,ag];omega
              by_cases Ay8:len+n<=K
              .have hmul:(len+n)*i.s<=K*i.s:=D2 _ Ay8;have BeN:(len+n)*i.s=len*i.s+n*i.s:=ag _ _ _;have hrs:=Nl P e.c (len*i.s) i.e lo D l 0 arr w E om (λj I O=>q6 trivial j om) AdM;rw[Vw]at hrs;have S:len*i.s+l.length<=arr.size:=by omega
               generalize m:Cc w e.c (.cells (J9 arr (len*i.s) l) i.e (lo,D))=C at hrs;have R:C.heap[e.c]?=some (.cells (J9 arr (len*i.s) l) i.e (lo,D)):=by rw[<- m,Da,Xo ⟨rfl,Dj E⟩]
               have A9e:C.heap.size=w.heap.size:=by rw[<- m,Mr]
               have T:SOk (Gu σ h.nx ⟨e.c,e.N,some k⟩) C:=p.so.place P4 J rfl Ha.1.symm (by rw[Ha.1];simp[Ahd]) A9e;refine⟨Gu σ h.nx ⟨e.c,e.N,some k⟩,_,C,Ug (P:=P) (w':=C) ht ht2 hni hu hi Fc rfl o Ay8 (Na w rfl) (λc hc=>by cases hc;rw[G1,Rx];simpa using hrs) (λhc=>by cases hc),?_,?_⟩
               .exact .sl h.nx 0 _ _ i.s false ⟨e.c,e.N,some k⟩ K (by simp[Gu]) (Ye _) Ay8 (λL=>by cases L) (λ_=>O0)
               .refine AiI p.ai p.so p.ma J ho S3 P4 M (by rw[Yl];omega) rfl T om (by first|exact⟨rfl,rfl⟩|(subst m;exact⟨rfl,rfl⟩)) ?_ (.inr rfl) ⟨arr,_,_,E,R,O2 S,?_⟩ ?_
                .intro j _ Q;rw[<- m,Da,X2 (λL=>Q L.1)]
                .intro j hj;rw[Nz S,X2 om]
                .refine⟨rfl,λ_=>⟨_,lo,D,R,by rw[O2 S];exact q2,by show(c++new).length<=e.N;omega,?_,λL=>(by cases L),q6⟩⟩
                 intro j a1 a2 I O;rw[Nz S]at O;refine Au.mono (Ip M) ?_;by_cases hjl:j<c.length
                 .rw[ck hjl]at I;rw[X2 om]at O;exact q4 j a1 a2 I O
                 .rw[bu om]at I;have:=(Wp.1 I).1;rw[Xo om]at O;have e9:c.length=len*i.s:=by omega
                  rw[e9]at I;exact r.2 _ a1 a2 I O
              .have F:∀(w':World),w'.heap=w.heap->(Builtin.firstCells i.s len (.slice (some ⟨e.c,0,none⟩) len K)).run P w'=.ok ((arr.toList.drop 0).take (len*i.s)).toArray w':=
                λw' V=>Mo (P:=P) (off:=0) (n:=len*i.s) (by rw[V];exact E) om
               obtain⟨nc,t,U⟩:=Qs (P:=P) (w:=w) (ty:=ty) (x':=x') (n:=n) (new:=l.toArray) ht ht2 hni hu hi Fc Y hzz rfl o om hsm F Na;have B:=Uj Ik q4 om;have hoc:Cf=c:=by obtain⟨_,r2,_⟩:=Js Ik;rw[r2,Cp,Qa om]
               rw[hoc]at B;have W:((arr.toList.drop 0).take (len*i.s)).length=len*i.s:=by rw[<- B.1];omega
               have Aqm:=Aa3 (nc:=nc) (i:=i) (zz:=zz) (Cf:=(arr.toList.drop 0).take (len*i.s)) (l:=l) X W S4 t;generalize hA:((arr.toList.drop 0).take (len*i.s)).toArray++l.toArray++Builtin.zeroCells zz.cells (nc-(len+n))=A at U Aqm;generalize m:Dd { w with drawn:=w.drawn+1 } (.cells A i.e)=C at U;have hm2:=p.draw (w.drawn+1);have R:C.heap[w.heap.size]?=some (.cells A i.e (0,0)):=by rw[<- m];exact F1 { w with drawn:=w.drawn+1 } _
               have T:SOk (Gu σ h.nx ⟨w.heap.size,nc*i.s,some k⟩) C:=by rw[<- m];exact hm2.so.push _ P4 rfl
               have Pa:∀j,j<w.heap.size->C.heap[j]?=w.heap[j]?:=λj hj=>by rw[<- m];exact Lq { w with drawn:=w.drawn+1 } _ j hj
               refine⟨Gu σ h.nx ⟨w.heap.size,nc*i.s,some k⟩,_,C,U,?_,?_⟩
               .exact .sl h.nx 0 _ _ i.s false ⟨w.heap.size,nc*i.s,some k⟩ nc (by simp[Gu]) (Ye _) t (λL=>by cases L) (λ_=>by show 0+nc*i.s<=nc*i.s;omega)
               .refine AiI p.ai p.so p.ma J ho S3 P4 M (by rw[Yl];omega) rfl T (by rw[<- m,size_push];exact U3 _) (by rw[<- m];exact⟨rfl,rfl⟩) (λj h1 _=>Pa j h1) (.inl (Ye _))
                 ⟨arr,arr,(lo,D),E,by rw[Pa _ (p.so.rng b e J)];exact E,rfl,λ_ _=>rfl⟩ ?_
                refine⟨rfl,λ_=>⟨A,0,0,R,Aqm,by show(c++new).length<=nc*i.s;rw[Ox];exact D2 _ t,?_,λL=>(by cases L),λ_ j _=>by omega⟩⟩
                intro j a1 a2 I O;rw[<- hA]at O;exact Au.mono (Ip M) (Xb _ (B.append r) j a1 a2 I O)
             .cases g
            .cases g
           .cases g
          .cases g
         .cases g
      .cases d
     .cases d
    .cases d
   .cases d
  .cases d
 .cases d
def Ad4.quiet{s:Sem Value}{v':Value}(b:Ms G σ h w)(d:s.run P w=.ok v' w)(c:Au σ v v'):Ad4 P G σ h w s v h:=⟨σ,v',w,d,c,Out.refl b.ai b.so b.ma⟩
def Ahi{ts:Array TypeId}{ty dt:TypeId}{d x:AV}{x':Value}(c:Ahh P dt d x h=.ok v h')(hd:Au σ d C)(R:Au σ x x')(o:Ms G σ h w)(B:ts[0]?=some dt):
 Ad4 P G σ h w (Builtin.copy_ ts ty #[C,x']) v h':=by
 unfold Ahh at c;split at c
 .rename_i i S;obtain⟨K,z,zz,D,hi,V,M,hz,W,L,J,Q0⟩:=Pk S;have p:∀w',(sizeOf i.e).run P w'=.ok i.s w':=λw'=>by simp[sizeOf,typeInfo,hi,V]
  split at c
  .rename_i n src T;obtain⟨g,l,y,S4,m⟩:=Amk (P:=P) T R o;split at c
   .rename_i A;rw[Ok A]at hd;cases hd;cases c;obtain⟨U,t,E⟩:=m 0 (Wy _) w rfl;refine .quiet o (v':=.int .i64 0) ?_ (.int _ _);simp[Builtin.copy_,B,run_underlying D,g,p,Nat.min,t,goInt]
   .rename_i b off len cap sz ex A;rw[Ri A]at hd;cases hd;rotate_left
    .exfalso;split at c
     .have F:OR.bad 132=OR.ok v h':=c;cases F
     .cases c
    rename_i e Y I g1 g2 g3 g4;split at c
    .rename_i cs r;rcases Bl c with⟨h1,k⟩|⟨_,k⟩
     .have h1:Bm cs=true:=by
       cases hq:Nat.blt 0 sz with
       |false=>rw[hq]at h1;cases h1
       |true=>rw[hq]at h1;exact h1
      clear c;cases u:h.wr b off cs with
      |bad q=>rw[u]at k;cases k
      |ok X=>
       rw[u]at k;cases k;obtain⟨U,t,E⟩:=m (Nat.min n len) (Nat.min_le_left _ _) w rfl;rw[AhX]at r;split at r
       .cases r;have j:=y.take (Nat.min n len*i.s);rw[<- E]at j;obtain⟨w',Q,O⟩:=Agp (P:=P) u o.ai o.so o.ma I j (V3 j h1);refine⟨σ,.int .i64 (Nat.min n len),w',?_,.int _ _,O⟩;simp[Builtin.copy_,B,run_underlying D,g,p,t,goInt,Q]
       .cases r
     .cases k
    .cases c
   .cases c
  .cases c
 .cases c
def Anr{ts:Array TypeId}{ty t:TypeId}{x:AV}{x':Value}(c:lnK (Pw P t) x h=.ok v h')(i:Au σ x x')(b:Ms G σ h w)(e:ts[0]?=some t):
 Ad4 P G σ h w (Builtin.len_ ts ty #[x']) v h':=by
 obtain⟨v',d,g,rfl⟩:=AeE (P:=P) (ty:=ty) i c w ts e;exact .quiet b d g
def Aoe{ts:Array TypeId}{ty:TypeId}{x:AV}{x':Value}(d:sdV x h=.ok v h')(g:Au σ x x')(j:Ms G σ h w):
 Ad4 P G σ h w (Builtin.unsafeSliceData_ ts ty #[x']) v h':=by
 unfold sdV at d;split at d
 .rename_i i;rw[Ok i]at g;cases g;cases d;exact .quiet j rfl .Ob
 .rename_i b off len c sz ex i;rw[Ri i]at g;cases g;rotate_left
  .cases d
  rename_i e k l g1 g2 n m;rcases Bl d with⟨_,d⟩|⟨h1,d⟩
  .cases d
  .cases d;have:=Ho h1;exact .quiet j (Lib.run_unsafeSliceData_row w ts ty _ len k om) (.ptr b off e l)
 .cases d
def Akg(lt:Bool):∀(l:uw) (e:List Value) (k:IntKind) (a:Int) (r:IntKind × Int),AfO lt k a l=some r->Bk σ l e ->
 (e.foldlM (if lt then Builtin.min2 else Builtin.max2) (.int k a)).run P w=.ok (.int r.1 r.2) w:=by
 intro l;induction l with
 |nil=>intro e k a r d g;cases g.Rt;cases d;rfl
 |cons y rest j=>
  intro e k a r d g;obtain⟨p,m,rfl,i,o⟩:=g.F8;unfold AfO at d;split at d
  .rename_i k2 b n;rw[P1 n]at i;cases i;have:=j m k _ r d o;cases lt with
   |true=>
    simp only[Jr]at this ⊢;simp only[List.foldlM_cons,Builtin.min2,Sem.run_bind,Sem.run_pure,Result.andThen_ok];rw[<- this];rw[Il];by_cases c:b<a
    .rw[Xo c,Ws c]
    .rw[X2 c,Yc c]
   |false=>
    simp only[Mh,Fl]at this ⊢;simp only[List.foldlM_cons,Builtin.max2,Sem.run_bind,Sem.run_pure,Result.andThen_ok];rw[<- this];rw[Il];by_cases c:a<b
    .rw[Xo c,Ws c]
    .rw[X2 c,Yc c]
  .cases d
def Aia(lt:Bool){ts:Array TypeId}{ty:TypeId}{l:uw}(b:mm lt l h=.ok v h')(i:Bk σ l j)(g:Ms G σ h w):
 Ad4 P G σ h w (if lt then Builtin.min_ ts ty j.toArray else Builtin.max_ ts ty j.toArray) v h':=by
 unfold mm at b;split at b
 .rename_i x rest;obtain⟨y,m,rfl,e,p⟩:=i.F8;split at b
  .rename_i k n c;rw[P1 c]at e;cases e;split at b
   .rename_i k2 o d;cases b;have:=Akg (P:=P) (w:=w) lt rest m k n _ d p;refine .quiet g (v':=.int k2 o) ?_ (.int _ _);cases lt<;>exact this
   .cases b
  .cases b
 .cases b
def AjA{c n:Nat}{arr:Array Value}{t:TypeId}{lo hi:Nat}(hc:w.heap[c]?=some (.cells arr t (lo,hi)))(hn:n≠0):∃fz,w.freeze ⟨c,0,none⟩ n=Cc w c (.cells arr t fz):=by
 refine⟨if lo == hi then(0,0+n)else(min lo 0,max hi (0+n)),?_⟩;unfold World.freeze Cc;rw[X2 hn];congr 1;apply Array.ext_getElem?;intro j;have b:=Dj hc;rw[Array.getElem?_modify];by_cases hj:c=j
 .subst hj;have:w.heap[c]=.cells arr t (lo,hi):=by rw[S2 b]at hc;exact Ck hc
  simp[b,this]
 .simp[hj,aj hj]
def Aop{ts:Array TypeId}{ty t T:TypeId}{p n:AV}{p' n':Value}(g:usV P t p n h=.ok v h')(U:Au σ p p')(hn:Au σ n n')(r:Ms G σ h w)(ht:ts=#[t,T]):
 Ad4 P G σ h w (Builtin.unsafeString_ ts ty #[p',n']) v h':=by
 subst ht;unfold usV at g;split at g
 .rename_i h1 W;rw[Wv h1]at U;rw[Qc W]at hn;cases U;cases hn;cases g;exact .quiet r (Lib.run_unsafeString_none w t T ty none) (.str ByteArray.empty)
 .rename_i b off h1 W;rw[P2 h1]at U;rw[Qc W]at hn;cases U;cases hn;cases g;exact .quiet r (Lib.run_unsafeString_none w t T ty _) (.str ByteArray.empty)
 .rename_i b off m h0 h1 W;rw[P2 h1]at U;rw[Qc W]at hn;cases U;cases hn;rename_i e hb;split at g
  .rename_i c z k e' X O;split at g
   .rename_i cs st hu Fc Ik Vt;split at g
    .rename_i s E;rcases Bl g with⟨h3,A⟩|⟨_,A⟩
     .rcases Bl A with⟨h4,C⟩|⟨_,C⟩
      .rcases Bl C with⟨h5,J⟩|⟨_,J⟩
       .clear g A C;cases J;have e3:=Ch h3;have e4:=Ch h4;have e5:=Ec h5;subst e3;subst e4;have S3:=Aeq Vt;have L:=r.ma b e hb;rw[X]at L;obtain⟨arr,lo,hi',u,q2,q3,q4,q5,q6⟩:=L.2 trivial;obtain⟨r1,r2,r3⟩:=Js Ik;have o:=Uj Ik q4 om;obtain⟨V,k2⟩:=AaQ cs s _ E o;have I:m≠0:=λi=>h0 i;have Z3:s.length=m:=by have:=Jh List.length V;rw[<- o.1,r3]at this;simpa using this.symm
        have R:(s.map UInt8.ofNat).length=m:=by simpa using Z3
        obtain⟨inf,j1,j2⟩:=F3 Fc;have K:P.cellsOf z=1:=by simp[Program.cellsOf,j1,j2]
        have Q:=Lib.run_unsafeString_row (P:=P) w t T ty z O K e.c arr.size (Aam u) (s.map UInt8.ofNat) (by intro i;rw[i]at R;simp at R;omega) om om (by
         intro j x hj;rw[G1,Xj u];have B:((arr.toList.drop 0).take m)[j]?=some (.int .u8 x.toNat):=by
          rw[V];rw[Cn]at hj;cases d:s[j]? with
          |none=>rw[d]at hj;cases hj
          |some q=>rw[d]at hj;cases hj;have hq:=k2 q (Vl d);simp[d,Sk,dm hq]
         rw[cy]at B;split at B
         .simpa using B
         .cases B)
        rw[R]at Q;obtain⟨fz,S⟩:=AjA u I;rw[S]at Q;have M:(Cc w e.c (.cells arr z fz)).heap[e.c]?=some (.cells arr z fz):=by rw[Da,Xo ⟨rfl,Dj u⟩]
        refine⟨σ,_,_,Q,?_,?_⟩
        .have D:bytesOf ⟨(s.map UInt8.ofNat).toArray⟩=s:=by
          unfold bytesOf;simp only[List.map_map];have:∀l:uq,(∀n∈l,n<256)->l.map (UInt8.toNat ∘ UInt8.ofNat)=l:=by
           intro l Y;induction l with
           |nil=>rfl
           |cons q l ih=>
            have hq:=Y q (by simp);simp only[Co,Function.comp,Sk,dm (show q<2^8 from hq)]
            rw[ih (λn hn=>Y n (by simp[hn]))]
          exact this s k2
         have:=Au.str (σ:=σ) ⟨(s.map UInt8.ofNat).toArray⟩;rw[D]at this;exact this
        .refine Ys r.ai r.so r.ma hb X S3 (.inr ⟨rfl,rfl,?_⟩) rfl ?_
         .intro x y hx hc hxb l2 T st2 hxo;have F:=r.ma x y hx;rw[hxo]at F ⊢;refine⟨F.1,λhv=>?_⟩;obtain⟨Am0,lo2,hi2,p1,p2,p3,p4,p5,p6⟩:=F.2 hv;rw[hc,u]at p1;cases p1;exact⟨arr,fz.1,fz.2,by rw[hc];exact M,p2,p3,p4,λi=>(by cases i),λi=>i.elim⟩
         .exact⟨L.1,λ_=>⟨arr,fz.1,fz.2,M,q2,q3,q4,λi=>(by cases i),λi=>i.elim⟩⟩
       .cases J
      .cases C
     .cases A
    .cases g
   .cases g
  .rename_i c z e' X O;split at g
   .rename_i cs hu Fc Ik;split at g
    .rename_i s E;rcases Bl g with⟨h3,A⟩|⟨_,A⟩
     .rcases Bl A with⟨h4,C⟩|⟨_,C⟩
      .rcases Bl C with⟨h5,J⟩|⟨_,J⟩
       .clear g A C;cases J;have e3:=Ch h3;have e4:=Ch h4;have e5:=Ec h5;subst e3;subst e4;have L:=r.ma b e hb;rw[X]at L;obtain⟨arr,lo,hi',u,q2,q3,q4,q5,q6⟩:=L.2 trivial;obtain⟨r1,r2,r3⟩:=Js Ik;have o:=Uj Ik q4 om;obtain⟨V,k2⟩:=AaQ cs s _ E o;have I:m≠0:=λi=>h0 i;have Z3:s.length=m:=by have:=Jh List.length V;rw[<- o.1,r3]at this;simpa using this.symm
        have R:(s.map UInt8.ofNat).length=m:=by simpa using Z3
        obtain⟨inf,j1,j2⟩:=F3 Fc;have K:P.cellsOf z=1:=by simp[Program.cellsOf,j1,j2]
        have Q:=Lib.run_unsafeString_row (P:=P) w t T ty z O K e.c arr.size (Aam u) (s.map UInt8.ofNat) (by intro i;rw[i]at R;simp at R;omega) om om (by
         intro j x hj;rw[G1,Xj u];have B:((arr.toList.drop 0).take m)[j]?=some (.int .u8 x.toNat):=by
          rw[V];rw[Cn]at hj;cases d:s[j]? with
          |none=>rw[d]at hj;cases hj
          |some q=>rw[d]at hj;cases hj;have hq:=k2 q (Vl d);simp[d,Sk,dm hq]
         rw[cy]at B;split at B
         .simpa using B
         .cases B)
        rw[R]at Q;obtain⟨fz,S⟩:=AjA u I;rw[S]at Q;have M:(Cc w e.c (.cells arr z fz)).heap[e.c]?=some (.cells arr z fz):=by rw[Da,Xo ⟨rfl,Dj u⟩]
        refine⟨σ,_,_,Q,?_,?_⟩
        .have D:bytesOf ⟨(s.map UInt8.ofNat).toArray⟩=s:=by
          unfold bytesOf;simp only[List.map_map];have:∀l:uq,(∀n∈l,n<256)->l.map (UInt8.toNat ∘ UInt8.ofNat)=l:=by
           intro l Y;induction l with
           |nil=>rfl
           |cons q l ih=>
            have hq:=Y q (by simp);simp only[Co,Function.comp,Sk,dm (show q<2^8 from hq)]
            rw[ih (λn hn=>Y n (by simp[hn]))]
          exact this s k2
         have:=Au.str (σ:=σ) ⟨(s.map UInt8.ofNat).toArray⟩;rw[D]at this;exact this
        .exact Hh r.ai r.so r.ma hb X (by simp) (by simp) rfl rfl L.1 (by simp) trivial
       .cases J
      .cases C
     .cases A
    .cases g
   .cases g
  .cases g
 .cases g
end Go.Ev
