/- The other built-in functions. -/
import Derived.Test.YtecikbfimlolcaaGreatDoorEvB
import Derived.Laws.BytesString
import Derived.Laws.LoneSync
import Derived.Lib.UnsafeStr
set_option linter.all false
noncomputable section
namespace Go.Ev
variable {j:List Value}{o:List MapEntry}{p:TypeDesc}{C:Value}{I:TypeInfo}{J:SI}
variable [Ii]
variable {P:Program}{G:Nat}{σ:Dx}{h h':H}{w w':World}{v:AV}{nt:Nat}{f:L2}{a:Act}{Z:Ac}
structure St(G:Nat)(σ:Dx)(nt:Nat)(f:L2)(a:Act)(h:H)(w:World):Prop where
 fr:Pt σ nt f a
 gl:Vm G σ
 ai:Om h
 so:SOk σ w
 ma:V1 G σ h.m.get w
def Fx(σ:Dx)(h h':H):Prop:=∀b,h.nx<=b->b<h'.nx->σ b=none
def R5(P:Program)(G:Nat)(o:Oper):Prop:=∀(σ:Dx) (nt:Nat) (f:L2) (a:Act) (h h':H) (w:World) (v:AV) (Z:Ac),
 opD o.op o.type P Z f h=.ok v h'->o.op.operands.toList.all (Es G)=true->St G σ nt f a h w->h'.nx<=Bq->Fx σ h h' ->
 ∃b v' w',Ran P (execOp a.eval o) w v' w'/\Au b v v'/\Out G σ h w b h' w'
def Ag4.out{v'}(i:Ag4 σ h w v v' h' w')(b:St G σ nt f a h w)(g:h'.nx<=Bq)(e:Fx σ h h'):∃d,Au d v v'/\Out G σ h w d h' w':=by cases i with
|quiet v v' j=>exact⟨_,j,Out.refl b.ai b.so b.ma⟩
|ptr cs D7 t hc=>have c:=g;exact⟨_,.ptr _ 0 ⟨_,cs.length,none⟩ (by simp[Gu]),Tc b.ai b.so b.ma c (e _ (Yw _) (Up _)) hc⟩
|sl cs D7 t len cap l hle hc=>have c:=g;exact⟨_,.sl _ 0 _ _ _ _ ⟨_,cs.length,none⟩ _ (by simp[Gu]) hle (Yw _) (λ_=>rfl) λk=>by grind,Tc b.ai b.so b.ma c (e _ (Yw _) (Up _)) hc⟩
def Hm.to3{o}(d:Hm P G o):R5 P G o:=by intro σ nt f a h h' w v Z c De b e g;obtain⟨v',w',h1,h2⟩:=d _ _ f a h _ w v _ c De b.fr b.gl;obtain⟨i,j,k⟩:=h2.out b e g;grind
section ops
variable {dst:Option Tmp}{ty:TypeId}{pos:String}{af:Array Edge}{gd:Option (Nat × Bool)}
def AjC t x:R5 P G ⟨dst,.load t x,ty,pos,af,gd⟩:=by intro σ nt f a h h' w v Z d De c i g;obtain⟨v',h1,h2,rfl⟩:=Ae0 t x d (by simpa[Op.operands]using De) c.fr c.gl λb off e _=>c.ma b e;exact⟨_,_,w,h1,h2,Out.refl c.ai c.so c.ma⟩
def V3{cs}{l}(hc:Bk σ cs l)(c:Bm cs=true):∀u∈l,u.oneCell'=true:=by
 intro u b;obtain⟨i,hi,rfl⟩:=List.getElem_of_mem b;have d:=by have:=hc.1;omega
 exact Arz ((AfG _).1 c cs[i] (dl _)) (hc.2 i _ _ (Xs _) (Xs _))
def L6 σ:Au σ (.Bj []) undef:=.Bj _ _ rfl λi x y b _=>by grind
def Agc{r}(b:AnU r=.ok v h'):r=.ok h'/\v=.Bj []:=by cases r<;>cases b;simp
def Ah3 t x y:R5 P G ⟨dst,.store t x y,ty,pos,af,gd⟩:=by
 intro σ nt f a h h' w v Z q De d D C;simp[Op.operands]at De;have r:=Cj d.fr d.gl x De.1;have hy:=Cj d.fr d.gl y De.2;have k:stV _ _ _ h=.ok v _:=q;generalize ev x f=u at *;generalize m:a.eval x=xx at *;cases r<;>first|(cases k)|rename_i b off e l;have c:stC _ _ b _ h=.ok v _:=k;unfold stC at c;split at c
 .rename_i cs n hc hn;rcases Bl c with⟨h1,c⟩|⟨_,c⟩
  .rcases Bl c with⟨h2,c⟩|⟨_,c⟩
   .obtain⟨p,rfl⟩:=Agc c;have j:=O4 hc hy;obtain⟨i,z,B⟩:=F3 hn;have g:=Ch h1;rw[Gh]at g;obtain⟨w',o,A⟩:=Agp (P:=P) p d.ai d.so d.ma l j (V3 j h2);have s:(a.eval y).cells.size=i.size:=by have:=j.1;grind
    refine⟨_,_,_,.inr ⟨?_,rfl⟩,L6 _,A⟩;simp[execOp,m,Instr.storeAt,Instr.sureAddr,storeVar,sizeOf,typeInfo,z,s,o]
   grind
  grind
 grind
def AeI{o}{u}(b:mk h o u=.ok v h'):v=u/\h'=h.new o:=by cases b;simp
def AdI t r:R5 P G ⟨dst,.makeMap t r,ty,pos,af,gd⟩:=by intro σ nt f a h h' w v Z e De c j g;have d:=e;cases r with
|some r=>cases d
|none=>
 obtain⟨rfl,rfl⟩:=AeI (show mk h ..=.ok v _ from d);have k:=j;have b:=g _ (Yw _) (Up _);refine⟨Gu σ h.nx ⟨w.heap.size,0,none⟩,.map (some w.heap.size),Dd w (.map #[] 0),.inl ?_,?_,?_⟩;. rfl
 .exact .map _ ⟨_,0,none⟩ (by simp[Gu])
 .exact Yf c.ai c.so c.ma k b rfl rfl ⟨rfl,_,0,F1 w _,rfl,λi x y l _=>by grind⟩
def wrap_small(m:Nat)(b:m<1000000000000):IntKind.i64.wrap m=m:=by apply Agq;have h1:IntKind.i64.min=-9223372036854775808:=rfl;simp_all;omega
def Qc{x}{n}(b:Arm x=some n):x=.int .i64 (.ofNat n):=by
 unfold Arm at b;split at b;. rename_i m c;cases b;exact P1 c
 grind
def Abh(t:TypeId)(x y:Operand):R5 P G ⟨dst,.makeSlice t x y,ty,pos,af,gd⟩:=by
 refine Hm.to3 ?_;intro σ nt f a h h' w v Z L De F B;simp[Op.operands]at De;have D:=Cj F B x De.1;have hy:=Cj F B y De.2;have b:H5 t x y ty P Z f h=.ok v h':=L;unfold H5 at b;split at b
 .rename_i i n m J hn M;obtain⟨Q,z,zz,E,hi,p,o,R,l,r,O,K⟩:=Pk J;rw[R]at b;dsimp only at b;rw[Qc hn]at D;rw[Qc M]at hy;generalize C:a.eval x=xx at *;generalize c:a.eval y=yy at *;cases D;cases hy;rcases Bl b with⟨h1,b⟩|⟨_,b⟩
  .rcases Bl b with⟨h2,b⟩|⟨_,b⟩
   .obtain⟨rfl,rfl⟩:=AeI b;have q:=G2 h1;have T:=Ec h2;have W:m<=m*(i.bytes+i.s+1):=Nat.le_mul_of_pos_right m om;have U:m*i.bytes<=m*(i.bytes+i.s+1):=cq m om;have A:=wrap_small m om;have wn:=wrap_small n om;have X:¬ ((m:Int)<0):=by omega
    have S:¬ ((i.bytes:Int)*(m:Int) > 2^48):=by grind
    have V:¬ ((n:Int)<0):=by omega
    have Y:¬ ((n:Int) > (m:Int)):=by omega
    have d:=Aiy (K σ) m;rw[r]at d;refine⟨.slice (some ⟨w.heap.size,0,none⟩) n m,Dd w (.cells ((Array.range (m*i.s)).map (λj=>zz.cells[j%zz.cells.size]!)) i.e),.inl ?_,?_⟩
    .have k:((((m:Int)<0||(i.bytes:Int)*(m:Int) > 2^48)||(n:Int)<0||(n:Int) > (m:Int)):Bool)=false:=by simp_all
     by_cases h0:m*i.s=0
     .have u:∀g:Nat->Value,(Array.range (m*i.s)).map g=#[]:=λg=>by rw[h0];apply Array.ext';simp
      simp only[execOp,C,c,Instr.makeSlice,asInt,asIntOf,typeInfo,sizeOf,Sem.run_bind,run_program,Result.andThen_ok,Sem.run_pure,run_underlying E,hi,p,o,dn,A,wn,run_askRoom,newRow,u,Lm];simp only[dn,k,Mh,Fl];have I:Array.range 0=(#[]:Array Nat):=by apply Array.ext';simp
      simp[h0,u,Dd,hi,p,I]
     .simp only[execOp,C,c,Instr.makeSlice,asInt,asIntOf,typeInfo,sizeOf,zeroValue,Sem.run_bind,run_program,Result.andThen_ok,Sem.run_pure,run_underlying E,hi,p,o,l,dn,A,wn,run_askRoom,newRow,Lm];simp only[k,Mh,Fl];simp[h0,Dd,hi,p,l,typeInfo]
    .exact .sl (Ade z m) _ i.e n m i.s q d
   .cases b
  .cases b
 .cases b
end ops
section ops
variable {dst:Option Tmp}{ty:TypeId}{pos:String}{af:Array Edge}{gd:Option (Nat × Bool)}
def Xg{x}{n}(b:Xf x=some n):x=.int .u8 (.ofNat n)/\n<256:=by
 unfold Xf at b;split at b;. rename_i m c;cases hq:Nat.blt m 256 with
   |false=>simp_all
   |true=>rw[hq]at b;cases b;exact⟨P1 c,Ec hq⟩
 grind
def AfY x cs:Yj (x::cs)=match Xf x,Yj cs with|some n,some r=>some (n::r)|_,_=>none:=rfl
def AaQ:∀cs s l,Yj cs=some s->Bk σ cs l->l=(s.map Int.ofNat).map (Value.int .u8)/\∀n∈s,n<256:=by intro cs;induction cs with
|nil=>intro s l b c;cases b;exact⟨c.Rt,λn hn=>by grind⟩
|cons x cs g=>
 intro s l b c;rw[AfY]at b;split at b;. rename_i n r hn d;obtain⟨y,l',rfl,e,i⟩:=c.F8;obtain⟨rfl,j⟩:=Xg hn;cases e;grind
 grind
def Afp r(n:Nat)(hn:n<256):bytesOf (r.push (UInt8.ofNat n))=bytesOf r++[n]:=by unfold bytesOf;simp_all
def Afo:∀s r,(∀n∈s,n<256)->bytesOf ((s.map Int.ofNat).foldl (λr n=>r.push (UInt8.ofNat n.toNat)) r)=bytesOf r++s:=by intro s;induction s with
|nil=>simp
|cons n s c=>intro r b;simp[Co,du];rw[c _ λm d=>b m (by grind),Afp r n (b n (by simp))];simp
def AdA:bytesOf ByteArray.empty=[]:=rfl
def Aam{c}{arr}{t}{fz}(hc:w.heap[c]?=some (.cells arr t fz)):w.shape? c=some (t,arr.size):=by simp[World.shape?,hc]
def Ahx w arr t n:(Dd w (.cells arr t)).freeze ⟨w.heap.size,n,none⟩ 1=Dd w (.cells arr t (n,n+1)):=by unfold World.freeze Dd;simp[Nat.one_ne_zero,Fl];congr 1;grind
def AaZ σ s:Bk σ (U2 (bytesOf s)) (s.data.map λb=>Value.int .u8 b.toNat).toList:=by unfold bytesOf;rw[Array.toList_map];generalize s.data.toList=l;induction l with
|nil=>exact Bk.nil _
|cons b l c=>exact .cons (.int ..) c
def AaY s:(U2 s).length=s.length:=by induction s with
|nil=>rfl
|cons a s b=>show(U2 s).length+1=_;grind
def St.draw(c:St G σ nt f a h w)(n:Nat):St G σ nt f a h { w with drawn:=n }:=⟨c.fr,c.gl,c.ai,⟨c.so.inj,c.so.rng,c.so.low⟩,λb e d=>Gr.congr (Qq.refl σ) rfl (λ_ _ _ _ _ g=>g) (c.ma b e d)⟩
def Out.draw{n:Nat}{b:Dx}(c:Out G σ h { w with drawn:=n } b h' w'):Out G σ h w b h' w':=by obtain⟨nw,a1,a2,d⟩:=c;exact⟨nw,a1,⟨a2.le,a2.fresh,a2.ok,a2.grow,a2.frame,a2.Vh,a2.io⟩,d⟩
def AmA(P:Program)(s d:TypeId):match ApL P s d with
 |.bad=>True
 |.int k=>(∃j,P.underlying s=some (.int j))/\P.underlying d=some (.int k)
 |.Agl e=>P.underlying s=some .string/\P.underlying d=some (.slice e)/\P.underlying e=some (.int .u8)/\F7 P e=some 1
 |.ofBytes=>∃e,P.underlying s=some (.slice e)/\P.underlying d=some .string/\P.underlying e=some (.int .u8)
 |.toU=>∃e b,P.underlying s=some (.pointer e)/\P.underlying d=some .unsafePointer/\P.info? e=some b/\b.size≠0
 |.ofU u=>∃b,P.underlying s=some .unsafePointer/\P.underlying d=some (.pointer u)/\P.info? u=some b/\b.size≠0:=by
 generalize hc:ApL P s d=c;unfold ApL at hc;split at hc
 .rename_i j k h1 h2;subst hc;exact⟨⟨j,h1⟩,h2⟩
 .rename_i e h1 h2;split at hc
  .rename_i g i;subst hc;exact⟨h1,h2,g,i⟩
  .subst hc;trivial
 .rename_i e h1 h2;split at hc
  .rename_i g;subst hc;exact⟨e,h1,h2,g⟩
  .subst hc;trivial
 .rename_i e h1 h2;split at hc
  .rename_i n g;subst hc;obtain⟨b,i,l⟩:=F3 g;exact⟨e,b,h1,h2,i,by omega⟩
  .subst hc;trivial
 .rename_i u h1 h2;split at hc
  .rename_i n g;subst hc;obtain⟨b,i,l⟩:=F3 g;exact⟨b,h1,h2,i,by omega⟩
  .subst hc;trivial
 .subst hc;trivial
def AdH(s d:TypeId)(x:Operand):R5 P G ⟨dst,.convert s d x,ty,pos,af,gd⟩:=by
 intro σ nt f a h h' w v Z he De l hl hf;have m:=Cj l.fr l.gl x (by simpa[Op.operands]using De);have g:Ml s d x ty P Z f h=.ok v h':=he;unfold Ml at g;have p:=AmA P s d;generalize q:a.eval x=xx at *
 split at g<;>rename_i hcv<;>rw[hcv]at p
 .rename_i k;obtain⟨⟨j,h1⟩,h2⟩:=p;split at g
  .rename_i k2 n o;rw[P1 o]at m;cases m;obtain⟨rfl,rfl⟩:=B4 g;refine⟨σ,.int k (k.wrap n),w,.inl ?_,by rw[Ub];exact .int _ _,Out.refl l.ai l.so l.ma⟩;simp[execOp,q,convert,run_underlying h1,run_underlying h2,Conv.intToInt]
  .cases g
 .rename_i e;obtain⟨h1,h2,z,M⟩:=p;split at g
  .rename_i s2 o;rw[Rj o]at m;cases m;rename_i bs;rcases Bl g with⟨hsm,g⟩|⟨_,g⟩
   .obtain⟨rfl,rfl⟩:=B4 g;have B:Y2 (bytesOf bs)=bs.size:=by rw[Rf,Gv]
    generalize hq:Question.cut (.appendCap bs.size 0 e) (w.tape w.drawn (.appendCap bs.size 0 e))=cap;have Ah8:bs.size<=cap:=by rw[<- hq];simp[Question.cut]
    generalize E:(bs.data.map λb=>Value.int .u8 b.toNat)++Array.replicate (cap-bs.size) (Value.int .u8 0)=arr;have BdZ:bs.data.size=bs.size:=rfl;have Fc:arr.size=cap:=by rw[<- E];simp;omega
    have Vs:h.nx+1<Bq:=hl;have R:σ (h.nx+1)=none:=hf _ om (by show h.nx+1<h.nx+2;omega)
    have F:=l.draw (w.drawn+1);have hg:=Ae4 (G:=G) (cs:=U2 (bytesOf bs)) (t:=e) (arr:=arr) (fz:=(arr.size,arr.size+1)) F.ai F.so F.ma Vs (hf _ (Yw _) (by show h.nx<h.nx+2;omega)) R (by rw[AaY,Gv];omega) (by intro i u y hu hy;have hr:=AaZ σ bs;have hi:=(R4.1 hu).1;rw[AaY,Gv]at hi;refine hr.2 i u y hu ?_;rw[<- hy,<- E,bt (by simp;omega)];simp) (λi hi=>by omega)
    refine⟨_,.slice (some ⟨w.heap.size,0,none⟩) bs.size cap,_,.inl ?_,?_,Out.draw hg⟩
    .have T:(Dd { w with drawn:=w.drawn+1 } (.cells arr e)).shape? w.heap.size=some (e,arr.size):=Aam (F1 { w with drawn:=w.drawn+1 } _);have W:=Ahx { w with drawn:=w.drawn+1 } arr e arr.size;have Ay9:(Question.appendCap bs.size 0 e).forced=false:=rfl;have hch:(choose (.appendCap bs.size 0 e)).run P w=.ok cap { w with drawn:=w.drawn+1 }:=by simp only[choose,Sem.run,Ay9,Mh,Fl,hq]
     have U:(newRow e arr).run P { w with drawn:=w.drawn+1 }=.ok ⟨w.heap.size,0,none⟩ (Dd { w with drawn:=w.drawn+1 } (.cells arr e)):=rfl;have Y:(markStringish ⟨w.heap.size,0,none⟩).run P (Dd { w with drawn:=w.drawn+1 } (.cells arr e))=.ok () (Dd { w with drawn:=w.drawn+1 } (.cells arr e (arr.size,arr.size+1))):=by simp only[markStringish,Sem.run_bind,run_shape,Result.andThen_ok,T,run_freeze];exact Jh (Result.ok ()) W
     simp only[execOp,q,convert,Sem.run_bind,run_underlying h1,run_underlying h2,run_underlying z,Result.andThen_ok,Conv.stringToBytes,hch,E,U,Y,Sem.run_pure]
    .rw[B];exact .sl _ 0 _ _ 1 false ⟨w.heap.size,arr.size,some h.nx⟩ cap (by simp[Gu]) (Yw _) Ah8 (λhh=>by cases hh) (λ_=>by simp;omega)
   .cases g
  .cases g
 .obtain⟨e,h1,h2,z⟩:=p;split at g
  .rename_i o;rw[Ok o]at m;cases m;obtain⟨rfl,rfl⟩:=B4 g;refine⟨σ,.string .empty,w,.inl ?_,.str ByteArray.empty,Out.refl l.ai l.so l.ma⟩;simp[execOp,q,convert,run_underlying h1,run_underlying h2,run_underlying z,Conv.bytesToString]
  .rename_i b off len cap sz ex o;rw[Ri o]at m;cases m;rotate_left
   .rename_i off e1 a Q A;split at g
    .rename_i c L;have C:Nf c (off+1) 0=some []\/Nf c (off+1) 0=none:=by
      rw[E5];split
      .left;simp
      .right;rfl
     rcases C with C|C
     .rw[C]at g;obtain⟨rfl,rfl⟩:=B4 g;have I:=run_bytesToString (P:=P) w a 0 Q [] rfl;refine⟨σ,.string ByteArray.empty,w,.inl ?_,.str ByteArray.empty,Out.refl l.ai l.so l.ma⟩;simp only[execOp,q,convert,Sem.run_bind,run_underlying h1,run_underlying h2,run_underlying z,Result.andThen_ok,I,Sem.run_pure];rfl
     .rw[C]at g;cases g
    .cases g
   rename_i e1 Q A g1 g2 g3 g4;split at g
   .rename_i c L;split at g
    .rename_i cs C;split at g
     .rename_i s2 O;obtain⟨rfl,rfl⟩:=B4 g;obtain⟨arr,tt,fz,K,q2,q3,q4⟩:=No L (l.ma b e1 A);obtain⟨r1,_,_⟩:=Js C;have Q0:=Uj C q4 om;obtain⟨r2,r3⟩:=AaQ cs s2 _ O Q0;have J:=Mo (P:=P) K (show off+len<=arr.size by omega)
      rw[r2]at J;have I:=run_bytesToString (P:=P) w ⟨e1.c,off,none⟩ len Q (s2.map Int.ofNat) J;refine⟨σ,.string ((s2.map Int.ofNat).foldl (λr n=>r.push (UInt8.ofNat n.toNat)) ByteArray.empty),w,.inl ?_,?_,Out.refl l.ai l.so l.ma⟩
      .simp only[execOp,q,convert,Sem.run_bind,run_underlying h1,run_underlying h2,run_underlying z,Result.andThen_ok,I,Sem.run_pure]
      .have e5:=Afo s2 ByteArray.empty r3;rw[AdA,I3]at e5;have:=Au.str (σ:=σ) ((s2.map Int.ofNat).foldl (λr n=>r.push (UInt8.ofNat n.toNat)) ByteArray.empty);rw[e5]at this;exact this
     .cases g
    .cases g
   .cases g
  .cases g
 .obtain⟨e,V,h1,h2,z,M⟩:=p;split at g
  .rename_i o;rw[Wv o]at m;cases m;obtain⟨rfl,rfl⟩:=B4 g;refine⟨σ,.pointer none,w,.inl ?_,.Ob,Out.refl l.ai l.so l.ma⟩;simp[execOp,q,convert,run_underlying h1,run_underlying h2,Conv.unsafePointer]
  .rename_i b off o;rw[P2 o]at m;cases m;rename_i e1 A;split at g
   .rename_i c L;rcases Bl g with⟨B6,g⟩|⟨_,g⟩
    .obtain⟨rfl,rfl⟩:=B4 g;have X:=Ec B6;rw[Gh]at X;obtain⟨arr,tt,fz,K,q2,q3,q4⟩:=No L (l.ma b e1 A);have O9:w.cell? ⟨e1.c,off,none⟩=some arr[off]:=by rw[Xj K];exact S2 om
     have I:=run_convert_to_unsafe (P:=P) h1 h2 (by rw[z];simp[M]) O9;refine⟨σ,.pointer (some ⟨e1.c,off,none⟩),w,.inl ?_,.ptr b off e1 A,Out.refl l.ai l.so l.ma⟩;simp[execOp,q,I]
    .cases g
   .cases g
  .cases g
 .rename_i u;obtain⟨V,h1,h2,z,M⟩:=p;split at g
  .rename_i o;rw[Wv o]at m;cases m;obtain⟨rfl,rfl⟩:=B4 g;refine⟨σ,.pointer none,w,.inl ?_,.Ob,Out.refl l.ai l.so l.ma⟩;simp[execOp,q,convert,run_underlying h1,run_underlying h2,Conv.unsafePointer]
  .rename_i b off o;rw[P2 o]at m;cases m;rename_i e1 A;split at g
   .rename_i c e2 S;rcases Bl g with⟨D,g⟩|⟨_,g⟩
    .obtain⟨rfl,rfl⟩:=B4 g;have Ha:=l.ma b e1 A;rw[S]at Ha;obtain⟨arr,lo,hi2,K,q2,q3,q4,q5,q6⟩:=Ha.2 trivial;have B:=q5 rfl;unfold Awp at D;rw[Gh]at D;have Fc:arr.size=c.length:=by omega
     refine⟨σ,.pointer (some ⟨e1.c,off,none⟩),w,.inl ?_,.ptr b off e1 A,Out.refl l.ai l.so l.ma⟩;simp[execOp,q,convert,run_underlying h1,run_underlying h2,Conv.unsafePointer,Conv.seenAt,viewAt,Aam K,sizeOf,typeInfo,z,M,variablesAt,Fc,D]
    .cases g
   .cases g
  .cases g
 .cases g
end ops
section ops
variable {dst:Option Tmp}{ty:TypeId}{pos:String}{af:Array Edge}{gd:Option (Nat × Bool)}
def AhL{kt:TypeId}(p:AlK P kt=true):∃d,P.underlying kt=some d/\(∀(x y:AV) (x' j:Value) (b:Bool),Gy P kt x y=some b->Au σ x x'->Au σ y j->Instr.sameNow d x' j=some b) /\
 ∀(e:Bool) (x':Value) (w:World),(Instr.checkKey e 10000 kt x').run P w=.ok () w:=by
 have o:=AbD P kt;have t:∀d,P.underlying kt=some d->(∀m,d≠.interface m)->(∀n e,d≠.array n e)->(∀z,d≠.struct z)->∀(n:Nat) (e:Bool) (x':Value) (w:World),(Instr.checkKey e (n+1) kt x').run P w=.ok () w:=λd l h1 h2 u n e x' w=>by simp only[Instr.checkKey,Sem.run_bind,run_underlying l,Result.andThen_ok];cases d<;>first|rfl|(exact absurd rfl (h1 _))|(exact absurd rfl (h2 _ _))|(exact absurd rfl (u _))
 unfold AlK at p;cases q:tk P kt<;>rw[q]at p o<;>first|(cases p;done)|skip
 .obtain⟨k,l⟩:=o;refine⟨.int k,l,?_,t _ l (by simp) (by simp) (by simp) 9999⟩;intro x y x' j b hq i hy;have c:Dy P (aeq P 2) kt x y=some b:=hq;unfold Dy at c;rw[q]at c;dsimp only at c;split at c
  .rename_i r B s A h1 h2;rw[P1 h1]at i;rw[P1 h2]at hy;cases i;cases hy;cases g:kEq r s with
   |false=>rw[g]at c;cases c
   |true=>rw[g]at c;have e1:=(Q3 r s).1 g;subst e1;cases c;rw[Q1];simp[Instr.sameNow]
  .cases c
 .refine⟨.string,o,?_,t _ o (by simp) (by simp) (by simp) 9999⟩;intro x y x' j b hq i hy;have c:Dy P (aeq P 2) kt x y=some b:=hq;unfold Dy at c;rw[q]at c;dsimp only at c;split at c
  .rename_i C s2 h1 h2;rw[Rj h1]at i;rw[Rj h2]at hy;cases i;cases hy;cases c;rw[U1];simp[Instr.sameNow,beq_toListBytes]
  .cases c
def Kp(σ:Dx)(b:List (AV × AV))(l:List MapEntry):Prop:=
 b.length=l.length/\∀(i:Nat) (x:AV × AV) (y:MapEntry),b[i]?=some x->l[i]?=some y->Au σ x.1 y.key/\Au σ x.2 y.val
def Kp.F8{x:AV × AV}{c:List (AV × AV)}(b:Kp σ (x::c) o):∃y l',o=y::l'/\Au σ x.1 y.key/\Au σ x.2 y.val/\Kp σ c l':=by
 cases o with
 |nil=>have:=b.1;simp at this
 |cons y l'=>have h0:=b.2 0 x y (by simp) (by simp);refine⟨y,l',rfl,h0.1,h0.2,by have:=b.1;simpa using this,λi u z e d=>b.2 (i+1) u z (by simpa using e) (by simpa using d)⟩
def Kp.cons{x:AV × AV}{y:MapEntry}{d:List (AV × AV)}(h1:Au σ x.1 y.key)(h2:Au σ x.2 y.val)(e:Kp σ d o):Kp σ (x::d) (y::o):=by
 refine⟨by simp[e.1],λi u z c b=>?_⟩;cases i with
 |zero=>simp at c b;subst c;subst b;exact⟨h1,h2⟩
 |succ i=>simp at c b;exact e.2 i u z c b
def Qo(P:Program)(kt:TypeId)(k':Value)(l:List MapEntry)(r:Option (Nat × Value)):Prop:=∀w,(Instr.findKey kt k' l).run P w=.ok r w
def Xr{kt:TypeId}(b:P.underlying kt=some p){k':Value}{r:Option (Nat × Value)}(h:Instr.findNow p k' o 0=some r):Qo P kt k' o r:=by intro w;simp[Instr.findKey,run_underlying b,h]
def Anv{m}{d}{k'}(hq:∀y y' b,m y=some b->Au σ y y'->Instr.sameNow d k' y'=some b):
 ∀e l i r,M1 m e=some r->Kp σ e l ->
  match r with
  |some x=>∃j y,Instr.findNow d k' l i=some (some (j,y))/\Au σ x y
  |none=>Instr.findNow d k' l i=some none:=by intro e;induction e with
 |nil=>
  intro l i r c k;have:l=[]:=by have:=k.1;grind
  subst this;cases c;rfl
 |cons x e o=>
  intro l i r c k;obtain⟨y,l',rfl,h1,h2,p⟩:=k.F8;simp[M1]at c;split at c;. rename_i g;cases c;have:=hq _ _ _ g h1;exact⟨i,_,by simp[Instr.findNow,this],h2⟩
  .rename_i g;have n:=hq _ _ _ g h1;have q:=o _ (i+1) r c p;cases r with
   |none=>simp[Instr.findNow,n];grind
   |some u=>simp[Instr.findNow,n];omega
  grind
def Anw{kt:TypeId}(g:P.underlying kt=some p)(hq:∀(x y:AV) (x' c:Value) (b:Bool),Gy P kt x y=some b->Au σ x x'->Au σ y c->Instr.sameNow p x' c=some b){k:AV}{k':Value}(o:Au σ k k')(e:List (AV × AV))(l:List MapEntry)(r:Option AV)(n:M1 (Gy P kt k) e=some r)(d:Kp σ e l):
 match r with
 |some x=>∃j y,Qo P kt k' l (some (j,y))/\Au σ x y
 |none=>Qo P kt k' l none:=by
 have:=Anv (σ:=σ) (d:=p) (k':=k') (λy c b i hy=>hq k y k' c b i o hy) e l 0 r n d;cases r with
 |none=>exact Xr g this
 |some x=>obtain⟨j,y,m,q⟩:=this;exact⟨j,y,Xr g m,q⟩
def AcG{t:TypeId}{c:MI}(b:AlU P t=some c):∃et,P.underlying t=some (.map c.kt et)/\Ps P et=some c.z/\AlK P c.kt=true:=by
 unfold AlU at b;split at b
 .rename_i kt et g;split at b
  .rename_i z e d;cases b;exact⟨et,g,e,d⟩
  .cases b
 .cases b
def Af1(t:TypeId)(x i:Operand)(ok:Bool):R5 P G ⟨dst,.lookup t x i ok,ty,pos,af,gd⟩:=by
 intro σ nt f a h h' w v Z he De k hl hf;simp[Op.operands]at De;have S:=Cj k.fr k.gl x De.1;have hi:=Cj k.fr k.gl i De.2;have m:Pe t x i ok ty P Z f h=.ok v h':=he;unfold Pe at m;split at m
 .rename_i L I J g;obtain⟨et,T,hz,B⟩:=AcG J;obtain⟨inf,V,C,F,K⟩:=Ud σ hz;obtain⟨d,E,hq,p⟩:=AhL (P:=P) (σ:=σ) B;have A:∃(l:List MapEntry) (c b:Nat),Kp σ I l/\a.eval x=.map (some c)/\w.heap[c]?=some (.map l.toArray b):=by
   unfold entries at g;generalize a.eval x=xx at *
   split at g
   .rename_i r hv;rw[Ago hv]at S;cases S;rename_i e Y;split at g
    .rename_i X D;cases g;have R:=k.ma r e Y;rw[D]at R;obtain⟨_,W,b,q1,U,q3⟩:=R;exact⟨W.toList,e.c,b,⟨U,q3⟩,rfl,by simpa using q1⟩
    .cases g
   .cases g
  obtain⟨l,c,b,q,Q,hc⟩:=A;have M:(getObj c).run P w=.ok (.map l.toArray b) w:=by simp[getObj,Sem.run,hc]
  have run:∀(r:Option AV),M1 (Gy P L.kt (ev i f)) I=some r->∃z n,(match r with|some u=>Au σ u n/\z=true|none=>Au σ L.z n/\z=false) /\
   (Instr.lookup t (a.eval x) (a.eval i) ok).run P w=.ok (if ok then .tuple #[n,.bool z]else n) w:=by
   intro r o;have O:=Anw E hq hi I l r o q;cases r with
   |none=>have s:Qo P L.kt (a.eval i) l none:=O;refine⟨false,V,⟨K,rfl⟩,?_⟩;simp only[Instr.lookup,Q,Sem.run_bind,run_underlying T,Result.andThen_ok,M,Sem.run_pure,p,List.toList_toArray,s _,zeroValue,typeInfo,run_program,C,F]
   |some u=>obtain⟨j,y,hj,hy⟩:=O;refine⟨true,y,⟨hy,rfl⟩,?_⟩;simp only[Instr.lookup,Q,Sem.run_bind,run_underlying T,Result.andThen_ok,M,Sem.run_pure,p,List.toList_toArray,hj _]
  split at m
  .rename_i u o;obtain⟨z,n,⟨h1,rfl⟩,h2⟩:=run _ o;obtain⟨rfl,rfl⟩:=B4 m;refine⟨σ,_,w,.inl (by simp[execOp,h2];rfl),?_,Out.refl k.ai k.so k.ma⟩;cases ok
   .exact h1
   .exact Ass h1 (.bool true)
  .rename_i o;obtain⟨z,n,⟨h1,rfl⟩,h2⟩:=run _ o;obtain⟨rfl,rfl⟩:=B4 m;refine⟨σ,_,w,.inl (by simp[execOp,h2];rfl),?_,Out.refl k.ai k.so k.ma⟩;cases ok
   .exact h1
   .exact Ass h1 (.bool false)
  .cases m
 .cases m
def Ari{o:AV->Option Bool}{k x:AV}{k' x':Value}(C:Au σ k k')(D:Au σ x x')(g:Nat)
 (hq:∀(y:AV) (n:Value) (b:Bool),o y=some b->Au σ y n->Instr.sameNow p k' n=some b):
 ∀(j c:List (AV × AV)) (l:List MapEntry) (i:Nat),Z7 o k x j=some c->Kp σ j l ->
  Instr.findNow p k' l i=some none/\Kp σ c (l++[{ key:=k',val:=x',born:=g }]):=by
 intro j;induction j with
 |nil=>
  intro c l i e m;have:l=[]:=by have:=m.1;cases l;rfl;simp at this
  subst this;cases e;exact⟨rfl,Kp.cons C D ⟨rfl,λi u y F _=>by simp at F⟩⟩
 |cons z j d=>
  intro c l i e m;obtain⟨y,l',rfl,h1,h2,E⟩:=m.F8;simp only[Z7]at e;split at e
  .rename_i s;have B:=hq z.1 y.key false s h1;split at e
   .rename_i r q;cases e;obtain⟨A,t⟩:=d r l' (i+1) q E;refine⟨?_,Kp.cons h1 h2 t⟩;simp only[Instr.findNow,B];exact A
   .cases e
  .cases e
def AhZ(t:TypeId)(m k x:Operand){Z:Ac}(j:E6 t m k x ty P Z f h=.ok v h')(h1:Es G m=true)(h2:Es G k=true)(W:Es G x=true)(i:St G σ nt f a h w):
 ∃w',(Instr.mapUpdate t (a.eval m) (a.eval k) (a.eval x)).run P w=.ok () w'/\v=.Bj []/\Out G σ h w σ h' w':=by
 have J:=Cj i.fr i.gl m h1;have K:=Cj i.fr i.gl k h2;have V:=Cj i.fr i.gl x W;unfold E6 at j;split at j
 .rename_i Y r C D;obtain⟨et,X,hz,z⟩:=AcG C;obtain⟨d,B,hq,F⟩:=AhL (P:=P) (σ:=σ) z;rw[Ago D]at J;generalize U:a.eval m=mm at *
  cases J;rename_i e p;split at j
  .rename_i R l;split at j
   .rename_i u E;obtain⟨rfl,rfl⟩:=B4 j;have L:=i.ma r e p;rw[l]at L;obtain⟨n,s,g,I,O,S⟩:=L;have M:(getObj e.c).run P w=.ok (.map s g) w:=by simp[getObj,Sem.run,I]
    have q:∀o,(setObj e.c o).run P w=.ok () (Cc w e.c o):=λo=>by simp[setObj,Sem.run,I,Cc]
    obtain⟨T,A⟩:=Ari K V g (λy Q b p hy=>hq _ y _ Q b p K hy) R u s.toList 0 E ⟨O,S⟩;refine⟨Cc w e.c (.map (s.push { key:=a.eval k,val:=a.eval x,born:=g }) (g+1)),?_,rfl,?_⟩
    .simp only[Instr.mapUpdate,Sem.run_bind,run_underlying X,Result.andThen_ok,M,F,Xr B T _,Sem.run_pure,q]
    .refine Hh i.ai i.so i.ma p l (by simp) (by simp) rfl rfl n (by simp) ?_;rw[<- Array.toList_push]at A;exact⟨n,_,g+1,by rw[Da,W5 ⟨rfl,Dj I⟩],A.1,A.2⟩
   .cases j
  .cases j
 .cases j
def Af0(t:TypeId)(m k x:Operand):R5 P G ⟨dst,.insert t m k x,ty,pos,af,gd⟩:=by intro σ nt f a h h' w v Z c De b e d;simp[Op.operands]at De;obtain⟨w',h1,rfl,h2⟩:=AhZ (P:=P) (ty:=ty) (Z:=Z) t m k x c De.1 De.2.1 De.2.2 b;exact⟨σ,undef,w',.inr ⟨by simp[execOp,h1],rfl⟩,L6 σ,h2⟩
end ops
structure Ms(G:Nat)(σ:Dx)(h:H)(w:World):Prop where
 ai:Om h
 so:SOk σ w
 ma:V1 G σ h.m.get w
def Ms.draw(c:Ms G σ h w)(n:Nat):Ms G σ h { w with drawn:=n }:=⟨c.ai,⟨c.so.inj,c.so.rng,c.so.low⟩,λb e d=>Gr.congr (Qq.refl σ) rfl (λ_ _ _ _ _ g=>g) (c.ma b e d)⟩
def Amk{s n:Nat}{x:AV}{new:List AV}(d:Hd h s x=some (n,new))(g:Au σ x C)(B:Ms G σ h w):
 (∀w',(Builtin.lenOf C).run P w'=.ok n w')/\∃l:List Value,Bk σ new l/\l.length=n*s/\∀k,k<=n->∀w',w'.heap=w.heap->∃l',(Builtin.firstCells s k C).run P w'=.ok l' w'/\l'.toList=l.take (k*s):=by
 unfold Hd at d;split at d
 .rename_i i;rw[Ok i]at g;cases g;cases d;exact⟨λ_=>rfl,[],Bk.nil σ,by simp,λk o w' _=>⟨#[],rfl,by simp⟩⟩
 .rename_i b off len cap Q ex i;rw[Ri i]at g;cases g;rotate_left
  .rename_i off e a E z;split at d
   .rename_i c A;have D:0*s=0:=ep s;rw[D]at d;have y:n=0/\new=[]:=by
     rw[E5]at d;split at d
     .simp at d;exact⟨d.1.symm,d.2⟩
     .cases d
    obtain⟨rfl,rfl⟩:=y;refine⟨λ_=>rfl,[],Bk.nil σ,by simp,λk o w' _=>⟨#[],?_,by simp⟩⟩;have t:k=0:=by omega
    subst t;simp[Builtin.firstCells];rfl
   .cases d
  rename_i e E z O L J R;split at d
  .rename_i c A;cases m:Nf c off (len*s)with
   |none=>simp[m]at d
   |some r=>
    simp[m]at d;obtain⟨rfl,rfl⟩:=d;obtain⟨arr,tt,fz,F,K,M,I⟩:=No A (B.ma b e z);obtain⟨r1,_,S⟩:=Js m;have u:=Uj m I om;refine⟨λ_=>rfl,_,u,by have:=u.1;omega,λk o w' q=>?_⟩
    have p:k*s<=len*s:=D2 s o;refine⟨((arr.toList.drop off).take (k*s)).toArray,?_,?_⟩
    .exact Mo (P:=P) (by rw[q];exact F) om
    .simp[de,dw p]
  .cases d
 .split at d
  .rename_i s2 i;rw[Rj i]at g;cases g;rename_i bs;cases hq:Nat.beq s 1 with
   |false=>rw[hq]at d;cases d
   |true=>
    rw[hq]at d;have e1:=Ch hq;subst e1;cases d;have j:Y2 (bytesOf bs)=bs.size:=by rw[Rf,Gv]
    rw[j];refine⟨λ_=>rfl,_,AaZ σ bs,by rw[Array.length_toList,Array.size_map,ae];rfl,λk o w' _=>⟨_,rfl,?_⟩⟩;simp only[Array.toList_map,ae,List.map_take];rw[ByteArray.data_extract,Array.toList_extract];simp[List.map_take]
  .cases d
def AmK(b:Nat):∀(r c:Nat),c<b->Builtin.growBy b r c<=b+(b+768)/4:=by
 intro r;induction r with
 |zero=>intro c hc;simp[Builtin.growBy];omega
 |succ r d=>
  intro c hc;simp only[Builtin.growBy];rw[X2 om];by_cases h2:c+(c+768)/4<b
  .exact d _ h2
  .cases r with
   |zero=>simp[Builtin.growBy];omega
   |succ r=>simp only[Builtin.growBy];rw[W5 om];omega
def Akr(b Cf:Nat)(c:Cf<b):Builtin.nextslicecap b Cf<=2*b+200:=by
 unfold Builtin.nextslicecap;split
 .omega
 .split
  .omega
  .have:=AmK b 4 Cf c;omega
def Adv(z:Array Value)(n:Nat):(Builtin.zeroCells z n).size=n*z.size:=by simp[Builtin.zeroCells]
def Qs{ts:Array TypeId}{ty st t2:TypeId}{zz:Value}{x':Value}{base:Option Addr}{len cap n:Nat}{Cf new:Array Value}
 (ht:ts[0]?=some st) (ht2:ts[1]?=some t2) (hni:Aab P t2=true) (hu:P.underlying st=some (.slice J.e)) (hi:P.info? J.e=some I) (Fc:I.size=J.s) (hby:I.bytes=J.bytes) (hzz:I.zero=some zz)
 (hs:C=.slice base len cap) (hlen:∀w',(Builtin.lenOf x').run P w'=.ok n w') (B6:cap<len+n) (hsm:(len+n)*(J.bytes+1)<1000000000000)
 (hold:∀w',w'.heap=w.heap->(Builtin.firstCells J.s len C).run P w'=.ok Cf w') (Na:∀w',w'.heap=w.heap->(Builtin.firstCells J.s n x').run P w'=.ok new w'):
 ∃nc,len+n<=nc/\(Builtin.append_ ts ty #[C,x']).run P w=.ok (.slice (some ⟨w.heap.size,0,none⟩) (len+n) nc) (Dd { w with drawn:=w.drawn+1 } (.cells (Cf++new++Builtin.zeroCells zz.cells (nc-(len+n))) J.e)):=by
 subst hs;generalize hq:Question.cut (.appendCap (len+n) cap J.e) (w.tape w.drawn (.appendCap (len+n) cap J.e))=nc;have q:len+n<=nc:=by rw[<- hq];simp[Question.cut]
 refine⟨nc,q,?_⟩;have c:∃d,P.underlying t2=some d/\∀k,d≠.int k:=by
  unfold Aab at hni;cases hd:P.underlying t2 with
  |none=>rw[hd]at hni;cases hni
  |some d=>exact⟨_,rfl,λk i=>by rw[hd,i]at hni;cases hni⟩
 obtain⟨d,hd,A⟩:=c;have x:len+n<=(len+n)*(J.bytes+1):=Nat.le_mul_of_pos_right _ om;have E:(len+n)*J.bytes<=(len+n)*(J.bytes+1):=cq _ om;have t:=Akr (len+n) cap B6;have y:J.bytes<=1000000000000:=by
  rcases cu (len+n)with h0|h0
  .omega
  .have:J.bytes+1<=(len+n)*(J.bytes+1):=Nat.le_mul_of_pos_left _ h0;omega
 have u:Builtin.nextslicecap (len+n) cap*J.bytes<=(2*(len+n)+200)*J.bytes:=D2 _ t;have B:(2*(len+n)+200)*J.bytes=2*((len+n)*J.bytes)+200*J.bytes:=by rw[ag,Nat.mul_assoc]
 have c1:¬ (((len+n:Nat):Int) > IntKind.i64.max):=by
  have:IntKind.i64.max=9223372036854775807:=by decide
  rw[this];omega
 have c2:¬ (Builtin.nextslicecap (len+n) cap*J.bytes > 2^48):=by omega
 have r:(Question.appendCap (len+n) cap J.e).forced=false:=rfl;have o:(choose (.appendCap (len+n) cap J.e)).run P w=.ok nc { w with drawn:=w.drawn+1 }:=by simp only[choose,Sem.run,r,Mh,Fl,hq]
 have j:∀w',(sizeOf J.e).run P w'=.ok J.s w':=λw'=>by simp[sizeOf,typeInfo,hi,Fc]
 have g:∀w',(typeInfo J.e).run P w'=.ok I w':=λw'=>by simp[typeInfo,hi]
 have m:∀w',(zeroValue J.e).run P w'=.ok zz w':=λw'=>by simp[zeroValue,g,hzz]
 have z:=hold { w with drawn:=w.drawn+1 } rfl;have hn:=Na { w with drawn:=w.drawn+1 } rfl;have l:(underlying t2).run P w=.ok d w:=run_underlying hd w;simp only[Builtin.append_,ht,ht2,bl,dc,ay,Sem.run_bind,run_underlying hu,Result.andThen_ok,j,l,Sem.run_pure,Mh,Fl,hlen,X2 (Nat.not_le_of_lt B6)];have c3:¬ (Builtin.nextslicecap (len+n) cap*I.bytes > 2^48):=by rw[hby];exact c2
 split
 .simp only[Bool.not_false,Jr,hlen,Sem.run_bind,Result.andThen_ok,X2 (Nat.not_le_of_lt B6),c1,false_and,Fl,g,c3,o,run_askRoom,z,hn,m,newRow];rfl
 .rename_i D;exact absurd rfl D
def Ug{ts:Array TypeId}{ty st t2:TypeId}{x':Value}{base:Option Addr}{len cap n:Nat}{new:Array Value}
 (ht:ts[0]?=some st) (ht2:ts[1]?=some t2) (hni:Aab P t2=true) (hu:P.underlying st=some (.slice J.e)) (hi:P.info? J.e=some I) (Fc:I.size=J.s)
 (hs:C=.slice base len cap) (hlen:∀w',(Builtin.lenOf x').run P w'=.ok n w') (hle:len+n<=cap)
 (Na:(Builtin.firstCells J.s n x').run P w=.ok new w) (l:∀c,base=some c->(storeCells (c.add (len*J.s)) new.toList).run P w=.ok () w') (AqI:base=none->w'=w):
 (Builtin.append_ ts ty #[C,x']).run P w=.ok (.slice base (len+n) cap) w':=by
 subst hs;have b:∃d,P.underlying t2=some d/\∀k,d≠.int k:=by
  unfold Aab at hni;cases hd:P.underlying t2 with
  |none=>rw[hd]at hni;cases hni
  |some d=>exact⟨_,rfl,λk q=>by rw[hd,q]at hni;cases hni⟩
 obtain⟨d,hd,p⟩:=b;have j:∀w',(sizeOf J.e).run P w'=.ok J.s w':=λw'=>by simp[sizeOf,typeInfo,hi,Fc]
 have m:(underlying t2).run P w=.ok d w:=run_underlying hd w;simp only[Builtin.append_,ht,ht2,bl,dc,ay,Sem.run_bind,run_underlying hu,Result.andThen_ok,j,m,Sem.run_pure,Mh,Fl,hlen,W5 hle,Bool.not_false,Jr];cases base with
 |none=>cases AqI rfl;simp only[Na,Result.andThen_ok,Sem.run_pure]
 |some c=>have l:=l c rfl;simp only[Na,l,Result.andThen_ok,Sem.run_bind,Sem.run_pure]
def Asn{n:Nat}(hn:j.length=n):j.take n=j:=by rw[<- hn];simp
def AgR{x:Array Value}(b:x.toList=j):x=j.toArray:=by rw[<- b]
def Ad4(P:Program)(G:Nat)(σ:Dx)(h:H)(w:World)(s:Sem Value)(v:AV)(h':H):Prop:=
 ∃b v' w',s.run P w=.ok v' w'/\Au b v v'/\Out G σ h w b h' w'
def SOk.place{b j:Nat}{e e':SE}(i:SOk σ w)(p:b<Bq)(h0:σ j=some e)(q:e'.c=e.c)(g:e'.k=e.k)(hn:e.k≠none)(n:w'.heap.size=w.heap.size):SOk (Gu σ b e') w':=by
 refine⟨?_,?_,?_⟩
 .intro x y e1 m h1 h2 o;unfold Gu at h1 h2;split at h1
  .cases h1;split at h2
   .left;omega
   .rcases i.inj y j m e h2 h0 om with d|⟨d,l⟩
    .subst d;rw[h0]at h2;cases h2;exact .inr ⟨g,by rw[g];exact hn⟩
    .exact .inr ⟨by rw[g,d],by rw[g];exact hn⟩
  .split at h2
   .cases h2;rcases i.inj x j e1 e h1 h0 om with d|⟨d,l⟩
    .subst d;rw[h0]at h1;cases h1;exact .inr ⟨g.symm,hn⟩
    .exact .inr ⟨by rw[g,d],l⟩
   .exact i.inj x y e1 m h1 h2 o
 .intro x e1 h1;unfold Gu at h1;rw[n];split at h1
  .cases h1;have:=i.rng j e h0;omega
  .exact i.rng x e1 h1
 .intro x e1 h1;unfold Gu at h1;split at h1
  .omega
  .exact i.low x e1 h1
def Aeq{o:AO}{n:Nat}(b:Aj3 o=some n):o=.Fb n:=by
 cases o<;>first|(cases b;done)|skip
 cases b;rfl
def Aoo{xs ys:List Value}{cs:List AV}(b:Bk σ cs (xs++ys)):∀(i:Nat) (x:AV) (y:Value),cs[i]?=some x->(xs++ys++j).toArray[i]?=some y->Au σ x y:=by intro i x y c hy;have d:=(R4.1 c).1;rw[b.1]at d;rw[bl,ck d]at hy;exact b.2 i x y c hy
def Aa3{i:SI}{zz:Value}{Cf l:List Value}{len n nc:Nat}(b:zz.cells.size=i.s)(e:Cf.length=len*i.s)(c:l.length=n*i.s)(d:len+n<=nc):
 (Cf.toArray++l.toArray++Builtin.zeroCells zz.cells (nc-(len+n))).size=nc*i.s:=by
 rw[Array.size_append,Array.size_append,Adv,b];simp only[List.size_toArray,c,e];have:nc=len+n+(nc-(len+n)):=by omega
 rw[<- ag,<- ag,<- this]
def Xb{zz:Value}{Cf:List Value}{cs:List AV}(k:Nat)(c:Bk σ cs (Cf++j)):
 ∀(l:Nat) (x:AV) (y:Value),cs[l]?=some x->(Cf.toArray++j.toArray++Builtin.zeroCells zz.cells k)[l]?=some y->Au σ x y:=by
 intro l a1 a2 d b;have e:(Cf.toArray++j.toArray++Builtin.zeroCells zz.cells k)=(Cf++j++(Builtin.zeroCells zz.cells k).toList).toArray:=by apply Array.ext';simp
 rw[e]at b;exact Aoo c l a1 a2 d b
def Ah5{i:SI}{zz:Value}{Cf l:List Value}{cs:List AV}{len n nc:Nat}(d:zz.cells.size=i.s)(g:Bk σ cs (Cf++l))(r:Cf.length=len*i.s)(m:l.length=n*i.s)
 (hnc:len+n<=nc) (hm:Ms G σ h w) (hl:h.nx+1<Bq) (hf0:σ h.nx=none) (hf:σ (h.nx+1)=none):
 ∃k,Au k (.sl (Nat.succ h.nx) 0 (len+n) (len+n) i.s false) (.slice (some ⟨w.heap.size,0,none⟩) (len+n) nc) /\
  Out G σ h w k ((h.new (.Fb 0)).new (.cells cs i.e (.Gt h.nx))) (Dd { w with drawn:=w.drawn+1 } (.cells (Cf.toArray++l.toArray++Builtin.zeroCells zz.cells (nc-(len+n))) i.e)):=by
 have c:=Aa3 (nc:=nc) d r m hnc;have b:=hm.draw (w.drawn+1);have o:cs.length=(len+n)*i.s:=by have:=g.1;rw[X8]at this;rw[ag];omega
 have q:=Ae4 (t:=i.e) (cs:=cs) (arr:=Cf.toArray++l.toArray++Builtin.zeroCells zz.cells (nc-(len+n))) (fz:=(0,0)) b.ai b.so b.ma hl hf0 hf
  (by rw[c,o];exact D2 _ om) (Xb _ g) (by intro j _;omega)
 refine⟨_,?_,q.draw⟩;exact Au.sl (h.nx+1) 0 (len+n) (len+n) i.s false ⟨w.heap.size,(Cf.toArray++l.toArray++Builtin.zeroCells zz.cells (nc-(len+n))).size,some h.nx⟩ nc (by simp[Gu]) (Yw _) om (by intro p;cases p) (by intro _;simp only[c];omega)
def Ad8{ts:Array TypeId}{ty st t2:TypeId}{s x:AV}{s' x':Value}(d:Xa P st s x h=.ok v h')(hs:Au σ s s')(hx:Au σ x x')(o:Ms G σ h w)
 (ht:ts[0]?=some st) (ht2:ts[1]?=some t2) (hni:Aab P t2=true) (hl:h'.nx<=Bq) (hf:Fx σ h h'):Ad4 P G σ h w (Builtin.append_ ts ty #[s',x']) v h':=by
 unfold Xa at d;split at d
 .rename_i i Z3;obtain⟨inf,z,zz,hu,hi,Fc,U,hz,hzz,hlz,Y,Q0⟩:=Pk Z3;split at d
  .rename_i n new F6;obtain⟨p,l,r,S4,hfc⟩:=Amk (P:=P) F6 hx o;have BeE:new.length=n*i.s:=by have:=r.1;omega
   have W:∀w',w'.heap=w.heap->(Builtin.firstCells i.s n x').run P w'=.ok l.toArray w':=by intro C m;obtain⟨l',h1,h2⟩:=hfc n (Yw _) C m;rw[Asn S4]at h2;rw[h1,AgR h2]
   split at d
   .rename_i hv;rw[Ok hv]at hs;cases hs;rcases Bl d with⟨h0,d⟩|⟨h0,d⟩
    .cases d;have:=Ch h0;subst this;refine⟨σ,.slice none 0 0,w,Ug (P:=P) (base:=none) (w':=w) ht ht2 hni hu hi Fc rfl p om (W w rfl) (λc hc=>by cases hc) (λ_=>rfl),.Bv,Out.refl o.ai o.so o.ma⟩
    .rcases Bl d with⟨h1,d⟩|⟨_,d⟩
     .rcases Bl d with⟨h2,d⟩|⟨_,d⟩
      .have AhE:=Ho h0;have A4h:∀(w':World),w'.heap=w.heap->(Builtin.firstCells i.s 0 (.slice none 0 0)).run P w'=.ok ([]:List Value).toArray w':=λw' _=>rfl;obtain⟨nc,y,X⟩:=Qs (P:=P) (w:=w) (ty:=ty) (x':=x') (n:=n) (new:=l.toArray) ht ht2 hni hu hi Fc U hzz rfl p (by omega:(0:Nat)<0+n) (by rw[Rx];exact Ec h1)
        A4h W
       unfold grow at d;cases d;obtain⟨σ',D,q2⟩:=Ah5 (i:=i) (zz:=zz) (Cf:=[]) (l:=l) (cs:=new) (len:=0) (n:=n) (nc:=nc) Y (by simpa using r) (by simp) S4 y o hl (hf _ (Yw _) (Nat.lt_succ_of_lt (Up _))) (hf _ om (Up _));refine⟨σ',_,_,X,?_,q2⟩;have e0:0+n=n:=Rx n;rw[e0]at D ⊢;exact D
      .cases d
     .cases d
   .rename_i b off len cap sz ex hv;rw[Ri hv]at hs;have AhE:=AkD Z3;cases hs;rotate_left
    .exfalso;rcases Bl d with⟨h1,d⟩|⟨_,d⟩
     .rcases Bl d with⟨h2,d⟩|⟨_,d⟩
      .rcases Bl d with⟨h3,d⟩|⟨_,d⟩
       .have:=Ch h3;omega
       .cases d
      .cases d
     .cases d
    rename_i e O I g2 g1 g3 g4;rcases Bl d with⟨h1,d⟩|⟨_,d⟩
    .rcases Bl d with⟨h2,d⟩|⟨_,d⟩
     .rcases Bl d with⟨h3,d⟩|⟨_,d⟩
      .have hsm:=Ec h1;have hsi:=Ch h3;subst hsi;have AdM:=V3 r h2;unfold Lg at d;rcases Bl d with⟨h4,d⟩|⟨h4,d⟩
       .have hle:len+n<=cap:=G2 h4;unfold AgN at d;cases new with
        |nil=>cases d;have hl0:l=[]:=r.Rt;subst hl0;refine⟨σ,_,w,Ug (P:=P) (w':=w) ht ht2 hni hu hi Fc rfl p (show len+n<=O by omega) (W w rfl) (λc hc=>rfl) (λ_=>rfl),.sl b off _ cap i.s ex e O I hle g2 g3 g4,Out.refl o.ai o.so o.ma⟩
        |cons t u=>
        cases hw:h.wr b (off+len*i.s) (t::u)with
        |bad q=>rw[show(@List.rec _ (λ_=>OR) (.ok (.sl b off (Nat.add len n) cap i.s ex) h) (λ_ _ _=>RH.rec (motive:=λ_=>OR) .bad (λh'=>.ok (.sl b off (Nat.add len n) cap i.s ex) h') (h.wr b (off+len*i.s) (t::u))) (t::u):OR)=RH.rec (motive:=λ_=>OR) .bad (λh'=>.ok (.sl b off (Nat.add len n) cap i.s ex) h') (h.wr b (off+len*i.s) (t::u))from rfl,hw]at d;cases d
        |ok h2=>
         rw[show(@List.rec _ (λ_=>OR) (.ok (.sl b off (Nat.add len n) cap i.s ex) h) (λ_ _ _=>RH.rec (motive:=λ_=>OR) .bad (λh'=>.ok (.sl b off (Nat.add len n) cap i.s ex) h') (h.wr b (off+len*i.s) (t::u))) (t::u):OR)=RH.rec (motive:=λ_=>OR) .bad (λh'=>.ok (.sl b off (Nat.add len n) cap i.s ex) h') (h.wr b (off+len*i.s) (t::u))from rfl,hw]at d
         cases d;obtain⟨w',hr,Vd⟩:=Agp (P:=P) hw o.ai o.so o.ma I r AdM;refine⟨σ,_,w',Ug (P:=P) (w':=w') ht ht2 hni hu hi Fc rfl p (show len+n<=O by omega) (W w rfl) (λc hc=>by cases hc;rw[G1];exact hr) (λhc=>by cases hc),?_,Vd⟩
         exact .sl b off _ cap i.s ex e O I hle g2 g3 g4
       .have hgt:cap<len+n:=Axo h4;rcases Bl d with⟨h5,g⟩|⟨h5,g⟩
        all_goals clear d
        .subst h5;have O0:=g3 rfl;subst O0;unfold Sf at g;split at g
         .rename_i c W4;split at g
          .rename_i Cf Ik;rw[Dl]at g;unfold grow at g;cases g;obtain⟨arr,tt,fz,D,q2,q3,q4⟩:=No W4 (o.ma b e I);obtain⟨r1,_,r3⟩:=Js Ik;have B:=Uj Ik q4 om;have S:((arr.toList.drop off).take (len*i.s)).length=len*i.s:=by rw[<- B.1];exact r3
           have F:∀(w':World),w'.heap=w.heap->(Builtin.firstCells i.s len (.slice (some ⟨e.c,off,none⟩) len O)).run P w'=.ok ((arr.toList.drop off).take (len*i.s)).toArray w':=
            λw' hw'=>Mo (P:=P) (off:=off) (n:=len*i.s) (by rw[hw'];exact D) om
           obtain⟨nc,y,X⟩:=Qs (P:=P) (w:=w) (ty:=ty) (x':=x') (n:=n) (new:=l.toArray) ht ht2 hni hu hi Fc U hzz rfl p hgt hsm F W;obtain⟨σ',z1,z2⟩:=Ah5 (i:=i) (zz:=zz) (nc:=nc) Y (B.append r) S S4 y o hl (hf _ (Yw _) (Nat.lt_succ_of_lt (Up _))) (hf _ om (Up _));exact⟨σ',_,_,X,z1,z2⟩
          .cases g
         .cases g
        .subst h5;unfold Ny at g;split at g
         .rename_i c e' k ho;split at g
          .rename_i st Cf Vt Ik;rcases Bl g with⟨h6,g⟩|⟨_,g⟩
           .rcases Bl g with⟨h7,g⟩|⟨_,g⟩
            .rcases Bl g with⟨h8,g⟩|⟨_,g⟩
             .have e6:=Ch h6;have e7:=Ch h7;have e8:=Ch h8;subst e7;subst e8;rw[Gh]at e6;rw[Dl]at g;cases g;have S3:=Aeq Vt;have Ha:=o.ma b e I;rw[ho]at Ha;obtain⟨arr,lo,E,D,q2,q3,q4,q5,q6⟩:=Ha.2 trivial;have O0:=g4 rfl;have P4:h.nx<Bq:=hl;have K:=hf h.nx (Yw _) (Up _);have Ox:(c++new).length=(len+n)*i.s:=by rw[X8,ag];omega
              by_cases V:len+n<=O
              .have hmul:(len+n)*i.s<=O*i.s:=D2 _ V;have BeN:(len+n)*i.s=len*i.s+n*i.s:=ag _ _ _;have T:=Nl P e.c (len*i.s) i.e lo E l 0 arr w D om (λj Q M=>q6 trivial j om) AdM;rw[Mz]at T;have J:len*i.s+l.length<=arr.size:=by omega
               generalize m:Cc w e.c (.cells (J9 arr (len*i.s) l) i.e (lo,E))=C at T;have R:C.heap[e.c]?=some (.cells (J9 arr (len*i.s) l) i.e (lo,E)):=by rw[<- m,Da,W5 ⟨rfl,Dj D⟩]
               have A9e:C.heap.size=w.heap.size:=by rw[<- m,Mr]
               have AyQ:SOk (Gu σ h.nx ⟨e.c,e.N,some k⟩) C:=o.so.place P4 I rfl Ha.1.symm (by rw[Ha.1];simp[Ahd]) A9e;refine⟨Gu σ h.nx ⟨e.c,e.N,some k⟩,_,C,Ug (P:=P) (w':=C) ht ht2 hni hu hi Fc rfl p V (W w rfl) (λc hc=>by cases hc;rw[G1,Rx];simpa using T) (λhc=>by cases hc),?_,?_⟩
               .exact .sl h.nx 0 _ _ i.s false ⟨e.c,e.N,some k⟩ O (by simp[Gu]) (Yw _) V (λL=>by cases L) (λ_=>O0)
               .refine AiI o.ai o.so o.ma I ho S3 P4 K (by rw[X8];omega) rfl AyQ om (by first|exact⟨rfl,rfl⟩|(subst m;exact⟨rfl,rfl⟩)) ?_ (.inr rfl) ⟨arr,_,_,D,R,O2 J,?_⟩ ?_
                .intro j _ h2;rw[<- m,Da,X2 (λL=>h2 L.1)]
                .intro j hj;rw[Nz J,X2 om]
                .refine⟨rfl,λ_=>⟨_,lo,E,R,by rw[O2 J];exact q2,by show(c++new).length<=e.N;omega,?_,λL=>(by cases L),q6⟩⟩
                 intro j a1 a2 Q M;rw[Nz J]at M;refine Au.mono (Ip K) ?_;by_cases hjl:j<c.length
                 .rw[ck hjl]at Q;rw[X2 om]at M;exact q4 j a1 a2 Q M
                 .rw[bu om]at Q;have:=(R4.1 Q).1;rw[W5 om]at M;have e9:c.length=len*i.s:=by omega
                  rw[e9]at Q;exact r.2 _ a1 a2 Q M
              .have F:∀(w':World),w'.heap=w.heap->(Builtin.firstCells i.s len (.slice (some ⟨e.c,0,none⟩) len O)).run P w'=.ok ((arr.toList.drop 0).take (len*i.s)).toArray w':=
                λw' hw'=>Mo (P:=P) (off:=0) (n:=len*i.s) (by rw[hw'];exact D) om
               obtain⟨nc,y,X⟩:=Qs (P:=P) (w:=w) (ty:=ty) (x':=x') (n:=n) (new:=l.toArray) ht ht2 hni hu hi Fc U hzz rfl p om hsm F W;have B:=Uj Ik q4 om;have hoc:Cf=c:=by obtain⟨_,r2,_⟩:=Js Ik;rw[r2,Cp,Qa om]
               rw[hoc]at B;have S:((arr.toList.drop 0).take (len*i.s)).length=len*i.s:=by rw[<- B.1];omega
               have Aqm:=Aa3 (nc:=nc) (i:=i) (zz:=zz) (Cf:=(arr.toList.drop 0).take (len*i.s)) (l:=l) Y S S4 y;generalize hA:((arr.toList.drop 0).take (len*i.s)).toArray++l.toArray++Builtin.zeroCells zz.cells (nc-(len+n))=A at X Aqm;generalize m:Dd { w with drawn:=w.drawn+1 } (.cells A i.e)=C at X;have hm2:=o.draw (w.drawn+1);have R:C.heap[w.heap.size]?=some (.cells A i.e (0,0)):=by rw[<- m];exact F1 { w with drawn:=w.drawn+1 } _
               have AyQ:SOk (Gu σ h.nx ⟨w.heap.size,nc*i.s,some k⟩) C:=by rw[<- m];exact hm2.so.push _ P4 rfl
               have Pa:∀j,j<w.heap.size->C.heap[j]?=w.heap[j]?:=λj hj=>by rw[<- m];exact Lq { w with drawn:=w.drawn+1 } _ j hj
               refine⟨Gu σ h.nx ⟨w.heap.size,nc*i.s,some k⟩,_,C,X,?_,?_⟩
               .exact .sl h.nx 0 _ _ i.s false ⟨w.heap.size,nc*i.s,some k⟩ nc (by simp[Gu]) (Yw _) y (λL=>by cases L) (λ_=>by show 0+nc*i.s<=nc*i.s;omega)
               .refine AiI o.ai o.so o.ma I ho S3 P4 K (by rw[X8];omega) rfl AyQ (by rw[<- m,size_push];exact Et _) (by rw[<- m];exact⟨rfl,rfl⟩) (λj h1 _=>Pa j h1) (.inl (Yw _))
                 ⟨arr,arr,(lo,E),D,by rw[Pa _ (o.so.rng b e I)];exact D,rfl,λ_ _=>rfl⟩ ?_
                refine⟨rfl,λ_=>⟨A,0,0,R,Aqm,by show(c++new).length<=nc*i.s;rw[Ox];exact D2 _ y,?_,λL=>(by cases L),λ_ j _=>by omega⟩⟩
                intro j a1 a2 Q M;rw[<- hA]at M;exact Au.mono (Ip K) (Xb _ (B.append r) j a1 a2 Q M)
             .cases g
            .cases g
           .cases g
          .cases g
         .cases g
      .cases d
     .cases d
    .cases d
   .cases d
  .cases d
 .cases d
def Ad4.quiet{s:Sem Value}{v':Value}(b:Ms G σ h w)(c:s.run P w=.ok v' w)(d:Au σ v v'):Ad4 P G σ h w s v h:=⟨σ,v',w,c,d,Out.refl b.ai b.so b.ma⟩
def Anr{ts:Array TypeId}{ty t:TypeId}{x:AV}{x':Value}(c:lnK (Pw P t) x h=.ok v h')(i:Au σ x x')(d:Ms G σ h w)(e:ts[0]?=some t):
 Ad4 P G σ h w (Builtin.len_ ts ty #[x']) v h':=by
 obtain⟨v',b,g,rfl⟩:=AeE (P:=P) (ty:=ty) i c w ts e;exact .quiet d b g
def Aoe{ts:Array TypeId}{ty:TypeId}{x:AV}{x':Value}(d:sdV x h=.ok v h')(g:Au σ x x')(j:Ms G σ h w):
 Ad4 P G σ h w (Builtin.unsafeSliceData_ ts ty #[x']) v h':=by
 unfold sdV at d;split at d
 .rename_i i;rw[Ok i]at g;cases g;cases d;exact .quiet j rfl .Ob
 .rename_i b off len c p ex i;rw[Ri i]at g;cases g;rotate_left
  .cases d
  rename_i e l k n o m q;rcases Bl d with⟨_,d⟩|⟨h1,d⟩
  .cases d
  .cases d;have:=Ho h1;exact .quiet j (Lib.run_unsafeSliceData_row w ts ty _ len l om) (.ptr b off e k)
 .cases d
def Akg(lt:Bool):∀(l:List AV) (l':List Value) (k:IntKind) (a:Int) (r:IntKind × Int),AfO lt k a l=some r->Bk σ l l' ->
 (l'.foldlM (if lt then Builtin.min2 else Builtin.max2) (.int k a)).run P w=.ok (.int r.1 r.2) w:=by
 intro l;induction l with
 |nil=>intro l' k a r d e;cases e.Rt;cases d;rfl
 |cons y rest g=>
  intro l' k a r d e;obtain⟨n,m,rfl,hy,i⟩:=e.F8;unfold AfO at d;split at d
  .rename_i o b j;rw[P1 j]at hy;cases hy;have:=g m k _ r d i;cases lt with
   |true=>
    simp only[Jr]at this ⊢;simp only[List.foldlM_cons,Builtin.min2,Sem.run_bind,Sem.run_pure,Result.andThen_ok];rw[<- this];rw[Il];by_cases c:b<a
    .rw[W5 c,Ws c]
    .rw[X2 c,Xn c]
   |false=>
    simp only[Mh,Fl]at this ⊢;simp only[List.foldlM_cons,Builtin.max2,Sem.run_bind,Sem.run_pure,Result.andThen_ok];rw[<- this];rw[Il];by_cases c:a<b
    .rw[W5 c,Ws c]
    .rw[X2 c,Xn c]
  .cases d
def Aia(lt:Bool){ts:Array TypeId}{ty:TypeId}{l:List AV}{l':List Value}(b:mm lt l h=.ok v h')(o:Bk σ l l')(e:Ms G σ h w):
 Ad4 P G σ h w (if lt then Builtin.min_ ts ty l'.toArray else Builtin.max_ ts ty l'.toArray) v h':=by
 unfold mm at b;split at b
 .rename_i x rest;obtain⟨y,m,rfl,hy,i⟩:=o.F8;split at b
  .rename_i k n j;rw[P1 j]at hy;cases hy;split at b
   .rename_i g d c;cases b;have:=Akg (P:=P) (w:=w) lt rest m k n _ c i;refine .quiet e (v':=.int g d) ?_ (.int _ _);cases lt<;>exact this
   .cases b
  .cases b
 .cases b
def AjA{c n:Nat}{arr:Array Value}{t:TypeId}{lo hi:Nat}(hc:w.heap[c]?=some (.cells arr t (lo,hi)))(hn:n≠0):∃fz,w.freeze ⟨c,0,none⟩ n=Cc w c (.cells arr t fz):=by
 refine⟨if lo == hi then(0,0+n)else(min lo 0,max hi (0+n)),?_⟩;unfold World.freeze Cc;rw[X2 hn];congr 1;apply Array.ext_getElem?;intro j;have b:=Dj hc;rw[Array.getElem?_modify];by_cases hj:c=j
 .subst hj;have:w.heap[c]=.cells arr t (lo,hi):=by rw[S2 b]at hc;exact Ck hc
  simp[b,this]
 .simp[hj,aj hj]
def Aop{ts:Array TypeId}{ty t t2:TypeId}{p n:AV}{p':Value}(d:usV P t p n h=.ok v h')(u:Au σ p p')(hn:Au σ n C)(r:Ms G σ h w)(ht:ts=#[t,t2]):
 Ad4 P G σ h w (Builtin.unsafeString_ ts ty #[p',C]) v h':=by
 subst ht;unfold usV at d;split at d
 .rename_i h1 h2;rw[Wv h1]at u;rw[Qc h2]at hn;cases u;cases hn;cases d;exact .quiet r (Lib.run_unsafeString_none w t t2 ty none) (.str ByteArray.empty)
 .rename_i b off h1 h2;rw[P2 h1]at u;rw[Qc h2]at hn;cases u;cases hn;cases d;exact .quiet r (Lib.run_unsafeString_none w t t2 ty _) (.str ByteArray.empty)
 .rename_i b off m h0 h1 h2;rw[P2 h1]at u;rw[Qc h2]at hn;cases u;cases hn;rename_i e X;split at d
  .rename_i c D k e' ho R;split at d
   .rename_i cs st hu Fc Ik Vt;split at d
    .rename_i s I;rcases Bl d with⟨h3,E⟩|⟨_,E⟩
     .rcases Bl E with⟨h4,F⟩|⟨_,F⟩
      .rcases Bl F with⟨h5,T⟩|⟨_,T⟩
       .clear d E F;cases T;have e3:=Ch h3;have e4:=Ch h4;have e5:=Ec h5;subst e3;subst e4;have S3:=Aeq Vt;have U:=r.ma b e X;rw[ho]at U;obtain⟨arr,lo,hi',B,q2,q3,q4,q5,q6⟩:=U.2 trivial;obtain⟨r1,r2,r3⟩:=Js Ik;have A:=Uj Ik q4 om;obtain⟨V,k2⟩:=AaQ cs s _ I A;have O:m≠0:=λg=>h0 g;have Z3:s.length=m:=by have:=Jh List.length V;rw[<- A.1,r3]at this;simpa using this.symm
        have Q:(s.map UInt8.ofNat).length=m:=by simpa using Z3
        obtain⟨inf,j1,j2⟩:=F3 Fc;have S:P.cellsOf D=1:=by simp[Program.cellsOf,j1,j2]
        have K:=Lib.run_unsafeString_row (P:=P) w t t2 ty D R S e.c arr.size (Aam B) (s.map UInt8.ofNat) (by intro g;rw[g]at Q;simp at Q;omega) om om (by
         intro j x hj;rw[G1,Xj B];have Y:((arr.toList.drop 0).take m)[j]?=some (.int .u8 x.toNat):=by
          rw[V];rw[Cn]at hj;cases i:s[j]? with
          |none=>rw[i]at hj;cases hj
          |some q=>rw[i]at hj;cases hj;have hq:=k2 q (Vl i);simp[i,UInt8.toNat_ofNat',dm hq]
         rw[cy]at Y;split at Y
         .simpa using Y
         .cases Y)
        rw[Q]at K;obtain⟨fz,M⟩:=AjA B O;rw[M]at K;have z:(Cc w e.c (.cells arr D fz)).heap[e.c]?=some (.cells arr D fz):=by rw[Da,W5 ⟨rfl,Dj B⟩]
        refine⟨σ,_,_,K,?_,?_⟩
        .have L:bytesOf ⟨(s.map UInt8.ofNat).toArray⟩=s:=by
          unfold bytesOf;simp only[List.map_map];have:∀l:List Nat,(∀n∈l,n<256)->l.map (UInt8.toNat ∘ UInt8.ofNat)=l:=by
           intro l W;induction l with
           |nil=>rfl
           |cons q l ih=>
            have hq:=W q (by simp);simp only[Co,Function.comp,UInt8.toNat_ofNat',dm (show q<2^8 from hq)]
            rw[ih (λn hn=>W n (by simp[hn]))]
          exact this s k2
         have:=Au.str (σ:=σ) ⟨(s.map UInt8.ofNat).toArray⟩;rw[L]at this;exact this
        .refine Ys r.ai r.so r.ma X ho S3 (.inr ⟨rfl,rfl,?_⟩) rfl ?_
         .intro x y hx hc hxb l2 t2 st2 J;have o:=r.ma x y hx;rw[J]at o ⊢;refine⟨o.1,λhv=>?_⟩;obtain⟨Am0,lo2,hi2,p1,p2,p3,p4,p5,p6⟩:=o.2 hv;rw[hc,B]at p1;cases p1;exact⟨arr,fz.1,fz.2,by rw[hc];exact z,p2,p3,p4,λg=>(by cases g),λg=>g.elim⟩
         .exact⟨U.1,λ_=>⟨arr,fz.1,fz.2,z,q2,q3,q4,λg=>(by cases g),λg=>g.elim⟩⟩
       .cases T
      .cases F
     .cases E
    .cases d
   .cases d
  .cases d
 .cases d
end Go.Ev
