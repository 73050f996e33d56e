/- The other built-in -/
import Derived.Test.YtahaaiadlgfchaaGreatDoorEvB
import Derived.Laws.BytesString
import Derived.Laws.LoneSync
import Derived.Lib.UnsafeStr
set_option linter.all false
noncomputable section
namespace Go.Ev
variable {j:Value}{o:List Value}{p:List MapEntry}{I:TypeDesc}{J:TypeInfo}{R:uz}
variable [Ii]
variable {P:Program}{G:Nat}{σ:Dx}{h h':H}{w w':World}{v:AV}{nt:Nat}{f:L2}{a:Act}{Z:Ac}
structure St(G:Nat)(σ:Dx)(nt:Nat)(f:L2)(a:Act)(h:H)(w:World):Prop where
 fr:Pt σ nt f a
 gl:Vm G σ
 ai:Om h
 so:SOk σ w
 ma:V1 G σ h.m.get w
def Fx(σ:Dx)(h h':H):Prop:=∀b,h.nx<=b->b<h'.nx->σ b=none
def R5(P:Program)(G:Nat)(o:Oper):Prop:=∀(σ:Dx) (nt:Nat) (f:L2) (a:Act) (h h':H) (w:World) (v:AV) (Z:Ac),
 opD o.op o.type P Z f h=.ok v h'->o.op.operands.toList.all (Es G)=true->St G σ nt f a h w->h'.nx<=Bq->Fx σ h h' ->
 ∃b v' w',Ran P (execOp a.eval o) w v' w'/\Au b v v'/\Out G σ h w b h' w'
def Ag4.out{v'}(j:Ag4 σ h w v v' h' w')(b:St G σ nt f a h w)(g:h'.nx<=Bq)(e:Fx σ h h'):∃i,Au i v v'/\Out G σ h w i h' w':=by cases j with
|quiet v v' k=>exact⟨_,k,Out.refl b.ai b.so b.ma⟩
|ptr cs D7 t d=>have c:=g;exact⟨_,.ptr _ 0 ⟨_,cs.length,none⟩ (by simp[Gu]),Tc b.ai b.so b.ma c (e _ (Ye _) (Y3 _)) d⟩
|sl cs D7 t len cap l hle d=>have c:=g;exact⟨_,.sl _ 0 _ _ _ _ ⟨_,cs.length,none⟩ _ (by simp[Gu]) hle (Ye _) (λ_=>rfl) λm=>by grind,Tc b.ai b.so b.ma c (e _ (Ye _) (Y3 _)) d⟩
def Hm.to3{o}(i:Hm P G o):R5 P G o:=by intro σ nt f a h h' w v Z d g b e c;obtain⟨v',w',h1,h2⟩:=i _ _ f a h _ w v _ d g b.fr b.gl;obtain⟨k,l,j⟩:=h2.out b e c;grind
section ops
variable {dst:Option Tmp}{ty:TypeId}{pos:String}{af:Array Edge}{gd:Option (Nat × Bool)}
def AjC t x:R5 P G ⟨dst,.load t x,ty,pos,af,gd⟩:=by intro σ nt f a h h' w v Z d g c j i;obtain⟨v',h1,h2,rfl⟩:=Ae0 t x d (by simpa[Op.operands]using g) c.fr c.gl λb off e _=>c.ma b e;exact⟨_,_,w,h1,h2,Out.refl c.ai c.so c.ma⟩
def V3{cs}{l}(b:Bk σ cs l)(d:Bm cs=true):∀u∈l,u.oneCell'=true:=by
 intro u c;obtain⟨i,hi,rfl⟩:=List.getElem_of_mem c;have e:=by have:=b.1;omega
 exact Arz ((AfG _).1 d cs[i] (dl _)) (b.2 i _ _ (Yq _) (Yq _))
def L6 σ:Au σ (.Bj []) undef:=.Bj _ _ rfl λi x y b _=>by grind
def Agc{r}(b:AnU r=.ok v h'):r=.ok h'/\v=.Bj []:=by cases r<;>cases b;simp
def Ah3 t x y:R5 P G ⟨dst,.store t x y,ty,pos,af,gd⟩:=by
 intro σ nt f a h h' w v Z s j d D C;simp[Op.operands]at j;have r:=Cj d.fr d.gl x j.1;have hy:=Cj d.fr d.gl y j.2;have l:stV _ _ _ h=.ok v _:=s;generalize ev x f=u at *;generalize B:a.eval x=xx at *;cases r<;>first|(cases l)|rename_i b off e hb;have c:stC _ _ b _ h=.ok v _:=l;unfold stC at c;split at c
 .rename_i cs n A hn;rcases Bl c with⟨h1,c⟩|⟨_,c⟩
  .rcases Bl c with⟨h2,c⟩|⟨_,c⟩
   .obtain⟨o,rfl⟩:=Agc c;have k:=O4 A hy;obtain⟨i,m,E⟩:=F3 hn;have g:=Ch h1;rw[Gh]at g;obtain⟨w',q,p⟩:=Agp (P:=P) o d.ai d.so d.ma hb k (V3 k h2);have z:(a.eval y).cells.size=i.size:=by have:=k.1;grind
    refine⟨_,_,_,.inr ⟨?_,rfl⟩,L6 _,p⟩;simp[execOp,B,Instr.storeAt,Instr.sureAddr,storeVar,sizeOf,typeInfo,m,z,q]
   grind
  grind
 grind
def AeI{o}{u}(b:mk h o u=.ok v h'):v=u/\h'=h.new o:=by cases b;simp
def AdI t r:R5 P G ⟨dst,.makeMap t r,ty,pos,af,gd⟩:=by intro σ nt f a h h' w v Z g l c j e;have d:=g;cases r with
|some r=>cases d
|none=>
 obtain⟨rfl,rfl⟩:=AeI (show mk h ..=.ok v _ from d);have k:=j;have b:=e _ (Ye _) (Y3 _);refine⟨Gu σ h.nx ⟨w.heap.size,0,none⟩,.map (some w.heap.size),Dd w (.map #[] 0),.inl ?_,?_,?_⟩;. rfl
 .exact .map _ ⟨_,0,none⟩ (by simp[Gu])
 .exact Yf c.ai c.so c.ma k b rfl rfl ⟨rfl,_,0,F1 w _,rfl,λi x y m _=>by grind⟩
def wrap_small(m:Nat)(b:m<1000000000000):IntKind.i64.wrap m=m:=by apply Agq;have h1:IntKind.i64.min=-9223372036854775808:=rfl;simp_all;omega
def Qc{x}{n}(b:Arm x=some n):x=.int .i64 (.ofNat n):=by
 unfold Arm at b;split at b;. rename_i m c;cases b;exact P1 c
 grind
def Abh(t:TypeId)(x y:Operand):R5 P G ⟨dst,.makeSlice t x y,ty,pos,af,gd⟩:=by
 refine Hm.to3 ?_;intro σ nt f a h h' w v Z R r D B;simp[Op.operands]at r;have F:=Cj D B x r.1;have hy:=Cj D B y r.2;have b:H5 t x y ty P Z f h=.ok v h':=R;unfold H5 at b;split at b
 .rename_i i n m O hn Q;obtain⟨M,z,zz,E,hi,p,d,hz,o,q,L,S⟩:=Pk O;rw[hz]at b;dsimp only at b;rw[Qc hn]at F;rw[Qc Q]at hy;generalize J:a.eval x=xx at *;generalize c:a.eval y=yy at *;cases F;cases hy;rcases Bl b with⟨h1,b⟩|⟨_,b⟩
  .rcases Bl b with⟨h2,b⟩|⟨_,b⟩
   .obtain⟨rfl,rfl⟩:=AeI b;have u:=G2 h1;have W:=Ec h2;have g1:m<=m*(i.bytes+i.s+1):=Nat.le_mul_of_pos_right m om;have g2:m*i.bytes<=m*(i.bytes+i.s+1):=cq m om;have C:=wrap_small m om;have I:=wrap_small n om;have T:¬ ((m:Int)<0):=by omega
    have X:¬ ((i.bytes:Int)*(m:Int) > 2^48):=by grind
    have U:¬ ((n:Int)<0):=by omega
    have V:¬ ((n:Int) > (m:Int)):=by omega
    have k:=Aiy (S σ) m;rw[q]at k;refine⟨.slice (some ⟨w.heap.size,0,none⟩) n m,Dd w (.cells ((Array.range (m*i.s)).map (λj=>zz.cells[j%zz.cells.size]!)) i.e),.inl ?_,?_⟩
    .have l:((((m:Int)<0||(i.bytes:Int)*(m:Int) > 2^48)||(n:Int)<0||(n:Int) > (m:Int)):Bool)=false:=by simp_all
     by_cases h0:m*i.s=0
     .have A:∀g:Nat->Value,(Array.range (m*i.s)).map g=#[]:=λg=>by rw[h0];apply Ic;simp
      simp only[execOp,J,c,Instr.makeSlice,asInt,asIntOf,typeInfo,sizeOf,Sem.run_bind,run_program,Result.andThen_ok,Sem.run_pure,run_underlying E,hi,p,d,Kw,C,I,run_askRoom,newRow,A,Lm];simp only[Kw,l,Mh,Fl];have K:Array.range 0=(#[]:Array Nat):=by apply Ic;simp
      simp[h0,A,Dd,hi,p,K]
     .simp only[execOp,J,c,Instr.makeSlice,asInt,asIntOf,typeInfo,sizeOf,zeroValue,Sem.run_bind,run_program,Result.andThen_ok,Sem.run_pure,run_underlying E,hi,p,d,o,Kw,C,I,run_askRoom,newRow,Lm];simp only[l,Mh,Fl];simp[h0,Dd,hi,p,o,typeInfo]
    .exact .sl (Ade z m) _ i.e n m i.s u k
   .cases b
  .cases b
 .cases b
end ops
section ops
variable {dst:Option Tmp}{ty:TypeId}{pos:String}{af:Array Edge}{gd:Option (Nat × Bool)}
def Xg{x}{n}(b:Xf x=some n):x=.int .u8 (.ofNat n)/\n<256:=by
 unfold Xf at b;split at b;. rename_i m c;cases hq:Nat.blt m 256 with
   |false=>simp_all
   |true=>rw[hq]at b;cases b;exact⟨P1 c,Ec hq⟩
 grind
def AfY x cs:Yj (x::cs)=match Xf x,Yj cs with|some n,some r=>some (n::r)|_,_=>none:=rfl
def AaQ:∀cs s l,Yj cs=some s->Bk σ cs l->l=(s.map Int.ofNat).map (Value.int .u8)/\∀n∈s,n<256:=by intro cs;induction cs with
|nil=>intro s l b c;cases b;exact⟨c.Rt,λn hn=>by grind⟩
|cons x cs g=>
 intro s l b c;rw[AfY]at b;split at b;. rename_i n r hn e;obtain⟨y,j,rfl,d,i⟩:=c.F8;obtain⟨rfl,k⟩:=Xg hn;cases d;grind
 grind
def Afp r(n:Nat)(hn:n<256):bytesOf (r.push (UInt8.ofNat n))=bytesOf r++[n]:=by unfold bytesOf;simp_all
def Afo:∀s r,(∀n∈s,n<256)->bytesOf ((s.map Int.ofNat).foldl (λr n=>r.push (UInt8.ofNat n.toNat)) r)=bytesOf r++s:=by intro s;induction s with
|nil=>simp
|cons n s c=>intro r b;simp[Co,du];rw[c _ λm d=>b m (by grind),Afp r n (b n (by simp))];simp
def AdA:bytesOf ByteArray.empty=[]:=rfl
def Aam{c}{arr}{t}{fz}(b:w.heap[c]?=some (.cells arr t fz)):w.shape? c=some (t,arr.size):=by simp[World.shape?,b]
def Ahx w arr t n:(Dd w (.cells arr t)).freeze ⟨w.heap.size,n,none⟩ 1=Dd w (.cells arr t (n,n+1)):=by unfold World.freeze Dd;simp[Nat.one_ne_zero,Fl];congr 1;grind
def AaZ σ s:Bk σ (U2 (bytesOf s)) (s.data.map λb=>Value.int .u8 b.toNat).toList:=by unfold bytesOf;rw[Array.toList_map];generalize s.data.toList=l;induction l with
|nil=>exact Bk.nil _
|cons b l c=>exact .cons (.int ..) c
def AaY s:(U2 s).length=s.length:=by induction s with
|nil=>rfl
|cons a s b=>show(U2 s).length+1=_;grind
def St.draw(c:St G σ nt f a h w)(n:Nat):St G σ nt f a h { w with drawn:=n }:=⟨c.fr,c.gl,c.ai,⟨c.so.inj,c.so.rng,c.so.low⟩,λb e hb=>Gr.congr (Qq.refl σ) rfl (λ_ _ _ _ _ d=>d) (c.ma b e hb)⟩
def Out.draw{n:Nat}{b:Dx}(d:Out G σ h { w with drawn:=n } b h' w'):Out G σ h w b h' w':=by obtain⟨nw,a1,a2,c⟩:=d;exact⟨nw,a1,⟨a2.le,a2.fresh,a2.ok,a2.grow,a2.frame,a2.Vh,a2.io⟩,c⟩
def AmA(P:Program)(s d:TypeId):match ApL P s d with
 |.bad=>True
 |.int k=>(∃j,P.underlying s=some (.int j))/\P.underlying d=some (.int k)
 |.Agl e=>P.underlying s=some .string/\P.underlying d=some (.slice e)/\P.underlying e=some (.int .u8)/\F7 P e=some 1
 |.ofBytes=>∃e,P.underlying s=some (.slice e)/\P.underlying d=some .string/\P.underlying e=some (.int .u8)
 |.toU=>∃e b,P.underlying s=some (.pointer e)/\P.underlying d=some .unsafePointer/\P.info? e=some b/\b.size≠0
 |.ofU u=>∃b,P.underlying s=some .unsafePointer/\P.underlying d=some (.pointer u)/\P.info? u=some b/\b.size≠0:=by
 generalize g:ApL P s d=c;unfold ApL at g;split at g
 .rename_i j k h1 h2;subst g;exact⟨⟨j,h1⟩,h2⟩
 .rename_i e h1 h2;split at g
  .rename_i i l;subst g;exact⟨h1,h2,i,l⟩
  .subst g;trivial
 .rename_i e h1 h2;split at g
  .rename_i i;subst g;exact⟨e,h1,h2,i⟩
  .subst g;trivial
 .rename_i e h1 h2;split at g
  .rename_i n i;subst g;obtain⟨b,l,m⟩:=F3 i;exact⟨e,b,h1,h2,l,by omega⟩
  .subst g;trivial
 .rename_i u h1 h2;split at g
  .rename_i n i;subst g;obtain⟨b,l,m⟩:=F3 i;exact⟨b,h1,h2,l,by omega⟩
  .subst g;trivial
 .subst g;trivial
def AdH(s d:TypeId)(x:Operand):R5 P G ⟨dst,.convert s d x,ty,pos,af,gd⟩:=by
 intro σ nt f a h h' w v Z he De l hl hf;have m:=Cj l.fr l.gl x (by simpa[Op.operands]using De);have g:Ml s d x ty P Z f h=.ok v h':=he;unfold Ml at g;have p:=AmA P s d;generalize z:a.eval x=xx at *
 split at g<;>rename_i hcv<;>rw[hcv]at p
 .rename_i k;obtain⟨⟨j,h1⟩,h2⟩:=p;split at g
  .rename_i k2 n o;rw[P1 o]at m;cases m;obtain⟨rfl,rfl⟩:=B4 g;refine⟨σ,.int k (k.wrap n),w,.inl ?_,by rw[Ub];exact .int _ _,Out.refl l.ai l.so l.ma⟩;simp[execOp,z,convert,run_underlying h1,run_underlying h2,Conv.intToInt]
  .cases g
 .rename_i e;obtain⟨h1,h2,q,K⟩:=p;split at g
  .rename_i s2 o;rw[Rj o]at m;cases m;rename_i bs;rcases Bl g with⟨hsm,g⟩|⟨_,g⟩
   .obtain⟨rfl,rfl⟩:=B4 g;have A:Y2 (bytesOf bs)=bs.size:=by rw[Rf,Gv]
    generalize hq:Question.cut (.appendCap bs.size 0 e) (w.tape w.drawn (.appendCap bs.size 0 e))=cap;have X:bs.size<=cap:=by rw[<- hq];simp[Question.cut]
    generalize C:(bs.data.map λb=>Value.int .u8 b.toNat)++Array.replicate (cap-bs.size) (Value.int .u8 0)=arr;have BdZ:bs.data.size=bs.size:=rfl;have Fc:arr.size=cap:=by rw[<- C];simp;omega
    have Vs:h.nx+1<Bq:=hl;have Q:σ (h.nx+1)=none:=hf _ om (by show h.nx+1<h.nx+2;omega)
    have E:=l.draw (w.drawn+1);have hg:=Ae4 (G:=G) (cs:=U2 (bytesOf bs)) (t:=e) (arr:=arr) (fz:=(arr.size,arr.size+1)) E.ai E.so E.ma Vs (hf _ (Ye _) (by show h.nx<h.nx+2;omega)) Q (by rw[AaY,Gv];omega) (by intro i u y hu hy;have hr:=AaZ σ bs;have hi:=(Xh.1 hu).1;rw[AaY,Gv]at hi;refine hr.2 i u y hu ?_;rw[<- hy,<- C,bt (by simp;omega)];simp) (λi hi=>by omega)
    refine⟨_,.slice (some ⟨w.heap.size,0,none⟩) bs.size cap,_,.inl ?_,?_,Out.draw hg⟩
    .have T:(Dd { w with drawn:=w.drawn+1 } (.cells arr e)).shape? w.heap.size=some (e,arr.size):=Aam (F1 { w with drawn:=w.drawn+1 } _);have hfz:=Ahx { w with drawn:=w.drawn+1 } arr e arr.size;have U:(Question.appendCap bs.size 0 e).forced=false:=rfl;have hch:(choose (.appendCap bs.size 0 e)).run P w=.ok cap { w with drawn:=w.drawn+1 }:=by simp only[choose,Sem.run,U,Mh,Fl,hq]
     have S:(newRow e arr).run P { w with drawn:=w.drawn+1 }=.ok ⟨w.heap.size,0,none⟩ (Dd { w with drawn:=w.drawn+1 } (.cells arr e)):=rfl;have O:(markStringish ⟨w.heap.size,0,none⟩).run P (Dd { w with drawn:=w.drawn+1 } (.cells arr e))=.ok () (Dd { w with drawn:=w.drawn+1 } (.cells arr e (arr.size,arr.size+1))):=by simp only[markStringish,Sem.run_bind,run_shape,Result.andThen_ok,T,run_freeze];exact Jh (Result.ok ()) hfz
     simp only[execOp,z,convert,Sem.run_bind,run_underlying h1,run_underlying h2,run_underlying q,Result.andThen_ok,Conv.stringToBytes,hch,C,S,O,Sem.run_pure]
    .rw[A];exact .sl _ 0 _ _ 1 false ⟨w.heap.size,arr.size,some h.nx⟩ cap (by simp[Gu]) (Ye _) X (λhh=>by cases hh) (λ_=>by simp;omega)
   .cases g
  .cases g
 .obtain⟨e,h1,h2,q⟩:=p;split at g
  .rename_i o;rw[Ok o]at m;cases m;obtain⟨rfl,rfl⟩:=B4 g;refine⟨σ,.string .empty,w,.inl ?_,.str ByteArray.empty,Out.refl l.ai l.so l.ma⟩;simp[execOp,z,convert,run_underlying h1,run_underlying h2,run_underlying q,Conv.bytesToString]
  .rename_i b off len cap sz ex o;rw[Ri o]at m;cases m;rotate_left
   .rename_i off e1 a R hb;split at g
    .rename_i c L;have B:Nf c (off+1) 0=some []\/Nf c (off+1) 0=none:=by
      rw[E5];split
      .left;simp
      .right;rfl
     rcases B with B|B
     .rw[B]at g;obtain⟨rfl,rfl⟩:=B4 g;have I:=run_bytesToString (P:=P) w a 0 R [] rfl;refine⟨σ,.string ByteArray.empty,w,.inl ?_,.str ByteArray.empty,Out.refl l.ai l.so l.ma⟩;simp only[execOp,z,convert,Sem.run_bind,run_underlying h1,run_underlying h2,run_underlying q,Result.andThen_ok,I,Sem.run_pure];rfl
     .rw[B]at g;cases g
    .cases g
   rename_i e1 R hb g1 g2 g3 g4;split at g
   .rename_i c L;split at g
    .rename_i cs B;split at g
     .rename_i s2 M;obtain⟨rfl,rfl⟩:=B4 g;obtain⟨arr,tt,fz,F,q2,q3,W⟩:=No L (l.ma b e1 hb);obtain⟨r1,_,_⟩:=Js B;have Q0:=Uj B W om;obtain⟨r2,r3⟩:=AaQ cs s2 _ M Q0;have J:=Mo (P:=P) F (show off+len<=arr.size by omega)
      rw[r2]at J;have I:=run_bytesToString (P:=P) w ⟨e1.c,off,none⟩ len R (s2.map Int.ofNat) J;refine⟨σ,.string ((s2.map Int.ofNat).foldl (λr n=>r.push (UInt8.ofNat n.toNat)) ByteArray.empty),w,.inl ?_,?_,Out.refl l.ai l.so l.ma⟩
      .simp only[execOp,z,convert,Sem.run_bind,run_underlying h1,run_underlying h2,run_underlying q,Result.andThen_ok,I,Sem.run_pure]
      .have e5:=Afo s2 ByteArray.empty r3;rw[AdA,T3]at e5;have:=Au.str (σ:=σ) ((s2.map Int.ofNat).foldl (λr n=>r.push (UInt8.ofNat n.toNat)) ByteArray.empty);rw[e5]at this;exact this
     .cases g
    .cases g
   .cases g
  .cases g
 .obtain⟨e,V,h1,h2,q,K⟩:=p;split at g
  .rename_i o;rw[Wv o]at m;cases m;obtain⟨rfl,rfl⟩:=B4 g;refine⟨σ,.pointer none,w,.inl ?_,.Ob,Out.refl l.ai l.so l.ma⟩;simp[execOp,z,convert,run_underlying h1,run_underlying h2,Conv.unsafePointer]
  .rename_i b off o;rw[P2 o]at m;cases m;rename_i e1 hb;split at g
   .rename_i c L;rcases Bl g with⟨B6,g⟩|⟨_,g⟩
    .obtain⟨rfl,rfl⟩:=B4 g;have A8G:=Ec B6;rw[Gh]at A8G;obtain⟨arr,tt,fz,F,q2,q3,W⟩:=No L (l.ma b e1 hb);have O9:w.cell? ⟨e1.c,off,none⟩=some arr[off]:=by rw[Xj F];exact U0 om
     have I:=run_convert_to_unsafe (P:=P) h1 h2 (by rw[q];simp[K]) O9;refine⟨σ,.pointer (some ⟨e1.c,off,none⟩),w,.inl ?_,.ptr b off e1 hb,Out.refl l.ai l.so l.ma⟩;simp[execOp,z,I]
    .cases g
   .cases g
  .cases g
 .rename_i u;obtain⟨V,h1,h2,q,K⟩:=p;split at g
  .rename_i o;rw[Wv o]at m;cases m;obtain⟨rfl,rfl⟩:=B4 g;refine⟨σ,.pointer none,w,.inl ?_,.Ob,Out.refl l.ai l.so l.ma⟩;simp[execOp,z,convert,run_underlying h1,run_underlying h2,Conv.unsafePointer]
  .rename_i b off o;rw[P2 o]at m;cases m;rename_i e1 hb;split at g
   .rename_i c e2 Y;rcases Bl g with⟨D,g⟩|⟨_,g⟩
    .obtain⟨rfl,rfl⟩:=B4 g;have Ha:=l.ma b e1 hb;rw[Y]at Ha;obtain⟨arr,lo,hi2,F,q2,q3,W,q5,q6⟩:=Ha.2 trivial;have A:=q5 rfl;unfold Awp at D;rw[Gh]at D;have Fc:arr.size=c.length:=by omega
     refine⟨σ,.pointer (some ⟨e1.c,off,none⟩),w,.inl ?_,.ptr b off e1 hb,Out.refl l.ai l.so l.ma⟩;simp[execOp,z,convert,run_underlying h1,run_underlying h2,Conv.unsafePointer,Conv.seenAt,viewAt,Aam F,sizeOf,typeInfo,q,K,variablesAt,Fc,D]
    .cases g
   .cases g
  .cases g
 .cases g
end ops
section ops
variable {dst:Option Tmp}{ty:TypeId}{pos:String}{af:Array Edge}{gd:Option (Nat × Bool)}
def I3{kt}{d}(b:P.underlying kt=some d)(h1:∀m,d≠.interface m)(h2:∀n e,d≠.array n e)(c:∀fs,d≠.struct fs) e n x w:
 (Instr.checkKey e (n+1) kt x).run P w=.ok () w:=by simp[Instr.checkKey,Sem.run_bind,run_underlying b,Result.andThen_ok];simp_all
def Ak7{kt:TypeId}(o:scalar P kt=true):∃d,P.underlying kt=some d/\(∀(x y:AV) (x' j:Value) (b:Bool),aeq P 3 kt x y=some b->Au σ x x'->Au σ y j ->
 Instr.sameNow d x' j=some b/\(b=true->Instr.sameBits 10000 j x'=true))/\(∀(e:Bool) (x':Value) (w:World),(Instr.checkKey e 10000 kt x').run P w=.ok () w):=by
 have n:=AbD P kt;unfold scalar at o;cases m:tk P kt<;>rw[m]at o n<;>first|(cases o;done)|skip
 .have g:P.underlying kt=some .bool:=n;refine⟨.bool,g,?_,λe x' w=>I3 g (by simp) (by simp) (by simp) e 9999 x' w⟩;intro x y x' j b hq i hy;have c:Dy P (aeq P 2) kt x y=some b:=hq;unfold Dy at c;rw[m]at c;dsimp only at c;split at c
  .rename_i b1 b2 h1 h2;rw[Adn h1]at i;rw[Adn h2]at hy;cases i;cases hy;cases c;refine⟨rfl,λhb=>?_⟩;have:b1=b2:=by simpa using hb
   simp[Instr.sameBits,this]
  .cases c
 .obtain⟨k,g⟩:=n;refine⟨.int k,g,?_,λe x' w=>I3 g (by simp) (by simp) (by simp) e 9999 x' w⟩;intro x y x' j b hq i hy;have c:Dy P (aeq P 2) kt x y=some b:=hq;unfold Dy at c;rw[m]at c;dsimp only at c;split at c;. rename_i p n1 q n2 h1 h2;rw[P1 h1]at i;rw[P1 h2]at hy;cases i;cases hy;cases l:kEq p q with
    |false=>simp_all
    |true=>
     rw[l]at c;have e1:=(Q3 p q).1 l;subst e1;cases c;rw[Q1];refine⟨by simp[Instr.sameNow],λhb=>?_⟩;have:n1=n2:=by simpa using hb
     simp[Instr.sameBits,this]
  .cases c
 .have g:P.underlying kt=some .string:=n;refine⟨.string,g,?_,λe x' w=>I3 g (by simp) (by simp) (by simp) e 9999 x' w⟩;intro x y x' j b hq i hy;have c:Dy P (aeq P 2) kt x y=some b:=hq;unfold Dy at c;rw[m]at c;dsimp only at c;split at c
  .rename_i s1 s2 h1 h2;rw[Rj h1]at i;rw[Rj h2]at hy;cases i;cases hy;cases c;rw[U1];refine⟨by simp[Instr.sameNow,beq_toListBytes],λhb=>?_⟩;rename_i c1 c2;have e1:(c2 == c1)=(c1 == c2):=by rw[beq_toListBytes,beq_toListBytes,C7];simp_all
   simp only[Instr.sameBits,e1,beq_toListBytes];exact hb
  .cases c
def AkK{a b:uz}{l m:Array Value}(h:Sh b a=true)(ha:Bk σ a l.toList)(hb:Bk σ b m.toList):m=l:=by obtain⟨rfl,n⟩:=Xd h;apply Ic;apply dg;intro i;cases k:b[i]? with
|none=>
 have h1:b.length<=i:=by simp_all
 have h2:=ha.1;have s:=hb.1;grind
|some x=>
 obtain⟨y,o,d⟩:=hb.get k;obtain⟨z,q,c⟩:=ha.get k;rw[o,q];have j:=Od.1 n x (Vl k);cases x<;>first|(cases j;done)|skip
 .cases d;cases c;rfl
 .cases d;cases c;rfl
 .generalize r:AV.str _=u at d c;cases d<;>first|(cases r;done)|skip;rename_i s1;generalize g:AV.str (bytesOf s1)=u at c;cases c<;>first|grind|skip;rename_i s2;injection g with p;have:s1=s2:=by apply ByteArray.ext;apply Ic;exact(List.map_inj_right (λx y e=>Is.1 e)).1 p
  rw[this]
def sameBits_self:∀l b n,l.all AaA=true->Bk σ l b->((b.zip b).all λp=>Instr.sameBits n p.1 p.2)=true:=by intro l;induction l with
|nil=>intro b n _ d;have:=d.Rt;simp_all
|cons x l g=>intro b n c d;obtain⟨y,l2,rfl,i,j⟩:=d.F8;simp only[Ku,Sc]at c;simp only[K7,Ku,Sc];refine⟨?_,g _ n c.2 j⟩;have e:=c.1;cases i<;>first|(cases e;done)|(simp[Instr.sameBits,beq_toListBytes])
def Ai5{t}(c:scalar P t=true):∃d,P.underlying t=some d/\(∀m,d≠.interface m)/\(∀n e,d≠.array n e)/\∀g,d≠.struct g:=by
 have b:=AbD P t;unfold scalar at c;cases j:tk P t<;>first|simp_all
 .exact⟨_,b,by simp,by simp,by simp⟩
 .obtain⟨k,i⟩:=b;simp_all
 .exact⟨_,b,by simp,by simp,by simp⟩
def Vo{t}(c:scalar P t=true) e n x w:(Instr.checkKey e (n+1) t x).run P w=.ok () w:=by obtain⟨d,b,h1,h2,g⟩:=Ai5 c;exact I3 b h1 h2 g e n x w
def Tu{α:Type}(g:α->PUnit->Sem _) w:∀(l:List _),(∀x∈l,(g x ⟨⟩).run P w=.ok (.yield ⟨⟩) w)->(forIn l ⟨⟩ g).run P w=.ok ⟨⟩ w:=by intro l;induction l with
|nil=>simp
|cons x l b=>simp_all
structure Apa(P:Program)(σ:Dx)(kt:TypeId)(d:TypeDesc):Prop where
 und:P.underlying kt=some d
 eq:(∀(x y:AV) (x' y':Value) (b:Bool),Gy P kt x y=some b->Au σ x x'->Au σ y y'->Instr.sameNow d x' y'=some b) \/
  ((∀u v,Instr.sameNow d u v=none)/\∀(x y:AV) (x' y':Value) (b:Bool),Gy P kt x y=some b->Au σ x x'->Au σ y y'->∀w,(Op.equal kt x' y').run P w=.ok b w)
 bits:∀(x y:AV) (x' y':Value),Gy P kt x y=some true->Au σ x x'->Au σ y y'->Instr.sameBits 10000 y' x'=true
 chk:∀(x:AV) (x':Value),Fe P kt x=true->Au σ x x'->∀(e:Bool) (w:World),(Instr.checkKey e 10000 kt x').run P w=.ok () w
def Qa{kt}{x y}{b}(h:Gy P kt x y=some b):aeq P 3 kt x y=some b/\(b=true->Up P kt x y=true):=by
 unfold Gy at h;split at h;. cases c:Up P _ x y with
   |false=>simp_all
   |true=>simp_all
 .simp_all
 grind
def X9{kt:TypeId}{x y}{x' e}(d:(match vA x,vA y with|.yes a,.yes b=>Sh b a|_,_=>false)=true)(i:Au σ x x')(hy:Au σ y e):Instr.sameBits 10000 e x'=true:=by
 split at d;. rename_i a b h1 h2;rw[P0 h1]at i;rw[P0 h2]at hy;cases i;cases hy;rename_i n k l o g c;have m:=AkK d ⟨k,l⟩ ⟨g,c⟩;obtain⟨rfl,j⟩:=Xd d;have:=sameBits_self b _ 9999 j ⟨g,c⟩;simp[Instr.sameBits,beq_self_eq_true,Bool.true_and];grind
 grind
def AhL{kt:TypeId}(E:AlK P kt=true):∃d,Apa P σ kt d:=by
 by_cases k:scalar P kt=true;. obtain⟨d,I,t,O⟩:=Ak7 (P:=P) (σ:=σ) k;exact⟨d,I,.inl (λx y x' j b h c hy=>(t x y x' j b (Qa h).1 c hy).1),λx y x' j h c hy=>(t x y x' j true (Qa h).1 c hy).2 rfl,λx x' _ _ e w=>O e x' w⟩
 .have L:=AbD P kt;have A:∀(x y:AV) (x' j:Value) (b:Bool),Gy P kt x y=some b->Au σ x x'->Au σ y j->∀w,(Op.equal kt x' j).run P w=.ok b w:=
   λx y x' j b h c hy w=>Zj P σ 3 kt x y b x' j (Qa h).1 c hy Op.maxDepth w fe;unfold AlK at E;unfold scalar at k;cases z:tk P kt<;>rw[z]at E k L<;>first|(cases E;done)|(exact absurd rfl k)|skip
  .rename_i V;obtain⟨l,B,_,R⟩:=L;refine⟨.struct l,B,.inr ⟨λu v=>by simp[Instr.sameNow],A⟩,?_,?_⟩;. intro x y x' j h c hy;have h2:=(Qa h).2 rfl;unfold Up at h2;rw[z]at h2;exact X9 (kt:=kt) h2 c hy
   .intro x x' g c e w;unfold Fe at g;rw[z]at g;dsimp only at g;split at g
    .rename_i cs M;rw[P0 M]at c;cases c;rename_i D7 J K;have q:∀n,(Instr.checkKey e (n+2) kt (.agg D7)).run P w=.ok () w:=by
      intro n;rw[Instr.checkKey];simp only[Sem.run_bind,run_underlying B,Result.andThen_ok];rw[<- Array.forIn_toList];refine Eq.trans (Jh (λr=>Result.andThen r (λ_ w'=>Sem.run P (pure ()) w')) (Tu _ w _ (λf Y=>?_))) (by simp);by_cases hn:f.name = "_";. simp[hn]
      .have X:(f.type,f.offset)∈V:=by grind
       have C:=Od.1 g _ X;rw[Sc]at C;obtain⟨u,o⟩:=Mw.1 C.2;obtain⟨U,p,_⟩:=Mp (P:=P) (σ:=σ) o (D7:=D7) ⟨J,K⟩ w;simp[hn,p,Vo C.1]
     exact q 9998
    .cases g
  .rename_i n e s;obtain⟨S,B,D,F⟩:=L;refine⟨.array n e,B,.inr ⟨λu v=>by simp[Instr.sameNow],A⟩,?_,?_⟩;. intro x y x' j h c hy;have h2:=(Qa h).2 rfl;unfold Up at h2;rw[z]at h2;exact X9 (kt:=kt) h2 c hy
   .intro x x' g c T w;unfold Fe at g;rw[z]at g;dsimp only at g;split at g
    .rename_i cs M;rw[P0 M]at c;cases c;rename_i D7 J K;rw[Sc]at g;have q:∀m,(Instr.checkKey T (m+2) kt (.agg D7)).run P w=.ok () w:=by
      intro m;rw[Instr.checkKey];simp only[Sem.run_bind,run_underlying B,Result.andThen_ok];rw[Std.Legacy.Range.forIn_eq_forIn_range'];refine Eq.trans (Jh (λr=>Result.andThen r (λ_ w'=>Sem.run P (pure ()) w')) (Tu _ w _ (λi hi=>?_))) (by simp);have Q:i<n:=by simp_all
      have C:=Od.1 g.2 i (ec.2 Q);obtain⟨u,o⟩:=Mw.1 C;obtain⟨U,p,_⟩:=Mp (P:=P) (σ:=σ) o (D7:=D7) ⟨J,K⟩ w;have W:(sizeOf e).run P w=.ok s w:=by simp[sizeOf,typeInfo,D,F]
      simp[W,p,Vo g.1]
     exact q 9998
    .cases g
def Kp(σ:Dx)(b:List (AV × AV))(l:List MapEntry):Prop:=
 b.length=l.length/\∀(i:Nat) (x:AV × AV) (y:MapEntry),b[i]?=some x->l[i]?=some y->Au σ x.1 y.key/\Au σ x.2 y.val
def Kp.F8{x:AV × AV}{d:List (AV × AV)}(c:Kp σ (x::d) p):∃y b,p=y::b/\Au σ x.1 y.key/\Au σ x.2 y.val/\Kp σ d b:=by
 cases p with
 |nil=>have:=c.1;simp at this
 |cons y b=>have h0:=c.2 0 x y (by simp) (by simp);refine⟨y,b,rfl,h0.1,h0.2,by have:=c.1;simpa using this,λi u z e hz=>c.2 (i+1) u z (by simpa using e) (by simpa using hz)⟩
def Kp.cons{x:AV × AV}{y:MapEntry}{c:List (AV × AV)}(h1:Au σ x.1 y.key)(h2:Au σ x.2 y.val)(d:Kp σ c p):Kp σ (x::c) (y::p):=by
 refine⟨by simp[d.1],λi u z b hz=>?_⟩;cases i with
 |zero=>simp at b hz;subst b;subst hz;exact⟨h1,h2⟩
 |succ i=>simp at b hz;exact d.2 i u z b hz
def Qo(P:Program)(kt:TypeId)(b:Value)(l:List MapEntry)(r:Option (Nat × Value)):Prop:=∀w,(Instr.findKey kt b l).run P w=.ok r w
def Xr{kt:TypeId}(c:P.underlying kt=some I){r:Option (Nat × Value)}(h:Instr.findNow I j p 0=some r):Qo P kt j p r:=by intro w;simp[Instr.findKey,run_underlying c,h]
def Xq{kt:TypeId}(g:P.underlying kt=some I)(b:∀u v,Instr.sameNow I u v=none){r:Option (Nat × Value)}(h:∀w,(Instr.findAsking kt j p 0).run P w=.ok r w):Qo P kt j p r:=by
 intro w;cases p with
 |nil=>have:=h w;simp only[Instr.findAsking,Sem.run_pure]at this;simp[Instr.findKey,run_underlying g,Instr.findNow,this]
 |cons e p=>
  have hn:Instr.findNow I j (e::p) 0=none:=by simp[Instr.findNow,b]
  simp only[Instr.findKey,Sem.run_bind,run_underlying g,Result.andThen_ok,hn];exact h w
def Anv{eq}{d}{k}(hq:∀y y' b,eq y=some b->Au σ y y'->Instr.sameNow d k y'=some b):
 ∀e l i r,M1 eq e=some r->Kp σ e l ->
  match r with
  |some x=>∃j y,Instr.findNow d k l i=some (some (j,y))/\Au σ x y
  |none=>Instr.findNow d k l i=some none:=by intro e;induction e with
 |nil=>
  intro l i r c g;have:l=[]:=by have:=g.1;grind
  subst this;cases c;rfl
 |cons x e n=>
  intro l i r c g;obtain⟨y,p,rfl,h1,h2,o⟩:=g.F8;simp[M1]at c;split at c;. rename_i hb;cases c;have:=hq _ _ _ hb h1;exact⟨i,_,by simp[Instr.findNow,this],h2⟩
  .rename_i hb;have m:=hq _ _ _ hb h1;have q:=n _ (i+1) r c o;cases r with
   |none=>simp[Instr.findNow,m];grind
   |some u=>simp[Instr.findNow,m];omega
  grind
def Anu{eq:AV->Option Bool}{kt:TypeId}(hq:∀(y:AV) (y':Value) (b:Bool),eq y=some b->Au σ y y'->∀w,(Op.equal kt j y').run P w=.ok b w):
 ∀(d:List (AV × AV)) (l:List MapEntry) (i:Nat) (r),M1 eq d=some r->Kp σ d l ->
  match r with
  |some x=>∃g y,(∀w,(Instr.findAsking kt j l i).run P w=.ok (some (g,y)) w)/\Au σ x y
  |none=>∀w,(Instr.findAsking kt j l i).run P w=.ok none w:=by intro d;induction d with
 |nil=>
  intro l i r c e;have:l=[]:=by have:=e.1;grind
  subst this;cases c;intro w;rfl
 |cons x d m=>
  intro l i r c e;obtain⟨y,q,rfl,h1,h2,o⟩:=e.F8;simp[M1]at c;split at c;. rename_i hb;cases c;have:=hq _ _ _ hb h1;exact⟨i,_,λw=>by simp[Instr.findAsking,this],h2⟩
  .rename_i hb;have k:=hq _ _ _ hb h1;have n:=m _ (i+1) r c o;cases r with
   |none=>simp[Instr.findAsking,Sem.run_bind,k,Result.andThen_ok,Mh,Fl];grind
   |some u=>obtain⟨g,z,s,p⟩:=n;exact⟨g,z,λw=>by simp[Instr.findAsking,Sem.run_bind,k,Result.andThen_ok,Mh,Fl];grind,p⟩
  grind
def Anw{kt}{d}(e:Apa P σ kt d){k}{i}(n:Au σ k i) es l r(p:M1 (Gy P kt k) es=some r)(o:Kp σ es l):
 match r with
 |some x=>∃j y,Qo P kt i l (some (j,y))/\Au σ x y
 |none=>Qo P kt i l none:=by
 rcases e.eq with hq|⟨c,hq⟩;. have:=Anv (λy q b hb=>hq k y _ _ b hb n) _ l 0 r p o;cases r with
   |none=>exact Xr e.und this
   |some x=>obtain⟨j,y,g,m⟩:=this;exact⟨j,y,Xr e.und g,m⟩
 .have:=Anu (λy q b hb=>hq k y _ _ b hb n) _ l 0 r p o;cases r with
  |none=>exact Xq e.und c this
  |some x=>obtain⟨j,y,g,m⟩:=this;exact⟨j,y,Xq e.und c g,m⟩
def AcG{t:TypeId}{c:MI}(b:AlU P t=some c):∃et,P.underlying t=some (.map c.kt et)/\Ps P et=some c.z/\AlK P c.kt=true:=by
 unfold AlU at b;split at b
 .rename_i kt et d;split at b
  .rename_i z hz e;cases b;exact⟨et,d,hz,e⟩
  .cases b
 .cases b
def Af1(t:TypeId)(x i:Operand)(ok:Bool):R5 P G ⟨dst,.lookup t x i ok,ty,pos,af,gd⟩:=by
 intro σ nt f a h h' w v Z he U k hl hf;simp[Op.operands]at U;have I:=Cj k.fr k.gl x U.1;have hi:=Cj k.fr k.gl i U.2;have n:Pe t x i ok ty P Z f h=.ok v h':=he;unfold Pe at n;split at n
 .rename_i o F O g;obtain⟨et,D,hz,V⟩:=AcG O;obtain⟨inf,z',s,E,Q⟩:=Ud σ hz;obtain⟨d,J⟩:=AhL (P:=P) (σ:=σ) V;have K:∃l:List MapEntry,Kp σ F l/\((a.eval x=.map none/\l=[])\/∃c b,a.eval x=.map (some c)/\w.heap[c]?=some (.map l.toArray b)):=by
   unfold entries at g;generalize a.eval x=xx at *
   split at g
   .rename_i W;rw[Ado W]at I;cases I;cases g;exact⟨[],⟨rfl,λi u y D _=>by simp at D⟩,.inl ⟨rfl,rfl⟩⟩
   .rename_i r W;rw[Ago W]at I;cases I;rename_i e hb;split at g
    .rename_i es2 S;cases g;have Y:=k.ma r e hb;rw[S]at Y;obtain⟨_,Y8,b,q1,q2,q3⟩:=Y;exact⟨Y8.toList,⟨q2,q3⟩,.inr ⟨e.c,b,rfl,by simpa using q1⟩⟩
    .cases g
   .cases g
  obtain⟨l,M,B⟩:=K;have run:∀(r:Option AV),(@Bool.rec (λ_=>Option (Option AV)) none (M1 (Gy P o.kt (ev i f)) F) (Fe P o.kt (ev i f)):Option (Option AV))=some r->∃z v1,(match r with|some u=>Au σ u v1/\z=true|none=>Au σ o.z v1/\z=false) /\
   (Instr.lookup t (a.eval x) (a.eval i) ok).run P w=.ok (if ok then .tuple #[v1,.bool z]else v1) w:=by
   intro r m;have R:Fe P o.kt (ev i f)=true/\M1 (Gy P o.kt (ev i f)) F=some r:=by
    cases hq:Fe P o.kt (ev i f)with
    |false=>rw[hq]at m;cases m
    |true=>rw[hq]at m;exact⟨rfl,m⟩
   obtain⟨L,C⟩:=R;have p:=J.chk _ _ L hi;have hm:=Anw J hi F l r C M;cases r with
   |none=>
    have A:Qo P o.kt (a.eval i) l none:=hm;refine⟨false,z',⟨Q,rfl⟩,?_⟩;rcases B with⟨q,rfl⟩|⟨c,b,q,X⟩
    .simp only[Instr.lookup,q,Sem.run_bind,run_underlying D,Result.andThen_ok,Sem.run_pure,p,Kx,A _,zeroValue,typeInfo,run_program,s,E]
    .have T:(getObj c).run P w=.ok (.map l.toArray b) w:=by simp[getObj,Sem.run,X]
     simp only[Instr.lookup,q,Sem.run_bind,run_underlying D,Result.andThen_ok,T,Sem.run_pure,p,Kx,A _,zeroValue,typeInfo,run_program,s,E]
   |some u=>
    obtain⟨j,y,hj,hy⟩:=hm;refine⟨true,y,⟨hy,rfl⟩,?_⟩;rcases B with⟨q,rfl⟩|⟨c,b,q,X⟩
    .have:=hj w;simp[Instr.findKey,run_underlying J.und,Instr.findNow]at this
    .have T:(getObj c).run P w=.ok (.map l.toArray b) w:=by simp[getObj,Sem.run,X]
     simp only[Instr.lookup,q,Sem.run_bind,run_underlying D,Result.andThen_ok,T,Sem.run_pure,p,Kx,hj _]
  split at n
  .rename_i u C;obtain⟨z,v1,⟨h1,rfl⟩,h2⟩:=run _ C;obtain⟨rfl,rfl⟩:=B4 n;refine⟨σ,_,w,.inl (by simp[execOp,h2];rfl),?_,Out.refl k.ai k.so k.ma⟩;cases ok
   .exact h1
   .exact Ass h1 (.bool true)
  .rename_i C;obtain⟨z,v1,⟨h1,rfl⟩,h2⟩:=run _ C;obtain⟨rfl,rfl⟩:=B4 n;refine⟨σ,_,w,.inl (by simp[execOp,h2];rfl),?_,Out.refl k.ai k.so k.ma⟩;cases ok
   .exact h1
   .exact Ass h1 (.bool false)
  .cases n
 .cases n
def Ari{eq:AV->Option Bool}{d:TypeDesc}{k x:AV}{x':Value}(A:Au σ k j)(C:Au σ x x')(n:Nat)
 (hq:∀(y:AV) (s:Value) (b:Bool),eq y=some b->Au σ y s->Instr.sameNow d j s=some b/\(b=true->Instr.sameBits 10000 s j=true)):
 ∀(o c:List (AV × AV)) (l:List MapEntry) (i:Nat),Z7 eq k x o=some c->Kp σ o l ->
  (∃m y e,Instr.findNow d j l i=some (some (i+m,y))/\l[m]?=some e/\Instr.sameBits 10000 e.key j=true/\Kp σ c (l.set m { e with key:=j,val:=x' })) \/
  (Instr.findNow d j l i=some none/\Kp σ c (l++[{ key:=j,val:=x',born:=n }])):=by
 intro o;induction o with
 |nil=>
  intro c l i g q;have:l=[]:=by have:=q.1;cases l;rfl;simp at this
  subst this;cases g;exact .inr ⟨rfl,Kp.cons A C ⟨rfl,λi u y I _=>by simp at I⟩⟩
 |cons t o D=>
  intro c l i g q;obtain⟨y,E,rfl,h1,h2,B⟩:=q.F8;simp only[Z7]at g;split at g
  .rename_i hb;cases g;obtain⟨p,J⟩:=hq t.1 y.key true hb h1;exact .inl ⟨0,y.val,y,by simp[Instr.findNow,p],by simp,J rfl,Kp.cons A C B⟩
  .rename_i hb;obtain⟨p,_⟩:=hq t.1 y.key false hb h1;split at g
   .rename_i r F;cases g;rcases D r E (i+1) F B with⟨m,z,e,g1,g2,g3,g4⟩|⟨g1,g2⟩
    .refine .inl ⟨m+1,z,e,?_,by simpa using g2,g3,?_⟩
     .simp only[Instr.findNow,p];rw[g1];congr 3;omega
     .simp only[List.set_cons_succ];exact Kp.cons h1 h2 g4
    .refine .inr ⟨?_,Kp.cons h1 h2 g2⟩;simp only[Instr.findNow,p];exact g1
   .cases g
  .cases g
def Arh{eq:AV->Option Bool}{kt:TypeId}{k x:AV}{x':Value}(t:Au σ k j)(B:Au σ x x')(m:Nat)
 (hq:∀(y:AV) (q:Value) (b:Bool),eq y=some b->Au σ y q->(∀w,(Op.equal kt j q).run P w=.ok b w)/\(b=true->Instr.sameBits 10000 q j=true)):
 ∀(n c:List (AV × AV)) (l:List MapEntry) (i:Nat),Z7 eq k x n=some c->Kp σ n l ->
  (∃g y e,(∀w,(Instr.findAsking kt j l i).run P w=.ok (some (i+g,y)) w)/\l[g]?=some e/\Instr.sameBits 10000 e.key j=true/\Kp σ c (l.set g { e with key:=j,val:=x' })) \/
  ((∀w,(Instr.findAsking kt j l i).run P w=.ok none w)/\Kp σ c (l++[{ key:=j,val:=x',born:=m }])):=by
 intro n;induction n with
 |nil=>
  intro c l i d p;have:l=[]:=by have:=p.1;cases l;rfl;simp at this
  subst this;cases d;exact .inr ⟨λw=>by simp[Instr.findAsking],Kp.cons t B ⟨rfl,λi u y F _=>by simp at F⟩⟩
 |cons s n C=>
  intro c l i d p;obtain⟨y,D,rfl,h1,h2,A⟩:=p.F8;simp only[Z7]at d;split at d
  .rename_i hb;cases d;obtain⟨o,I⟩:=hq s.1 y.key true hb h1;exact .inl ⟨0,y.val,y,λw=>by simp[Instr.findAsking,o],by simp,I rfl,Kp.cons t B A⟩
  .rename_i hb;obtain⟨o,_⟩:=hq s.1 y.key false hb h1;split at d
   .rename_i r E;cases d;rcases C r D (i+1) E A with⟨g,z,e,g1,g2,g3,g4⟩|⟨g1,g2⟩
    .refine .inl ⟨g+1,z,e,?_,by simpa using g2,g3,?_⟩
     .intro w;simp only[Instr.findAsking,Sem.run_bind,o,Result.andThen_ok,Mh,Fl];rw[g1 w,show i+1+g=i+(g+1)by omega]
     .simp only[List.set_cons_succ];exact Kp.cons h1 h2 g4
    .refine .inr ⟨?_,Kp.cons h1 h2 g2⟩;intro w;simp only[Instr.findAsking,Sem.run_bind,o,Result.andThen_ok,Mh,Fl];exact g1 w
   .cases d
  .cases d
def Arj{kt:TypeId}(n:Apa P σ kt I){k x:AV}{x':Value}(o:Au σ k j)(u:Au σ x x')(c:Nat)(r g:List (AV × AV))(l:List MapEntry)(s:Z7 (Gy P kt k) k x r=some g)(t:Kp σ r l):
 (∃d y e,Qo P kt j l (some (d,y))/\l[d]?=some e/\Instr.sameBits 10000 e.key j=true/\Kp σ g (l.set d { e with key:=j,val:=x' })) \/
  (Qo P kt j l none/\Kp σ g (l++[{ key:=j,val:=x',born:=c }])):=by
 rcases n.eq with hq|⟨p,hq⟩
 .rcases Ari (σ:=σ) (d:=I) o u c (λy q b hb hy=>⟨hq k y j q b hb o hy,λm=>by subst m;exact n.bits k y j q hb o hy⟩) r g l 0 s t with⟨d,y,e,g1,g2⟩|⟨g1,g2⟩
  .rw[Rx]at g1;exact .inl ⟨d,y,e,Xr n.und g1,g2⟩
  .exact .inr ⟨Xr n.und g1,g2⟩
 .rcases Arh (σ:=σ) (P:=P) (kt:=kt) o u c (λy q b hb hy=>⟨hq k y j q b hb o hy,λm=>by subst m;exact n.bits k y j q hb o hy⟩) r g l 0 s t with⟨d,y,e,g1,g2⟩|⟨g1,g2⟩
  .simp only[Rx]at g1;exact .inl ⟨d,y,e,Xq n.und p g1,g2⟩
  .exact .inr ⟨Xq n.und p g1,g2⟩
def AhZ(t:TypeId)(m k x:Operand){Z:Ac}(p:E6 t m k x ty P Z f h=.ok v h')(h1:Es G m=true)(h2:Es G k=true)(h3:Es G x=true)(g:St G σ nt f a h w):
 ∃w',(Instr.mapUpdate t (a.eval m) (a.eval k) (a.eval x)).run P w=.ok () w'/\v=.Bj []/\Out G σ h w σ h' w':=by
 have hm:=Cj g.fr g.gl m h1;have V:=Cj g.fr g.gl k h2;have hx:=Cj g.fr g.gl x h3;unfold E6 at p;split at p
 .rename_i R r Q I;obtain⟨et,Y,hz,T⟩:=AcG Q;obtain⟨d,U⟩:=AhL (P:=P) (σ:=σ) T;rw[Ago I]at hm;generalize hmm:a.eval m=mm at *
  cases hm;rename_i e hb;split at p
  .rename_i X B;split at p
   .rename_i i n;have L:Fe P R.kt (ev k f)=true/\Z7 (Gy P R.kt (ev k f)) (ev k f) (ev x f) X=some i:=by
     cases hq:Fe P R.kt (ev k f)with
     |false=>rw[hq]at n;cases n
     |true=>rw[hq]at n;exact⟨rfl,n⟩
    obtain⟨J,F⟩:=L;have C:=U.chk _ _ J V;obtain⟨rfl,rfl⟩:=B4 p;have W:=g.ma r e hb;rw[B]at W;obtain⟨z,Y8,b,M,q2,q3⟩:=W;have Vr:(getObj e.c).run P w=.ok (.map Y8 b) w:=by simp[getObj,Sem.run,M]
    have D:∀o,(setObj e.c o).run P w=.ok () (Cc w e.c o):=λo=>by simp[setObj,Sem.run,M,Cc]
    have O:=Arj U V hx b X i Y8.toList F ⟨q2,q3⟩;have s:∀l:Array MapEntry,∀S,Kp σ i l.toList->Out G σ h w σ (h.put r (.map i)) (Cc w e.c (.map l S)):=by intro l S u;refine Hh g.ai g.so g.ma hb B (by simp) (by simp) rfl rfl z (by simp) ?_;exact⟨z,l,S,by rw[Da,Xo ⟨rfl,Dj M⟩],u.1,u.2⟩
    rcases O with⟨j,y,E,g1,g2,g3,g4⟩|⟨g1,g2⟩
    .have A:Y8[j]?=some E:=by simpa using g2
     refine⟨Cc w e.c (.map (Y8.modify j λe=>{ e with key:=a.eval k,val:=a.eval x }) b),?_,rfl,s _ _ ?_⟩
     .have K:(Instr.keyThatStays E.key (a.eval k)).run P w=.ok (a.eval k) w:=by simp[Instr.keyThatStays,g3]
      simp only[Instr.mapUpdate,Sem.run_bind,run_underlying Y,Result.andThen_ok,Vr,C,g1 _,Sem.run_pure,A,dy,C8,K,D]
     .have:(Y8.modify j λe=>{ e with key:=a.eval k,val:=a.eval x }).toList=Y8.toList.set j { E with key:=a.eval k,val:=a.eval x }:=by
       apply dg;intro q;rw[Rd,Array.getElem?_modify,O5];by_cases hq:j=q
       .subst hq;have B6:j<Y8.toList.length:=(Xh.1 g2).1;simp[A];simpa using B6
       .simp[hq]
      rw[this];exact g4
    .refine⟨Cc w e.c (.map (Y8.push { key:=a.eval k,val:=a.eval x,born:=b }) (b+1)),?_,rfl,s _ _ ?_⟩
     .simp only[Instr.mapUpdate,Sem.run_bind,run_underlying Y,Result.andThen_ok,Vr,C,g1 _,Sem.run_pure,D]
     .rw[Array.toList_push];exact g2
   .cases p
  .cases p
 .cases p
def Abi(t:TypeId)(m k x:Operand):R5 P G ⟨dst,.mapUpdate t m k x,ty,pos,af,gd⟩:=by intro σ nt f a h h' w v Z c b d g e;simp[Op.operands]at b;obtain⟨w',h1,rfl,h2⟩:=AhZ (P:=P) (ty:=ty) (Z:=Z) t m k x c b.1 b.2.1 b.2.2 d;exact⟨σ,undef,w',.inr ⟨by simp[execOp,h1],rfl⟩,L6 σ,h2⟩
def Af0(t:TypeId)(m k x:Operand):R5 P G ⟨dst,.insert t m k x,ty,pos,af,gd⟩:=by intro σ nt f a h h' w v Z c b d g e;simp[Op.operands]at b;obtain⟨w',h1,rfl,h2⟩:=AhZ (P:=P) (ty:=ty) (Z:=Z) t m k x c b.1 b.2.1 b.2.2 d;exact⟨σ,undef,w',.inr ⟨by simp[execOp,h1],rfl⟩,L6 σ,h2⟩
end ops
structure Ms(G:Nat)(σ:Dx)(h:H)(w:World):Prop where
 ai:Om h
 so:SOk σ w
 ma:V1 G σ h.m.get w
def Ms.draw(c:Ms G σ h w)(n:Nat):Ms G σ h { w with drawn:=n }:=⟨c.ai,⟨c.so.inj,c.so.rng,c.so.low⟩,λb e hb=>Gr.congr (Qq.refl σ) rfl (λ_ _ _ _ _ d=>d) (c.ma b e hb)⟩
def Amk{s n:Nat}{x:AV}{new:uz}(d:Hd h s x=some (n,new))(g:Au σ x j)(I:Ms G σ h w):
 (∀w',(Builtin.lenOf j).run P w'=.ok n w')/\∃l:List Value,Bk σ new l/\l.length=n*s/\∀k,k<=n->∀w',w'.heap=w.heap->∃z,(Builtin.firstCells s k j).run P w'=.ok z w'/\z.toList=l.take (k*s):=by
 unfold Hd at d;split at d
 .rename_i y;rw[Ok y]at g;cases g;cases d;exact⟨λ_=>rfl,[],Bk.nil σ,by simp,λk m w' _=>⟨#[],rfl,by simp⟩⟩
 .rename_i b off len cap M ex y;rw[Ri y]at g;cases g;rotate_left
  .rename_i off e a C hb;split at d
   .rename_i c u;have B:0*s=0:=Ou s;rw[B]at d;have E:n=0/\new=[]:=by
     rw[E5]at d;split at d
     .simp at d;exact⟨d.1.symm,d.2⟩
     .cases d
    obtain⟨rfl,rfl⟩:=E;refine⟨λ_=>rfl,[],Bk.nil σ,by simp,λk m w' _=>⟨#[],?_,by simp⟩⟩;have t:k=0:=by omega
    subst t;simp[Builtin.firstCells];rfl
   .cases d
  rename_i e C hb g1 g2 g3 g4;split at d
  .rename_i c u;cases o:Nf c off (len*s)with
   |none=>simp[o]at d
   |some r=>
    simp[o]at d;obtain⟨rfl,rfl⟩:=d;obtain⟨arr,O,fz,D,Q,L,F⟩:=No u (I.ma b e hb);obtain⟨K,_,J⟩:=Js o;have A:=Uj o F om;refine⟨λ_=>rfl,_,A,by have:=A.1;omega,λk m w' p=>?_⟩
    have q:k*s<=len*s:=D2 s m;refine⟨((arr.toList.drop off).take (k*s)).toArray,?_,?_⟩
    .exact Mo (P:=P) (by rw[p];exact D) om
    .simp[de,dw q]
  .cases d
 .split at d
  .rename_i s2 y;rw[Rj y]at g;cases g;rename_i bs;cases hq:Nat.beq s 1 with
   |false=>rw[hq]at d;cases d
   |true=>
    rw[hq]at d;have e1:=Ch hq;subst e1;cases d;have i:Y2 (bytesOf bs)=bs.size:=by rw[Rf,Gv]
    rw[i];refine⟨λ_=>rfl,_,AaZ σ bs,by rw[Array.length_toList,Array.size_map,ae];rfl,λk m w' _=>⟨_,rfl,?_⟩⟩;simp only[Array.toList_map,ae,Kv];rw[ByteArray.data_extract,Array.toList_extract];simp[Kv]
  .cases d
def AmK(b:Nat):∀(r c:Nat),c<b->Builtin.growBy b r c<=b+(b+768)/4:=by
 intro r;induction r with
 |zero=>intro c e;simp[Builtin.growBy];omega
 |succ r d=>
  intro c e;simp only[Builtin.growBy];rw[X2 om];by_cases h2:c+(c+768)/4<b
  .exact d _ h2
  .cases r with
   |zero=>simp[Builtin.growBy];omega
   |succ r=>simp only[Builtin.growBy];rw[Xo om];omega
def Akr(b Cf:Nat)(c:Cf<b):Builtin.nextslicecap b Cf<=2*b+200:=by
 unfold Builtin.nextslicecap;split
 .omega
 .split
  .omega
  .have:=AmK b 4 Cf c;omega
def Adv(z:Array Value)(n:Nat):(Builtin.zeroCells z n).size=n*z.size:=by simp[Builtin.zeroCells]
def Qs{ts:Array TypeId}{ty st t2:TypeId}{i:SI}{zz:Value}{x':Value}{base:Option Addr}{len cap n:Nat}{Cf new:Array Value}
 (ht:ts[0]?=some st) (ht2:ts[1]?=some t2) (hni:Aab P t2=true) (hu:P.underlying st=some (.slice i.e)) (hi:P.info? i.e=some J) (Fc:J.size=i.s) (hby:J.bytes=i.bytes) (hzz:J.zero=some zz)
 (hs:j=.slice base len cap) (hlen:∀w',(Builtin.lenOf x').run P w'=.ok n w') (B6:cap<len+n) (hsm:(len+n)*(i.bytes+1)<1000000000000)
 (hold:∀w',w'.heap=w.heap->(Builtin.firstCells i.s len j).run P w'=.ok Cf w') (Na:∀w',w'.heap=w.heap->(Builtin.firstCells i.s n x').run P w'=.ok new w'):
 ∃nc,len+n<=nc/\(Builtin.append_ ts ty #[j,x']).run P w=.ok (.slice (some ⟨w.heap.size,0,none⟩) (len+n) nc) (Dd { w with drawn:=w.drawn+1 } (.cells (Cf++new++Builtin.zeroCells zz.cells (nc-(len+n))) i.e)):=by
 subst hs;generalize hq:Question.cut (.appendCap (len+n) cap i.e) (w.tape w.drawn (.appendCap (len+n) cap i.e))=nc;have q:len+n<=nc:=by rw[<- hq];simp[Question.cut]
 refine⟨nc,q,?_⟩;have c:∃d,P.underlying t2=some d/\∀k,d≠.int k:=by
  unfold Aab at hni;cases hd:P.underlying t2 with
  |none=>rw[hd]at hni;cases hni
  |some d=>exact⟨_,rfl,λk z=>by rw[hd,z]at hni;cases hni⟩
 obtain⟨d,hd,y⟩:=c;have C:len+n<=(len+n)*(i.bytes+1):=Nat.le_mul_of_pos_right _ om;have hb:(len+n)*i.bytes<=(len+n)*(i.bytes+1):=cq _ om;have o:=Akr (len+n) cap B6;have x:i.bytes<=1000000000000:=by
  rcases cu (len+n)with h0|h0
  .omega
  .have:i.bytes+1<=(len+n)*(i.bytes+1):=Nat.le_mul_of_pos_left _ h0;omega
 have u:Builtin.nextslicecap (len+n) cap*i.bytes<=(2*(len+n)+200)*i.bytes:=D2 _ o;have B:(2*(len+n)+200)*i.bytes=2*((len+n)*i.bytes)+200*i.bytes:=by rw[ag,P9]
 have c1:¬ (((len+n:Nat):Int) > IntKind.i64.max):=by
  have:IntKind.i64.max=9223372036854775807:=by decide
  rw[this];omega
 have c2:¬ (Builtin.nextslicecap (len+n) cap*i.bytes > 2^48):=by omega
 have l:(Question.appendCap (len+n) cap i.e).forced=false:=rfl;have t:(choose (.appendCap (len+n) cap i.e)).run P w=.ok nc { w with drawn:=w.drawn+1 }:=by simp only[choose,Sem.run,l,Mh,Fl,hq]
 have p:∀w',(sizeOf i.e).run P w'=.ok i.s w':=λw'=>by simp[sizeOf,typeInfo,hi,Fc]
 have g:∀w',(typeInfo i.e).run P w'=.ok J w':=λw'=>by simp[typeInfo,hi]
 have r:∀w',(zeroValue i.e).run P w'=.ok zz w':=λw'=>by simp[zeroValue,g,hzz]
 have A:=hold { w with drawn:=w.drawn+1 } rfl;have hn:=Na { w with drawn:=w.drawn+1 } rfl;have m:(underlying t2).run P w=.ok d w:=run_underlying hd w;simp only[Builtin.append_,ht,ht2,Li,dc,ay,Sem.run_bind,run_underlying hu,Result.andThen_ok,p,m,Sem.run_pure,Mh,Fl,hlen,X2 (Nat.not_le_of_lt B6)];have c3:¬ (Builtin.nextslicecap (len+n) cap*J.bytes > 2^48):=by rw[hby];exact c2
 split
 .simp only[G9,Jr,hlen,Sem.run_bind,Result.andThen_ok,X2 (Nat.not_le_of_lt B6),c1,false_and,Fl,g,c3,t,run_askRoom,A,hn,r,newRow];rfl
 .rename_i hz;exact absurd rfl hz
def Ug{ts:Array TypeId}{ty st t2:TypeId}{i:SI}{x':Value}{base:Option Addr}{len cap n:Nat}{new:Array Value}
 (ht:ts[0]?=some st) (ht2:ts[1]?=some t2) (hni:Aab P t2=true) (hu:P.underlying st=some (.slice i.e)) (hi:P.info? i.e=some J) (Fc:J.size=i.s)
 (hs:j=.slice base len cap) (hlen:∀w',(Builtin.lenOf x').run P w'=.ok n w') (hle:len+n<=cap)
 (Na:(Builtin.firstCells i.s n x').run P w=.ok new w) (l:∀c,base=some c->(storeCells (c.add (len*i.s)) new.toList).run P w=.ok () w') (AqI:base=none->w'=w):
 (Builtin.append_ ts ty #[j,x']).run P w=.ok (.slice base (len+n) cap) w':=by
 subst hs;have b:∃d,P.underlying t2=some d/\∀k,d≠.int k:=by
  unfold Aab at hni;cases hd:P.underlying t2 with
  |none=>rw[hd]at hni;cases hni
  |some d=>exact⟨_,rfl,λk q=>by rw[hd,q]at hni;cases hni⟩
 obtain⟨d,hd,p⟩:=b;have g:∀w',(sizeOf i.e).run P w'=.ok i.s w':=λw'=>by simp[sizeOf,typeInfo,hi,Fc]
 have m:(underlying t2).run P w=.ok d w:=run_underlying hd w;simp only[Builtin.append_,ht,ht2,Li,dc,ay,Sem.run_bind,run_underlying hu,Result.andThen_ok,g,m,Sem.run_pure,Mh,Fl,hlen,Xo hle,G9,Jr];cases base with
 |none=>cases AqI rfl;simp only[Na,Result.andThen_ok,Sem.run_pure]
 |some c=>have l:=l c rfl;simp only[Na,l,Result.andThen_ok,Sem.run_bind,Sem.run_pure]
def Asn{n:Nat}(hn:o.length=n):o.take n=o:=by rw[<- hn];simp
def AgR{x:Array Value}(b:x.toList=o):x=o.toArray:=by rw[<- b]
def Ad4(P:Program)(G:Nat)(σ:Dx)(h:H)(w:World)(s:Sem Value)(v:AV)(h':H):Prop:=
 ∃b v' w',s.run P w=.ok v' w'/\Au b v v'/\Out G σ h w b h' w'
def SOk.place{b b0:Nat}{e j:SE}(i:SOk σ w)(hb:b<Bq)(h0:σ b0=some e)(p:j.c=e.c)(g:j.k=e.k)(hn:e.k≠none)(n:w'.heap.size=w.heap.size):SOk (Gu σ b j) w':=by
 refine⟨?_,?_,?_⟩
 .intro x y e1 m h1 h2 o;unfold Gu at h1 h2;split at h1
  .cases h1;split at h2
   .left;omega
   .rcases i.inj y b0 m e h2 h0 om with d|⟨d,l⟩
    .subst d;rw[h0]at h2;cases h2;exact .inr ⟨g,by rw[g];exact hn⟩
    .exact .inr ⟨by rw[g,d],by rw[g];exact hn⟩
  .split at h2
   .cases h2;rcases i.inj x b0 e1 e h1 h0 om with d|⟨d,l⟩
    .subst d;rw[h0]at h1;cases h1;exact .inr ⟨g.symm,hn⟩
    .exact .inr ⟨by rw[g,d],l⟩
   .exact i.inj x y e1 m h1 h2 o
 .intro x e1 h1;unfold Gu at h1;rw[n];split at h1
  .cases h1;have:=i.rng b0 e h0;omega
  .exact i.rng x e1 h1
 .intro x e1 h1;unfold Gu at h1;split at h1
  .omega
  .exact i.low x e1 h1
def Aeq{o:AO}{n:Nat}(b:Aj3 o=some n):o=.Fb n:=by
 cases o<;>first|(cases b;done)|skip
 cases b;rfl
def Aoo{b j:List Value}{cs:uz}(c:Bk σ cs (o++b)):∀(i:Nat) (x:AV) (y:Value),cs[i]?=some x->(o++b++j).toArray[i]?=some y->Au σ x y:=by intro i x y g hy;have e:=(Xh.1 g).1;rw[c.1]at e;rw[Li,ck e]at hy;exact c.2 i x y g hy
def Aa3{i:SI}{zz:Value}{Cf l:List Value}{len n nc:Nat}(b:zz.cells.size=i.s)(e:Cf.length=len*i.s)(c:l.length=n*i.s)(d:len+n<=nc):
 (Cf.toArray++l.toArray++Builtin.zeroCells zz.cells (nc-(len+n))).size=nc*i.s:=by
 rw[Array.size_append,Array.size_append,Adv,b];simp only[List.size_toArray,c,e];have:nc=len+n+(nc-(len+n)):=by omega
 rw[<- ag,<- ag,<- this]
def Xb{zz:Value}{Cf:List Value}{cs:uz}(k:Nat)(b:Bk σ cs (Cf++o)):
 ∀(j:Nat) (x:AV) (y:Value),cs[j]?=some x->(Cf.toArray++o.toArray++Builtin.zeroCells zz.cells k)[j]?=some y->Au σ x y:=by
 intro j a1 a2 g1 g2;have e:(Cf.toArray++o.toArray++Builtin.zeroCells zz.cells k)=(Cf++o++(Builtin.zeroCells zz.cells k).toList).toArray:=by apply Ic;simp
 rw[e]at g2;exact Aoo b j a1 a2 g1 g2
def Ah5{i:SI}{zz:Value}{Cf l:List Value}{cs:uz}{len n nc:Nat}(d:zz.cells.size=i.s)(k:Bk σ cs (Cf++l))(m:Cf.length=len*i.s)(o:l.length=n*i.s)
 (hnc:len+n<=nc) (hm:Ms G σ h w) (hl:h.nx+1<Bq) (hf0:σ h.nx=none) (hf:σ (h.nx+1)=none):
 ∃g,Au g (.sl (Nat.succ h.nx) 0 (len+n) (len+n) i.s false) (.slice (some ⟨w.heap.size,0,none⟩) (len+n) nc) /\
  Out G σ h w g ((h.new (.Fb 0)).new (.cells cs i.e (.Gt h.nx))) (Dd { w with drawn:=w.drawn+1 } (.cells (Cf.toArray++l.toArray++Builtin.zeroCells zz.cells (nc-(len+n))) i.e)):=by
 have c:=Aa3 (nc:=nc) d m o hnc;have b:=hm.draw (w.drawn+1);have q:cs.length=(len+n)*i.s:=by have:=k.1;rw[Xi]at this;rw[ag];omega
 have r:=Ae4 (t:=i.e) (cs:=cs) (arr:=Cf.toArray++l.toArray++Builtin.zeroCells zz.cells (nc-(len+n))) (fz:=(0,0)) b.ai b.so b.ma hl hf0 hf
  (by rw[c,q];exact D2 _ om) (Xb _ k) (by intro j _;omega)
 refine⟨_,?_,r.draw⟩;exact Au.sl (h.nx+1) 0 (len+n) (len+n) i.s false ⟨w.heap.size,(Cf.toArray++l.toArray++Builtin.zeroCells zz.cells (nc-(len+n))).size,some h.nx⟩ nc (by simp[Gu]) (Ye _) om (by intro p;cases p) (by intro _;simp only[c];omega)
def Ad8{ts:Array TypeId}{ty st t2:TypeId}{s x:AV}{s' x':Value}(d:Xa P st s x h=.ok v h')(hs:Au σ s s')(hx:Au σ x x')(p:Ms G σ h w)
 (ht:ts[0]?=some st) (ht2:ts[1]?=some t2) (hni:Aab P t2=true) (hl:h'.nx<=Bq) (hf:Fx σ h h'):Ad4 P G σ h w (Builtin.append_ ts ty #[s',x']) v h':=by
 unfold Xa at d;split at d
 .rename_i i Z3;obtain⟨inf,z,zz,hu,hi,Y,W,hz,hzz,hlz,V,Q0⟩:=Pk Z3;split at d
  .rename_i n new F6;obtain⟨o,l,r,S4,hfc⟩:=Amk (P:=P) F6 hx p;have BeE:new.length=n*i.s:=by have:=r.1;omega
   have X:∀w',w'.heap=w.heap->(Builtin.firstCells i.s n x').run P w'=.ok l.toArray w':=by intro w1 m;obtain⟨l',h1,h2⟩:=hfc n (Ye _) w1 m;rw[Asn S4]at h2;rw[h1,AgR h2]
   split at d
   .rename_i hv;rw[Ok hv]at hs;cases hs;rcases Bl d with⟨h0,d⟩|⟨h0,d⟩
    .cases d;have:=Ch h0;subst this;refine⟨σ,.slice none 0 0,w,Ug (P:=P) (base:=none) (w':=w) ht ht2 hni hu hi Y rfl o om (X w rfl) (λc F=>by cases F) (λ_=>rfl),.Bv,Out.refl p.ai p.so p.ma⟩
    .rcases Bl d with⟨h1,d⟩|⟨_,d⟩
     .rcases Bl d with⟨h2,d⟩|⟨_,d⟩
      .have AhE:=Ho h0;have A4h:∀(w':World),w'.heap=w.heap->(Builtin.firstCells i.s 0 (.slice none 0 0)).run P w'=.ok ([]:List Value).toArray w':=λw' _=>rfl;obtain⟨nc,t,S⟩:=Qs (P:=P) (w:=w) (ty:=ty) (x':=x') (n:=n) (new:=l.toArray) ht ht2 hni hu hi Y W hzz rfl o (by omega:(0:Nat)<0+n) (by rw[Rx];exact Ec h1)
        A4h X
       unfold grow at d;cases d;obtain⟨σ',D,q2⟩:=Ah5 (i:=i) (zz:=zz) (Cf:=[]) (l:=l) (cs:=new) (len:=0) (n:=n) (nc:=nc) V (by simpa using r) (by simp) S4 t p hl (hf _ (Ye _) (Sa (Y3 _))) (hf _ om (Y3 _));refine⟨σ',_,_,S,?_,q2⟩;have e0:0+n=n:=Rx n;rw[e0]at D ⊢;exact D
      .cases d
     .cases d
   .rename_i b off len cap sz ex hv;rw[Ri hv]at hs;have AhE:=AkD Z3;cases hs;rotate_left
    .exfalso;rcases Bl d with⟨h1,d⟩|⟨_,d⟩
     .rcases Bl d with⟨h2,d⟩|⟨_,d⟩
      .rcases Bl d with⟨h3,d⟩|⟨_,d⟩
       .have:=Ch h3;omega
       .cases d
      .cases d
     .cases d
    rename_i e J hb g2 g1 g3 g4;rcases Bl d with⟨h1,d⟩|⟨_,d⟩
    .rcases Bl d with⟨h2,d⟩|⟨_,d⟩
     .rcases Bl d with⟨h3,d⟩|⟨_,d⟩
      .have hsm:=Ec h1;have hsi:=Ch h3;subst hsi;have AdM:=V3 r h2;unfold Lg at d;rcases Bl d with⟨h4,d⟩|⟨h4,d⟩
       .have hle:len+n<=cap:=G2 h4;unfold AgN at d;cases new with
        |nil=>cases d;have hl0:l=[]:=r.Rt;subst hl0;refine⟨σ,_,w,Ug (P:=P) (w':=w) ht ht2 hni hu hi Y rfl o (show len+n<=J by omega) (X w rfl) (λc F=>rfl) (λ_=>rfl),.sl b off _ cap i.s ex e J hb hle g2 g3 g4,Out.refl p.ai p.so p.ma⟩
        |cons y u=>
        cases hw:h.wr b (off+len*i.s) (y::u)with
        |bad q=>rw[show(@List.rec _ (λ_=>OR) (.ok (.sl b off (Nat.add len n) cap i.s ex) h) (λ_ _ _=>RH.rec (motive:=λ_=>OR) .bad (λh'=>.ok (.sl b off (Nat.add len n) cap i.s ex) h') (h.wr b (off+len*i.s) (y::u))) (y::u):OR)=RH.rec (motive:=λ_=>OR) .bad (λh'=>.ok (.sl b off (Nat.add len n) cap i.s ex) h') (h.wr b (off+len*i.s) (y::u))from rfl,hw]at d;cases d
        |ok h2=>
         rw[show(@List.rec _ (λ_=>OR) (.ok (.sl b off (Nat.add len n) cap i.s ex) h) (λ_ _ _=>RH.rec (motive:=λ_=>OR) .bad (λh'=>.ok (.sl b off (Nat.add len n) cap i.s ex) h') (h.wr b (off+len*i.s) (y::u))) (y::u):OR)=RH.rec (motive:=λ_=>OR) .bad (λh'=>.ok (.sl b off (Nat.add len n) cap i.s ex) h') (h.wr b (off+len*i.s) (y::u))from rfl,hw]at d
         cases d;obtain⟨w',hr,Vd⟩:=Agp (P:=P) hw p.ai p.so p.ma hb r AdM;refine⟨σ,_,w',Ug (P:=P) (w':=w') ht ht2 hni hu hi Y rfl o (show len+n<=J by omega) (X w rfl) (λc F=>by cases F;rw[G1];exact hr) (λF=>by cases F),?_,Vd⟩
         exact .sl b off _ cap i.s ex e J hb hle g2 g3 g4
       .have hgt:cap<len+n:=Axo h4;rcases Bl d with⟨h5,g⟩|⟨h5,g⟩
        all_goals clear d
        .subst h5;have O0:=g3 rfl;subst O0;unfold Sf at g;split at g
         .rename_i c W4;split at g
          .rename_i Cf Ik;rw[Dl]at g;unfold grow at g;cases g;obtain⟨arr,tt,fz,D,q2,q3,q4⟩:=No W4 (p.ma b e hb);obtain⟨r1,_,r3⟩:=Js Ik;have B:=Uj Ik q4 om;have U:((arr.toList.drop off).take (len*i.s)).length=len*i.s:=by rw[<- B.1];exact r3
           have E:∀(w':World),w'.heap=w.heap->(Builtin.firstCells i.s len (.slice (some ⟨e.c,off,none⟩) len J)).run P w'=.ok ((arr.toList.drop off).take (len*i.s)).toArray w':=
            λw' T=>Mo (P:=P) (off:=off) (n:=len*i.s) (by rw[T];exact D) om
           obtain⟨nc,t,S⟩:=Qs (P:=P) (w:=w) (ty:=ty) (x':=x') (n:=n) (new:=l.toArray) ht ht2 hni hu hi Y W hzz rfl o hgt hsm E X;obtain⟨σ',z1,z2⟩:=Ah5 (i:=i) (zz:=zz) (nc:=nc) V (B.append r) U S4 t p hl (hf _ (Ye _) (Sa (Y3 _))) (hf _ om (Y3 _));exact⟨σ',_,_,S,z1,z2⟩
          .cases g
         .cases g
        .subst h5;unfold Ny at g;split at g
         .rename_i c e' k ho;split at g
          .rename_i st Cf Vt Ik;rcases Bl g with⟨h6,g⟩|⟨_,g⟩
           .rcases Bl g with⟨h7,g⟩|⟨_,g⟩
            .rcases Bl g with⟨h8,g⟩|⟨_,g⟩
             .have e6:=Ch h6;have e7:=Ch h7;have e8:=Ch h8;subst e7;subst e8;rw[Gh]at e6;rw[Dl]at g;cases g;have S3:=Aeq Vt;have Ha:=p.ma b e hb;rw[ho]at Ha;obtain⟨arr,lo,C,D,q2,q3,q4,q5,q6⟩:=Ha.2 trivial;have O0:=g4 rfl;have P4:h.nx<Bq:=hl;have L:=hf h.nx (Ye _) (Y3 _);have Ox:(c++new).length=(len+n)*i.s:=by rw[Xi,ag];omega
              by_cases Ay8:len+n<=J
              .have hmul:(len+n)*i.s<=J*i.s:=D2 _ Ay8;have BeN:(len+n)*i.s=len*i.s+n*i.s:=ag _ _ _;have hrs:=Nl P e.c (len*i.s) i.e lo C l 0 arr w D om (λj I M=>q6 trivial j om) AdM;rw[Vw]at hrs;have Q:len*i.s+l.length<=arr.size:=by omega
               generalize m:Cc w e.c (.cells (J9 arr (len*i.s) l) i.e (lo,C))=w1 at hrs;have O:w1.heap[e.c]?=some (.cells (J9 arr (len*i.s) l) i.e (lo,C)):=by rw[<- m,Da,Xo ⟨rfl,Dj D⟩]
               have A9e:w1.heap.size=w.heap.size:=by rw[<- m,Mr]
               have R:SOk (Gu σ h.nx ⟨e.c,e.N,some k⟩) w1:=p.so.place P4 hb rfl Ha.1.symm (by rw[Ha.1];simp[Ahd]) A9e;refine⟨Gu σ h.nx ⟨e.c,e.N,some k⟩,_,w1,Ug (P:=P) (w':=w1) ht ht2 hni hu hi Y rfl o Ay8 (X w rfl) (λc F=>by cases F;rw[G1,Rx];simpa using hrs) (λF=>by cases F),?_,?_⟩
               .exact .sl h.nx 0 _ _ i.s false ⟨e.c,e.N,some k⟩ J (by simp[Gu]) (Ye _) Ay8 (λK=>by cases K) (λ_=>O0)
               .refine AiI p.ai p.so p.ma hb ho S3 P4 L (by rw[Xi];omega) rfl R om (by first|exact⟨rfl,rfl⟩|(subst m;exact⟨rfl,rfl⟩)) ?_ (.inr rfl) ⟨arr,_,_,D,O,O2 Q,?_⟩ ?_
                .intro j _ h2;rw[<- m,Da,X2 (λK=>h2 K.1)]
                .intro j hj;rw[Nz Q,X2 om]
                .refine⟨rfl,λ_=>⟨_,lo,C,O,by rw[O2 Q];exact q2,by show(c++new).length<=e.N;omega,?_,λK=>(by cases K),q6⟩⟩
                 intro j a1 a2 I M;rw[Nz Q]at M;refine Au.mono (Ip L) ?_;by_cases hjl:j<c.length
                 .rw[ck hjl]at I;rw[X2 om]at M;exact q4 j a1 a2 I M
                 .rw[bu om]at I;have:=(Xh.1 I).1;rw[Xo om]at M;have e9:c.length=len*i.s:=by omega
                  rw[e9]at I;exact r.2 _ a1 a2 I M
              .have E:∀(w':World),w'.heap=w.heap->(Builtin.firstCells i.s len (.slice (some ⟨e.c,0,none⟩) len J)).run P w'=.ok ((arr.toList.drop 0).take (len*i.s)).toArray w':=
                λw' T=>Mo (P:=P) (off:=0) (n:=len*i.s) (by rw[T];exact D) om
               obtain⟨nc,t,S⟩:=Qs (P:=P) (w:=w) (ty:=ty) (x':=x') (n:=n) (new:=l.toArray) ht ht2 hni hu hi Y W hzz rfl o om hsm E X;have B:=Uj Ik q4 om;have hoc:Cf=c:=by obtain⟨_,r2,_⟩:=Js Ik;rw[r2,Cp,R4 om]
               rw[hoc]at B;have U:((arr.toList.drop 0).take (len*i.s)).length=len*i.s:=by rw[<- B.1];omega
               have Aqm:=Aa3 (nc:=nc) (i:=i) (zz:=zz) (Cf:=(arr.toList.drop 0).take (len*i.s)) (l:=l) V U S4 t;generalize hA:((arr.toList.drop 0).take (len*i.s)).toArray++l.toArray++Builtin.zeroCells zz.cells (nc-(len+n))=A at S Aqm;generalize m:Dd { w with drawn:=w.drawn+1 } (.cells A i.e)=w1 at S;have hm2:=p.draw (w.drawn+1);have O:w1.heap[w.heap.size]?=some (.cells A i.e (0,0)):=by rw[<- m];exact F1 { w with drawn:=w.drawn+1 } _
               have R:SOk (Gu σ h.nx ⟨w.heap.size,nc*i.s,some k⟩) w1:=by rw[<- m];exact hm2.so.push _ P4 rfl
               have Pa:∀j,j<w.heap.size->w1.heap[j]?=w.heap[j]?:=λj hj=>by rw[<- m];exact Lq { w with drawn:=w.drawn+1 } _ j hj
               refine⟨Gu σ h.nx ⟨w.heap.size,nc*i.s,some k⟩,_,w1,S,?_,?_⟩
               .exact .sl h.nx 0 _ _ i.s false ⟨w.heap.size,nc*i.s,some k⟩ nc (by simp[Gu]) (Ye _) t (λK=>by cases K) (λ_=>by show 0+nc*i.s<=nc*i.s;omega)
               .refine AiI p.ai p.so p.ma hb ho S3 P4 L (by rw[Xi];omega) rfl R (by rw[<- m,size_push];exact Pc _) (by rw[<- m];exact⟨rfl,rfl⟩) (λj h1 _=>Pa j h1) (.inl (Ye _))
                 ⟨arr,arr,(lo,C),D,by rw[Pa _ (p.so.rng b e hb)];exact D,rfl,λ_ _=>rfl⟩ ?_
                refine⟨rfl,λ_=>⟨A,0,0,O,Aqm,by show(c++new).length<=nc*i.s;rw[Ox];exact D2 _ t,?_,λK=>(by cases K),λ_ j _=>by omega⟩⟩
                intro j a1 a2 I M;rw[<- hA]at M;exact Au.mono (Ip L) (Xb _ (B.append r) j a1 a2 I M)
             .cases g
            .cases g
           .cases g
          .cases g
         .cases g
      .cases d
     .cases d
    .cases d
   .cases d
  .cases d
 .cases d
def Ad4.quiet{s:Sem Value}{v':Value}(b:Ms G σ h w)(d:s.run P w=.ok v' w)(c:Au σ v v'):Ad4 P G σ h w s v h:=⟨σ,v',w,d,c,Out.refl b.ai b.so b.ma⟩
def Ahi{ts:Array TypeId}{ty dt:TypeId}{d x:AV}{C x':Value}(c:Ahh P dt d x h=.ok v h')(hd:Au σ d C)(R:Au σ x x')(o:Ms G σ h w)(B:ts[0]?=some dt):
 Ad4 P G σ h w (Builtin.copy_ ts ty #[C,x']) v h':=by
 unfold Ahh at c;split at c
 .rename_i i S;obtain⟨J,z,zz,D,hi,V,M,hz,W,K,I,Q0⟩:=Pk S;have p:∀w',(sizeOf i.e).run P w'=.ok i.s w':=λw'=>by simp[sizeOf,typeInfo,hi,V]
  split at c
  .rename_i n src T;obtain⟨g,l,y,Y,m⟩:=Amk (P:=P) T R o;split at c
   .rename_i A;rw[Ok A]at hd;cases hd;cases c;obtain⟨U,t,E⟩:=m 0 (Qt _) w rfl;refine .quiet o (v':=.int .i64 0) ?_ (.int _ _);simp[Builtin.copy_,B,run_underlying D,g,p,Nat.min,t,goInt]
   .rename_i b off len cap L ex A;rw[Ri A]at hd;cases hd;rotate_left
    .exfalso;split at c
     .have F:OR.bad 132=OR.ok v h':=c;cases F
     .cases c
    rename_i e X hb g1 g2 g3 g4;split at c
    .rename_i cs r;rcases Bl c with⟨h1,k⟩|⟨_,k⟩
     .have h1:Bm cs=true:=by
       cases hq:Nat.blt 0 L with
       |false=>rw[hq]at h1;cases h1
       |true=>rw[hq]at h1;exact h1
      clear c;cases u:h.wr b off cs with
      |bad q=>rw[u]at k;cases k
      |ok h2=>
       rw[u]at k;cases k;obtain⟨U,t,E⟩:=m (Nat.min n len) (I2 _ _) w rfl;rw[AhX]at r;split at r
       .cases r;have j:=y.take (Nat.min n len*i.s);rw[<- E]at j;obtain⟨w',Q,O⟩:=Agp (P:=P) u o.ai o.so o.ma hb j (V3 j h1);refine⟨σ,.int .i64 (Nat.min n len),w',?_,.int _ _,O⟩;simp[Builtin.copy_,B,run_underlying D,g,p,t,goInt,Q]
       .cases r
     .cases k
    .cases c
   .cases c
  .cases c
 .cases c
def Aj0{ts:Array TypeId}{ty t:TypeId}{x:AV}{x':Value}(m:Pw P t=.sl)(d:Ath x h=.ok v h')(i:Au σ x x')(k:Ms G σ h w)(l:ts[0]?=some t):
 Ad4 P G σ h w (Builtin.cap_ ts ty #[x']) v h':=by
 have g:=Ta P t;rw[m]at g;obtain⟨e,g⟩:=g;unfold Ath at d;split at d
 .rename_i j;rw[Ok j]at i;cases i;cases d;exact .quiet k (v':=.int .i64 0) (by simp[Builtin.cap_,l,run_underlying g,goInt]) (.int _ _)
 .rename_i b off len c o j;rw[Ri j]at i;cases i;cases d;rename_i e n hb g1 g2 g3 g4;have:=g3 rfl;subst this;exact .quiet k (v':=.int .i64 n) (by simp[Builtin.cap_,l,run_underlying g,goInt]) (.int _ _)
 .cases d
def Anr{ts:Array TypeId}{ty t:TypeId}{x:AV}{x':Value}(b:lnK (Pw P t) x h=.ok v h')(y:Au σ x x')(l:Ms G σ h w)(u:ts[0]?=some t):
 Ad4 P G σ h w (Builtin.len_ ts ty #[x']) v h':=by
 by_cases hq:∃r,x=.map r
 .obtain⟨r,rfl⟩:=hq;cases y;rename_i e hb;have j:=Ta P t;cases i:Pw P t with
  |bad=>rw[i]at b;cases b
  |str=>rw[i]at b;cases b
  |sl=>rw[i]at b;cases b
  |map=>
   rw[i]at b j;obtain⟨k,et,j⟩:=j;have d:lnM (.map r) h=.ok v h':=b;unfold lnM entries at d;have n:vM (.map r)=.yes r:=rfl;rw[n]at d;dsimp only at d;cases p:h.m.get r with
   |map es=>
    rw[p]at d;cases d;have s:=l.ma r e hb;rw[p]at s;obtain⟨_,Y8,g,o,q,B⟩:=s;have z:(getObj e.c).run P w=.ok (.map Y8 g) w:=by simp[getObj,Sem.run,o]
    refine .quiet l (v':=.int .i64 Y8.size) (by simp[Builtin.len_,u,run_underlying j,goInt,z]) ?_;have:es.length=Y8.size:=by rw[q];simp
    rw[this];exact .int _ _
   |_=>rw[p]at d;cases d
 .obtain⟨v',o,q,rfl⟩:=AeE (P:=P) (ty:=ty) y (λr A=>hq ⟨r,A⟩) b w ts u;exact .quiet l o q
def Aoe{ts:Array TypeId}{ty:TypeId}{x:AV}{x':Value}(d:sdV x h=.ok v h')(g:Au σ x x')(j:Ms G σ h w):
 Ad4 P G σ h w (Builtin.unsafeSliceData_ ts ty #[x']) v h':=by
 unfold sdV at d;split at d
 .rename_i i;rw[Ok i]at g;cases g;cases d;exact .quiet j rfl .Ob
 .rename_i b off len c l ex i;rw[Ri i]at g;cases g;rotate_left
  .cases d
  rename_i e k hb g1 g2 g3 g4;rcases Bl d with⟨_,d⟩|⟨h1,d⟩
  .cases d
  .cases d;have:=Ho h1;exact .quiet j (Lib.run_unsafeSliceData_row w ts ty _ len k om) (.ptr b off e hb)
 .cases d
def Akg(lt:Bool):∀(l:uz) (d:List Value) (k:IntKind) (a:Int) (r:IntKind × Int),AfO lt k a l=some r->Bk σ l d ->
 (d.foldlM (if lt then Builtin.min2 else Builtin.max2) (.int k a)).run P w=.ok (.int r.1 r.2) w:=by
 intro l;induction l with
 |nil=>intro d k a r c e;cases e.Rt;cases c;rfl
 |cons y rest g=>
  intro d k a r c e;obtain⟨n,l2,rfl,hy,j⟩:=e.F8;unfold AfO at c;split at c
  .rename_i m b i;rw[P1 i]at hy;cases hy;have:=g l2 k _ r c j;cases lt with
   |true=>
    simp only[Jr]at this ⊢;simp only[List.foldlM_cons,Builtin.min2,Sem.run_bind,Sem.run_pure,Result.andThen_ok];rw[<- this];rw[Il];by_cases hb:b<a
    .rw[Xo hb,Ws hb]
    .rw[X2 hb,Yg hb]
   |false=>
    simp only[Mh,Fl]at this ⊢;simp only[List.foldlM_cons,Builtin.max2,Sem.run_bind,Sem.run_pure,Result.andThen_ok];rw[<- this];rw[Il];by_cases hb:a<b
    .rw[Xo hb,Ws hb]
    .rw[X2 hb,Yg hb]
  .cases c
def Aia(lt:Bool){ts:Array TypeId}{ty:TypeId}(b:mm lt R h=.ok v h')(i:Bk σ R o)(e:Ms G σ h w):
 Ad4 P G σ h w (if lt then Builtin.min_ ts ty o.toArray else Builtin.max_ ts ty o.toArray) v h':=by
 unfold mm at b;split at b
 .rename_i x rest;obtain⟨y,l2,rfl,hy,m⟩:=i.F8;split at b
  .rename_i k n j;rw[P1 j]at hy;cases hy;split at b
   .rename_i g n2 d;cases b;have:=Akg (P:=P) (w:=w) lt rest l2 k n _ d m;refine .quiet e (v':=.int g n2) ?_ (.int _ _);cases lt<;>exact this
   .cases b
  .cases b
 .cases b
def AjA{c n:Nat}{arr:Array Value}{t:TypeId}{lo hi:Nat}(b:w.heap[c]?=some (.cells arr t (lo,hi)))(hn:n≠0):∃fz,w.freeze ⟨c,0,none⟩ n=Cc w c (.cells arr t fz):=by
 refine⟨if lo == hi then(0,0+n)else(min lo 0,max hi (0+n)),?_⟩;unfold World.freeze Cc;rw[X2 hn];congr 1;apply Array.ext_getElem?;intro j;have d:=Dj b;rw[Array.getElem?_modify];by_cases hj:c=j
 .subst hj;have:w.heap[c]=.cells arr t (lo,hi):=by rw[U0 d]at b;exact Ck b
  simp[d,this]
 .simp[hj,aj hj]
def Aop{ts:Array TypeId}{ty t t2:TypeId}{p n:AV}{p' V:Value}(d:usV P t p n h=.ok v h')(u:Au σ p p')(hn:Au σ n V)(r:Ms G σ h w)(ht:ts=#[t,t2]):
 Ad4 P G σ h w (Builtin.unsafeString_ ts ty #[p',V]) v h':=by
 subst ht;unfold usV at d;split at d
 .rename_i h1 h2;rw[Wv h1]at u;rw[Qc h2]at hn;cases u;cases hn;cases d;exact .quiet r (Lib.run_unsafeString_none w t t2 ty none) (.str ByteArray.empty)
 .rename_i b off h1 h2;rw[P2 h1]at u;rw[Qc h2]at hn;cases u;cases hn;cases d;exact .quiet r (Lib.run_unsafeString_none w t t2 ty _) (.str ByteArray.empty)
 .rename_i b off m h0 h1 h2;rw[P2 h1]at u;rw[Qc h2]at hn;cases u;cases hn;rename_i e hb;split at d
  .rename_i c el k e' X O;split at d
   .rename_i cs st hu Fc Ik Vt;split at d
    .rename_i s F;rcases Bl d with⟨h3,C⟩|⟨_,C⟩
     .rcases Bl C with⟨h4,E⟩|⟨_,E⟩
      .rcases Bl E with⟨h5,K⟩|⟨_,K⟩
       .clear d C E;cases K;have e3:=Ch h3;have e4:=Ch h4;have e5:=Ec h5;subst e3;subst e4;have S3:=Aeq Vt;have M:=r.ma b e hb;rw[X]at M;obtain⟨arr,lo,hi',z,q2,q3,Y,q5,q6⟩:=M.2 trivial;obtain⟨r1,r2,r3⟩:=Js Ik;have B:=Uj Ik Y om;obtain⟨U,k2⟩:=AaQ cs s _ F B;have J:m≠0:=λg=>h0 g;have Z3:s.length=m:=by have:=Jh List.length U;rw[<- B.1,r3]at this;simpa using this.symm
        have S:(s.map UInt8.ofNat).length=m:=by simpa using Z3
        obtain⟨inf,j1,j2⟩:=F3 Fc;have L:P.cellsOf el=1:=by simp[Program.cellsOf,j1,j2]
        have Q:=Lib.run_unsafeString_row (P:=P) w t t2 ty el O L e.c arr.size (Aam z) (s.map UInt8.ofNat) (by intro g;rw[g]at S;simp at S;omega) om om (by
         intro j x hj;rw[G1,Xj z];have D:((arr.toList.drop 0).take m)[j]?=some (.int .u8 x.toNat):=by
          rw[U];rw[Cn]at hj;cases i:s[j]? with
          |none=>rw[i]at hj;cases hj
          |some q=>rw[i]at hj;cases hj;have hq:=k2 q (Vl i);simp[i,UInt8.toNat_ofNat',dm hq]
         rw[cy]at D;split at D
         .simpa using D
         .cases D)
        rw[S]at Q;obtain⟨fz,T⟩:=AjA z J;rw[T]at Q;have A:(Cc w e.c (.cells arr el fz)).heap[e.c]?=some (.cells arr el fz):=by rw[Da,Xo ⟨rfl,Dj z⟩]
        refine⟨σ,_,_,Q,?_,?_⟩
        .have I:bytesOf ⟨(s.map UInt8.ofNat).toArray⟩=s:=by
          unfold bytesOf;simp only[List.map_map];have:∀l:uw,(∀n∈l,n<256)->l.map (UInt8.toNat ∘ UInt8.ofNat)=l:=by
           intro l hl;induction l with
           |nil=>rfl
           |cons q l ih=>
            have hq:=hl q (by simp);simp only[Co,Function.comp,UInt8.toNat_ofNat',dm (show q<2^8 from hq)]
            rw[ih (λn hn=>hl n (by simp[hn]))]
          exact this s k2
         have:=Au.str (σ:=σ) ⟨(s.map UInt8.ofNat).toArray⟩;rw[I]at this;exact this
        .refine Ys r.ai r.so r.ma hb X S3 (.inr ⟨rfl,rfl,?_⟩) rfl ?_
         .intro x y hx W hxb l2 t2 st2 R;have o:=r.ma x y hx;rw[R]at o ⊢;refine⟨o.1,λhv=>?_⟩;obtain⟨Am0,lo2,hi2,p1,p2,p3,p4,p5,p6⟩:=o.2 hv;rw[W,z]at p1;cases p1;exact⟨arr,fz.1,fz.2,by rw[W];exact A,p2,p3,p4,λg=>(by cases g),λg=>g.elim⟩
         .exact⟨M.1,λ_=>⟨arr,fz.1,fz.2,A,q2,q3,Y,λg=>(by cases g),λg=>g.elim⟩⟩
       .cases K
      .cases E
     .cases C
    .cases d
   .cases d
  .cases d
 .cases d
end Go.Ev
