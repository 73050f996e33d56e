/- The other built-in functions. -/
import Derived.Test.YtecikbfimlolcaaGreatDoorEvB
import Derived.Laws.BytesString
import Derived.Laws.LoneSync
import Derived.Lib.UnsafeStr
set_option linter.all false
noncomputable section
namespace Go.Ev
variable [Ii]
variable {P:Program} {G:Nat} {σ:Dx} {h h':H} {w w':World} {v:AV} {nt:Nat} {f:L2} {a:Act} {ctx:Ac}
structure St (G:Nat) (σ:Dx) (nt:Nat) (f:L2) (a:Act) (h:H) (w:World):Prop where
 fr:Pt σ nt f a
 gl:Vm G σ
 ai:Om h
 so:SOk σ w
 ma:V1 G σ h.m.get w
def Fx (σ:Dx) (h h':H):Prop:=∀b,h.nx<=b->b<h'.nx->σ b=none
def R5 (P:Program) (G:Nat) (o:Oper):Prop:=∀(σ:Dx) (nt:Nat) (f:L2) (a:Act) (h h':H) (w:World) (v:AV) (ctx:Ac),
 opD o.op o.type P ctx f h=.ok v h'->o.op.operands.toList.all (Es G)=true->St G σ nt f a h w->h'.nx<=Bq->Fx σ h h' ->
 ∃σ' v' w',Ran P (execOp a.eval o) w v' w'/\Au σ' v v'/\Out G σ h w σ' h' w'
theorem Ag4.out {v'} (he:Ag4 σ h w v v' h' w') (hs:St G σ nt f a h w) (hl:h'.nx<=Bq) (hf:Fx σ h h'):∃σ',Au σ' v v'/\Out G σ h w σ' h' w':=by cases he with
 |quiet v v' hv=>exact ⟨_,hv,Out.refl hs.ai hs.so hs.ma⟩
 |ptr cs D7 t hc=>have B6:=hl;exact ⟨_,.ptr _ 0 ⟨_,cs.length,none⟩ (by simp [Gu]),Tc hs.ai hs.so hs.ma B6 (hf _ (Nat.le_refl _) (Nat.lt_succ_self _)) hc⟩
 |sl cs D7 t len cap sz hle hc=>have B6:=hl;exact ⟨_,.sl _ 0 _ _ _ _ ⟨_,cs.length,none⟩ _ (by simp [Gu]) hle (Nat.le_refl _) (λ_=>rfl) λhh=>by grind,Tc hs.ai hs.so hs.ma B6 (hf _ (Nat.le_refl _) (Nat.lt_succ_self _)) hc⟩
theorem Hm.to3 {o} (hg:Hm P G o):R5 P G o:=by intro σ nt f a h h' w v ctx he De hs hl hf;obtain ⟨v',w',h1,h2⟩:=hg _ _ f a h _ w v _ he De hs.fr hs.gl;obtain ⟨σ',h3,h4⟩:=h2.out hs hl hf;grind
section ops
variable {dst:Option Tmp} {ty:TypeId} {pos:String} {af:Array Edge} {gd:Option (Nat × Bool)}
theorem AjC t x:R5 P G ⟨dst,.load t x,ty,pos,af,gd⟩:=by intro σ nt f a h h' w v ctx he De hs hl hf;obtain ⟨v',h1,h2,rfl⟩:=Ae0 t x he (by simpa [Op.operands] using De) hs.fr hs.gl λb off e _=>hs.ma b e;exact ⟨_,_,w,h1,h2,Out.refl hs.ai hs.so hs.ma⟩
theorem V3 {cs} {l} (hc:Bk σ cs l) (ho:Bm cs=true):∀u∈l,u.oneCell'=true:=by
 intro u hu;obtain ⟨i,hi,rfl⟩:=List.getElem_of_mem hu;have B6:=by have:=hc.1;omega
 exact Arz ((AfG _).1 ho cs[i] (List.getElem_mem _)) (hc.2 i _ _ (List.getElem?_eq_getElem _) (List.getElem?_eq_getElem _))
theorem L6 σ:Au σ (.Bj []) undef:=.Bj _ _ rfl λi x y hx _=>by grind
theorem Agc {r} (he:AnU r=.ok v h'):r=.ok h'/\v=.Bj []:=by cases r<;>cases he;simp
theorem Ah3 t x y:R5 P G ⟨dst,.store t x y,ty,pos,af,gd⟩:=by
 intro σ nt f a h h' w v ctx he De hs hl hf;simp [Op.operands] at De;have hx:=Cj hs.fr hs.gl x De.1;have hy:=Cj hs.fr hs.gl y De.2;have Ak:stV _ _ _ h=.ok v _:=he;generalize ev x f=u at *;generalize Rr:a.eval x=xx at *;cases hx<;>first|(cases Ak)|rename_i b off e hb;have Cs:stC _ _ b _ h=.ok v _:=Ak;unfold stC at Cs;split at Cs
 . rename_i cs n hc hn;rcases Bl Cs with ⟨h1,Cs⟩|⟨_,Cs⟩
   . rcases Bl Cs with ⟨h2,Cs⟩|⟨_,Cs⟩
     . obtain ⟨hw,rfl⟩:=Agc Cs;have Q0:=O4 hc hy;obtain ⟨inf,k1,k2⟩:=F3 hn;have hlen:=Ch h1;rw [Gh] at hlen;obtain ⟨w',hr,Vd⟩:=Agp (P:=P) hw hs.ai hs.so hs.ma hb Q0 (V3 Q0 h2);have Fc:(a.eval y).cells.size=inf.size:=by have:=Q0.1;grind
       refine ⟨_,_,_,.inr ⟨?_,rfl⟩,L6 _,Vd⟩;simp [execOp,Rr,Instr.storeAt,Instr.sureAddr,storeVar,sizeOf,typeInfo,k1,Fc,hr]
     grind
   grind
 grind
theorem AeI {o} {u} (he:mk h o u=.ok v h'):v=u/\h'=h.new o:=by cases he;simp
theorem AdI t r:R5 P G ⟨dst,.makeMap t r,ty,pos,af,gd⟩:=by intro σ nt f a h h' w v ctx he De hs hl hf;have Ak:=he;cases r with
 |some r=>cases Ak
 |none=>
  obtain ⟨rfl,rfl⟩:=AeI (show mk h ..=.ok v _ from Ak);have B6:=hl;have hfr:=hf _ (Nat.le_refl _) (Nat.lt_succ_self _);refine ⟨Gu σ h.nx ⟨w.heap.size,0,none⟩,.map (some w.heap.size),Dd w (.map #[] 0),.inl ?_,?_,?_⟩;. rfl
  . exact .map _ ⟨_,0,none⟩ (by simp [Gu])
  . exact Yf hs.ai hs.so hs.ma B6 hfr rfl rfl ⟨rfl,_,0,F1 w _,rfl,λi x y hx _=>by grind⟩
theorem wrap_small (m:Nat) (hm:m<1000000000000):IntKind.i64.wrap m=m:=by apply Agq;have h1:IntKind.i64.min=-9223372036854775808:=rfl;simp_all;omega
theorem Qc {x} {n} (hh:Arm x=some n):x=.int .i64 (.ofNat n):=by
 unfold Arm at hh;split at hh;. rename_i m hv;cases hh;exact P1 hv
 grind
theorem Abh (t:TypeId) (x y:Operand):R5 P G ⟨dst,.makeSlice t x y,ty,pos,af,gd⟩:=by
 refine Hm.to3 ?_;intro σ nt f a h h' w v ctx he De hf hg;simp [Op.operands] at De;have hx:=Cj hf hg x De.1;have hy:=Cj hf hg y De.2;have Ak:H5 t x y ty P ctx f h=.ok v h':=he;unfold H5 at Ak;split at Ak
 . rename_i i n m hs hn hm;obtain ⟨inf,z,zz,hu,hi,Fc,hby,hz,hzz,hlz,AdK,Q0⟩:=Pk hs;rw [hz] at Ak;dsimp only at Ak;rw [Qc hn] at hx;rw [Qc hm] at hy;generalize Rr:a.eval x=xx at *;generalize hyy:a.eval y=yy at *;cases hx;cases hy;rcases Bl Ak with ⟨h1,Ak⟩|⟨_,Ak⟩
   . rcases Bl Ak with ⟨h2,Ak⟩|⟨_,Ak⟩
     . obtain ⟨rfl,rfl⟩:=AeI Ak;have hle:=G2 h1;have B6:=Ec h2;have g1:m<=m * (i.bytes+i.s+1):=Nat.le_mul_of_pos_right m om;have g2:m * i.bytes<=m * (i.bytes+i.s+1):=Nat.mul_le_mul_left m om;have wm:=wrap_small m om;have wn:=wrap_small n om;have q1:¬ ((m:Int)<0):=by omega
       have q2:¬ ((i.bytes:Int) * (m:Int) > 2 ^ 48):=by grind
       have q3:¬ ((n:Int)<0):=by omega
       have q4:¬ ((n:Int) > (m:Int)):=by omega
       have hrr:=Aiy (Q0 σ) m;rw [hlz] at hrr;refine ⟨.slice (some ⟨w.heap.size,0,none⟩) n m,Dd w (.cells ((Array.range (m * i.s)).map (λj=>zz.cells[j % zz.cells.size]!)) i.e),.inl ?_,?_⟩
       . have AvT:((((m:Int)<0||(i.bytes:Int) * (m:Int) > 2 ^ 48)||(n:Int)<0||(n:Int) > (m:Int)):Bool)=false:=by simp_all
         by_cases h0:m * i.s=0
         . have e0:∀g:Nat->Value,(Array.range (m * i.s)).map g=#[]:=λg=>by rw [h0];apply Array.ext';simp
           simp only [execOp,Rr,hyy,Instr.makeSlice,asInt,asIntOf,typeInfo,sizeOf,Sem.run_bind,run_program,Result.andThen_ok,Sem.run_pure,run_underlying hu,hi,Fc,hby,Int.ofNat_eq_natCast,wm,wn,run_askRoom,newRow,e0,Int.toNat_natCast];simp only [Int.ofNat_eq_natCast,AvT,Bool.false_eq_true,if_false];have er:Array.range 0=(#[]:Array Nat):=by apply Array.ext';simp
           simp [h0,e0,Dd,hi,Fc,er]
         . simp only [execOp,Rr,hyy,Instr.makeSlice,asInt,asIntOf,typeInfo,sizeOf,zeroValue,Sem.run_bind,run_program,Result.andThen_ok,Sem.run_pure,run_underlying hu,hi,Fc,hby,hzz,Int.ofNat_eq_natCast,wm,wn,run_askRoom,newRow,Int.toNat_natCast];simp only [AvT,Bool.false_eq_true,if_false];simp [h0,Dd,hi,Fc,hzz,typeInfo]
       . exact .sl (Ade z m) _ i.e n m i.s hle hrr
     . cases Ak
   . cases Ak
 . cases Ak
end ops
end Go.Ev
namespace Go.Ev
variable [Ii]
variable {P:Program} {G:Nat} {σ:Dx} {h h':H} {w w':World} {v:AV} {nt:Nat} {f:L2} {a:Act} {ctx:Ac}
section ops
variable {dst:Option Tmp} {ty:TypeId} {pos:String} {af:Array Edge} {gd:Option (Nat × Bool)}
theorem Xg {x} {n} (hh:Xf x=some n):x=.int .u8 (.ofNat n)/\n<256:=by
 unfold Xf at hh;split at hh;. rename_i m hv;cases hq:Nat.blt m 256 with
   |false=>simp_all
   |true=>rw [hq] at hh;cases hh;exact ⟨P1 hv,Ec hq⟩
 grind
theorem AfY x cs:Yj (x::cs)=match Xf x,Yj cs with|some n,some r=>some (n::r)|_,_=>none:=rfl
theorem AaQ:∀cs s l,Yj cs=some s->Bk σ cs l->l=(s.map Int.ofNat).map (Value.int .u8)/\∀n∈s,n<256:=by intro cs;induction cs with
 |nil=>intro s l hh hr;cases hh;exact ⟨hr.Rt,λn hn=>by grind⟩
 |cons x cs ih=>
  intro s l hh hr;rw [AfY] at hh;split at hh;. rename_i n r hn hrr;obtain ⟨y,l',rfl,hv,hl⟩:=hr.F8;obtain ⟨rfl,B6⟩:=Xg hn;cases hv;grind
  grind
theorem Afp r (n:Nat) (hn:n<256):bytesOf (r.push (UInt8.ofNat n))=bytesOf r++[n]:=by unfold bytesOf;simp_all
theorem Afo:∀s r,(∀n∈s,n<256)->bytesOf ((s.map Int.ofNat).foldl (λr n=>r.push (UInt8.ofNat n.toNat)) r)=bytesOf r++s:=by intro s;induction s with
 |nil=>simp
 |cons n s ih=>intro r hs;simp [List.map_cons,List.foldl_cons];rw [ih _ λm hm=>hs m (by grind),Afp r n (hs n (by simp))];simp
theorem AdA:bytesOf ByteArray.empty=[]:=rfl
theorem Aam {c} {arr} {t} {fz} (hc:w.heap[c]?=some (.cells arr t fz)):w.shape? c=some (t,arr.size):=by simp [World.shape?,hc]
theorem Ahx w arr t n:(Dd w (.cells arr t)).freeze ⟨w.heap.size,n,none⟩ 1=Dd w (.cells arr t (n,n+1)):=by unfold World.freeze Dd;simp [Nat.one_ne_zero,if_false];congr 1;grind
theorem AaZ σ s:Bk σ (U2 (bytesOf s)) (s.data.map λb=>Value.int .u8 b.toNat).toList:=by unfold bytesOf;rw [Array.toList_map];generalize s.data.toList=l;induction l with
 |nil=>exact Bk.nil _
 |cons b l ih=>exact .cons (.int ..) ih
theorem AaY s:(U2 s).length=s.length:=by induction s with
 |nil=>rfl
 |cons a s ih=>show (U2 s).length+1=_;grind
theorem St.draw (hs:St G σ nt f a h w) (n:Nat):St G σ nt f a h { w with drawn:=n }:=⟨hs.fr,hs.gl,hs.ai,⟨hs.so.inj,hs.so.rng,hs.so.low⟩,λb e hb=>Gr.congr (Qq.refl σ) rfl (λ_ _ _ _ _ hh=>hh) (hs.ma b e hb)⟩
theorem Out.draw {n:Nat} {σ':Dx} (ho:Out G σ h { w with drawn:=n } σ' h' w'):Out G σ h w σ' h' w':=by
 obtain ⟨nw,a1,a2,a3⟩:=ho
 exact ⟨nw,a1,⟨a2.le,a2.fresh,a2.ok,a2.grow,a2.frame,a2.Vh,a2.io⟩,a3⟩
theorem AmA (P:Program) (s d:TypeId):match ApL P s d with
 |.bad=>True
 |.rune=>True
 |.int k=>(∃j,P.underlying s=some (.int j))/\P.underlying d=some (.int k)
 |.str=>P.underlying s=some .string/\P.underlying d=some .string
 |.Agl e=>P.underlying s=some .string/\P.underlying d=some (.slice e)/\P.underlying e=some (.int .u8)/\F7 P e=some 1
 |.ofBytes=>∃e,P.underlying s=some (.slice e)/\P.underlying d=some .string/\P.underlying e=some (.int .u8)
 |.toU=>∃e inf,P.underlying s=some (.pointer e)/\P.underlying d=some .unsafePointer/\P.info? e=some inf/\inf.size≠0
 |.ofU u=>∃inf,P.underlying s=some .unsafePointer/\P.underlying d=some (.pointer u)/\P.info? u=some inf/\inf.size≠0:=by
 generalize hc:ApL P s d=c;unfold ApL at hc;split at hc;. grind
 . grind
 . grind
 . grind
 . rename_i e h1 h2;split at hc;. rename_i n h3;subst hc;obtain ⟨inf,h4,h5⟩:=F3 h3;grind
   . grind
 . rename_i u h1 h2;split at hc;. rename_i n h3;subst hc;obtain ⟨inf,h4,h5⟩:=F3 h3;simp_all
   grind
 . subst hc;trivial
theorem AdH (s d:TypeId) (x:Operand):R5 P G ⟨dst,.convert s d x,ty,pos,af,gd⟩:=by
 intro σ nt f a h h' w v ctx he De hs hl hf
 have hx:=Cj hs.fr hs.gl x (by simpa [Op.operands] using De)
 have Ak:Ml s d x ty P ctx f h=.ok v h':=he
 unfold Ml at Ak
 have AjU:=AmA P s d
 generalize Rr:a.eval x=xx at *
 split at Ak<;>rename_i hcv<;>rw [hcv] at AjU
 . rename_i k
   obtain ⟨⟨j,h1⟩,h2⟩:=AjU
   split at Ak
   . rename_i k2 n hv
     rw [P1 hv] at hx
     cases hx
     obtain ⟨rfl,rfl⟩:=B4 Ak
     refine ⟨σ,.int k (k.wrap n),w,.inl ?_,by rw [Ub];exact .int _ _,Out.refl hs.ai hs.so hs.ma⟩
     simp [execOp,Rr,convert,run_underlying h1,run_underlying h2,Conv.intToInt]
   . cases Ak
 . obtain ⟨h1,h2⟩:=AjU
   split at Ak
   . rename_i s2 hv
     rw [Rj hv] at hx
     cases hx
     obtain ⟨rfl,rfl⟩:=B4 Ak
     refine ⟨σ,_,w,.inl ?_,.str _,Out.refl hs.ai hs.so hs.ma⟩
     simp [execOp,Rr,convert,run_underlying h1,run_underlying h2]
   . cases Ak
 . exfalso
   unfold ApL at hcv
   split at hcv<;>first|(cases hcv;done)|(split at hcv<;>cases hcv)
 . rename_i e
   obtain ⟨h1,h2,h3,h4⟩:=AjU
   split at Ak
   . rename_i s2 hv
     rw [Rj hv] at hx
     cases hx
     rename_i bs
     rcases Bl Ak with ⟨hsm,Ak⟩|⟨_,Ak⟩
     . obtain ⟨rfl,rfl⟩:=B4 Ak
       have hlen:Y2 (bytesOf bs)=bs.size:=by rw [Rf,Gv]
       generalize hq:Question.cut (.appendCap bs.size 0 e) (w.tape w.drawn (.appendCap bs.size 0 e))=cap
       have Ah8:bs.size<=cap:=by rw [<- hq];simp [Question.cut]
       generalize Ayv:(bs.data.map λb=>Value.int .u8 b.toNat)++Array.replicate (cap - bs.size) (Value.int .u8 0)=arr
       have BdZ:bs.data.size=bs.size:=rfl
       have Fc:arr.size=cap:=by rw [<- Ayv];simp;omega
       have Vs:h.nx+1<Bq:=hl
       have hfr:σ (h.nx+1)=none:=hf _ om (by show h.nx+1<h.nx+2;omega)
       have hs2:=hs.draw (w.drawn+1)
       have hg:=Ae4 (G:=G) (cs:=U2 (bytesOf bs)) (t:=e) (arr:=arr) (fz:=(arr.size,arr.size+1)) hs2.ai hs2.so hs2.ma Vs (hf _ (Nat.le_refl _) (by show h.nx<h.nx+2;omega)) hfr (by rw [AaY,Gv];omega) (by
        intro i u y hu hy
        have hr:=AaZ σ bs
        have hi:=(List.getElem?_eq_some_iff.1 hu).1
        rw [AaY,Gv] at hi
        refine hr.2 i u y hu ?_
        rw [<- hy,<- Ayv,Array.getElem?_append_left (by simp;omega)]
        simp) (λi hi=>by omega)
       refine ⟨_,.slice (some ⟨w.heap.size,0,none⟩) bs.size cap,_,.inl ?_,?_,Out.draw hg⟩
       . have AyP:(Dd { w with drawn:=w.drawn+1 } (.cells arr e)).shape? w.heap.size=some (e,arr.size):=Aam (F1 { w with drawn:=w.drawn+1 } _)
         have hfz:=Ahx { w with drawn:=w.drawn+1 } arr e arr.size
         have Ay9:(Question.appendCap bs.size 0 e).forced=false:=rfl
         have hch:(choose (.appendCap bs.size 0 e)).run P w=.ok cap { w with drawn:=w.drawn+1 }:=by
          simp only [choose,Sem.run,Ay9,Bool.false_eq_true,if_false,hq]
         have hnr:(newRow e arr).run P { w with drawn:=w.drawn+1 }=.ok ⟨w.heap.size,0,none⟩ (Dd { w with drawn:=w.drawn+1 } (.cells arr e)):=rfl
         have hms:(markStringish ⟨w.heap.size,0,none⟩).run P (Dd { w with drawn:=w.drawn+1 } (.cells arr e))=.ok () (Dd { w with drawn:=w.drawn+1 } (.cells arr e (arr.size,arr.size+1))):=by
          simp only [markStringish,Sem.run_bind,run_shape,Result.andThen_ok,AyP,run_freeze]
          exact congrArg (Result.ok ()) hfz
         simp only [execOp,Rr,convert,Sem.run_bind,run_underlying h1,run_underlying h2,run_underlying h3,Result.andThen_ok,Conv.stringToBytes,hch,Ayv,hnr,hms,Sem.run_pure]
       . rw [hlen]
         exact .sl _ 0 _ _ 1 false ⟨w.heap.size,arr.size,some h.nx⟩ cap (by simp [Gu]) (Nat.le_refl _) Ah8 (λhh=>by cases hh) (λ_=>by simp;omega)
     . cases Ak
   . cases Ak
 . obtain ⟨e,h1,h2,h3⟩:=AjU
   split at Ak
   . rename_i hv
     rw [Ok hv] at hx
     cases hx
     obtain ⟨rfl,rfl⟩:=B4 Ak
     refine ⟨σ,.string .empty,w,.inl ?_,.str ByteArray.empty,Out.refl hs.ai hs.so hs.ma⟩
     simp [execOp,Rr,convert,run_underlying h1,run_underlying h2,run_underlying h3,Conv.bytesToString]
   . rename_i b off len cap sz ex hv
     rw [Ri hv] at hx
     cases hx
     rotate_left
     . rename_i off e1 a cc hb
       split at Ak
       . rename_i c W4
         have Ik:Nf c (off+1) 0=some []\/Nf c (off+1) 0=none:=by
          rw [E5]
          split
          . left;simp
          . right;rfl
         rcases Ik with Ik|Ik
         . rw [Ik] at Ak
           obtain ⟨rfl,rfl⟩:=B4 Ak
           have Du:=run_bytesToString (P:=P) w a 0 cc [] rfl
           refine ⟨σ,.string ByteArray.empty,w,.inl ?_,.str ByteArray.empty,Out.refl hs.ai hs.so hs.ma⟩
           simp only [execOp,Rr,convert,Sem.run_bind,run_underlying h1,run_underlying h2,run_underlying h3,Result.andThen_ok,Du,Sem.run_pure]
           rfl
         . rw [Ik] at Ak
           cases Ak
       . cases Ak
     rename_i e1 cc hb g1 g2 g3 g4
     split at Ak
     . rename_i c W4
       split at Ak
       . rename_i cs Ik
         split at Ak
         . rename_i s2 hoc
           obtain ⟨rfl,rfl⟩:=B4 Ak
           obtain ⟨arr,tt,fz,q1,q2,q3,q4⟩:=No W4 (hs.ma b e1 hb)
           obtain ⟨r1,_,_⟩:=Js Ik
           have Q0:=Uj Ik q4 om
           obtain ⟨r2,r3⟩:=AaQ cs s2 _ hoc Q0
           have hld:=Mo (P:=P) q1 (show off+len<=arr.size by omega)
           rw [r2] at hld
           have Du:=run_bytesToString (P:=P) w ⟨e1.c,off,none⟩ len cc (s2.map Int.ofNat) hld
           refine ⟨σ,.string ((s2.map Int.ofNat).foldl (λr n=>r.push (UInt8.ofNat n.toNat)) ByteArray.empty),w,.inl ?_,?_,Out.refl hs.ai hs.so hs.ma⟩
           . simp only [execOp,Rr,convert,Sem.run_bind,run_underlying h1,run_underlying h2,run_underlying h3,Result.andThen_ok,Du,Sem.run_pure]
           . have e5:=Afo s2 ByteArray.empty r3
             rw [AdA,List.nil_append] at e5
             have:=Au.str (σ:=σ) ((s2.map Int.ofNat).foldl (λr n=>r.push (UInt8.ofNat n.toNat)) ByteArray.empty)
             rw [e5] at this
             exact this
         . cases Ak
       . cases Ak
     . cases Ak
   . cases Ak
 . obtain ⟨e,inf,h1,h2,h3,h4⟩:=AjU
   split at Ak
   . rename_i hv
     rw [Wv hv] at hx
     cases hx
     obtain ⟨rfl,rfl⟩:=B4 Ak
     refine ⟨σ,.pointer none,w,.inl ?_,.Ob,Out.refl hs.ai hs.so hs.ma⟩
     simp [execOp,Rr,convert,run_underlying h1,run_underlying h2,Conv.unsafePointer]
   . rename_i b off hv
     rw [P2 hv] at hx
     cases hx
     rename_i e1 hb
     split at Ak
     . rename_i c W4
       rcases Bl Ak with ⟨B6,Ak⟩|⟨_,Ak⟩
       . obtain ⟨rfl,rfl⟩:=B4 Ak
         have A8G:=Ec B6
         rw [Gh] at A8G
         obtain ⟨arr,tt,fz,q1,q2,q3,q4⟩:=No W4 (hs.ma b e1 hb)
         have O9:w.cell? ⟨e1.c,off,none⟩=some arr[off]:=by rw [Xj q1];exact Array.getElem?_eq_getElem om
         have Du:=run_convert_to_unsafe (P:=P) h1 h2 (by rw [h3];simp [h4]) O9
         refine ⟨σ,.pointer (some ⟨e1.c,off,none⟩),w,.inl ?_,.ptr b off e1 hb,Out.refl hs.ai hs.so hs.ma⟩
         simp [execOp,Rr,Du]
       . cases Ak
     . cases Ak
   . cases Ak
 . rename_i u
   obtain ⟨inf,h1,h2,h3,h4⟩:=AjU;split at Ak;. rename_i hv;rw [Wv hv] at hx;cases hx;obtain ⟨rfl,rfl⟩:=B4 Ak;refine ⟨σ,.pointer none,w,.inl ?_,.Ob,Out.refl hs.ai hs.so hs.ma⟩;simp [execOp,Rr,convert,run_underlying h1,run_underlying h2,Conv.unsafePointer]
   . rename_i b off hv;rw [P2 hv] at hx;cases hx;rename_i e1 hb;split at Ak
     . rename_i c e2 hgb;rcases Bl Ak with ⟨Aq4,Ak⟩|⟨_,Ak⟩
       . obtain ⟨rfl,rfl⟩:=B4 Ak;have Ha:=hs.ma b e1 hb;rw [hgb] at Ha;obtain ⟨arr,lo,hi2,q1,q2,q3,q4,q5,q6⟩:=Ha.2 trivial;have hlen:=q5 rfl;unfold Awp at Aq4;rw [Gh] at Aq4;have Fc:arr.size=c.length:=by omega
         refine ⟨σ,.pointer (some ⟨e1.c,off,none⟩),w,.inl ?_,.ptr b off e1 hb,Out.refl hs.ai hs.so hs.ma⟩;simp [execOp,Rr,convert,run_underlying h1,run_underlying h2,Conv.unsafePointer,Conv.seenAt,viewAt,Aam q1,sizeOf,typeInfo,h3,h4,variablesAt,Fc,Aq4]
       . cases Ak
     . cases Ak
   . cases Ak
 . cases Ak
end ops
end Go.Ev
namespace Go.Ev
variable [Ii]
variable {P:Program} {G:Nat} {σ:Dx} {h h':H} {w w':World} {v:AV} {nt:Nat} {f:L2} {a:Act} {ctx:Ac}
section ops
variable {dst:Option Tmp} {ty:TypeId} {pos:String} {af:Array Edge} {gd:Option (Nat × Bool)}
theorem I3 {kt} {d} (hu:P.underlying kt=some d) (h1:∀m,d≠.interface m) (h2:∀n e,d≠.array n e) (h3:∀fs,d≠.struct fs) e n x w:
 (Instr.checkKey e (n+1) kt x).run P w=.ok () w:=by simp [Instr.checkKey,Sem.run_bind,run_underlying hu,Result.andThen_ok];simp_all
theorem Ak7 {kt:TypeId} (hk:scalar P kt=true):∃d,P.underlying kt=some d/\(∀(x y:AV) (x' y':Value) (b:Bool),aeq P 3 kt x y=some b->Au σ x x'->Au σ y y' ->
 Instr.sameNow d x' y'=some b/\(b=true->Instr.sameBits 10000 y' x'=true))/\(∀(e:Bool) (x':Value) (w:World),(Instr.checkKey e 10000 kt x').run P w=.ok () w):=by
 have hs:=AbD P kt;unfold scalar at hk;cases ht:tk P kt<;>rw [ht] at hk hs<;>first|(cases hk;done)|skip
 . have hu:P.underlying kt=some .bool:=hs;refine ⟨.bool,hu,?_,λe x' w=>I3 hu (by simp) (by simp) (by simp) e 9999 x' w⟩;intro x y x' y' b hq hx hy;have Zb:Dy P (aeq P 2) kt x y=some b:=hq;unfold Dy at Zb;rw [ht] at Zb;dsimp only at Zb;split at Zb
   . rename_i b1 b2 h1 h2;rw [Adn h1] at hx;rw [Adn h2] at hy;cases hx;cases hy;cases Zb;refine ⟨rfl,λhb=>?_⟩;have:b1=b2:=by simpa using hb
     simp [Instr.sameBits,this]
   . cases Zb
 . obtain ⟨k,hu⟩:=hs;refine ⟨.int k,hu,?_,λe x' w=>I3 hu (by simp) (by simp) (by simp) e 9999 x' w⟩;intro x y x' y' b hq hx hy;have Zb:Dy P (aeq P 2) kt x y=some b:=hq;unfold Dy at Zb;rw [ht] at Zb;dsimp only at Zb;split at Zb;. rename_i k1 n1 k2 n2 h1 h2;rw [P1 h1] at hx;rw [P1 h2] at hy;cases hx;cases hy;cases hkk:kEq k1 k2 with
     |false=>simp_all
     |true=>
      rw [hkk] at Zb;have e1:=(Q3 k1 k2).1 hkk;subst e1;cases Zb;rw [Q1];refine ⟨by simp [Instr.sameNow],λhb=>?_⟩;have:n1=n2:=by simpa using hb
      simp [Instr.sameBits,this]
   . cases Zb
 . have hu:P.underlying kt=some .string:=hs;refine ⟨.string,hu,?_,λe x' w=>I3 hu (by simp) (by simp) (by simp) e 9999 x' w⟩;intro x y x' y' b hq hx hy;have Zb:Dy P (aeq P 2) kt x y=some b:=hq;unfold Dy at Zb;rw [ht] at Zb;dsimp only at Zb;split at Zb
   . rename_i s1 s2 h1 h2;rw [Rj h1] at hx;rw [Rj h2] at hy;cases hx;cases hy;cases Zb;rw [U1];refine ⟨by simp [Instr.sameNow,beq_toListBytes],λhb=>?_⟩;rename_i c1 c2;have e1:(c2 == c1)=(c1 == c2):=by rw [beq_toListBytes,beq_toListBytes,Bool.eq_iff_iff];simp_all
     simp only [Instr.sameBits,e1,beq_toListBytes];exact hb
   . cases Zb
theorem AkK {a b:List AV} {a' b':Array Value} (h:Sh b a=true) (ha:Bk σ a a'.toList) (hb:Bk σ b b'.toList):b'=a':=by obtain ⟨rfl,hf⟩:=Xd h;apply Array.ext';apply List.ext_getElem?;intro i;cases hx:b[i]? with
 |none=>
  have h1:b.length<=i:=by simp_all
  have h2:=ha.1;have h3:=hb.1;grind
 |some x=>
  obtain ⟨y,q1,q2⟩:=hb.get hx;obtain ⟨z,q3,q4⟩:=ha.get hx;rw [q1,q3];have hfx:=List.all_eq_true.1 hf x (List.mem_of_getElem? hx);cases x<;>first|(cases hfx;done)|skip
  . cases q2;cases q4;rfl
  . cases q2;cases q4;rfl
  . generalize hs:AV.str _=u at q2 q4;cases q2<;>first|(cases hs;done)|skip;rename_i s1;generalize hs2:AV.str (bytesOf s1)=u at q4;cases q4<;>first|grind|skip;rename_i s2;injection hs2 with h5;have:s1=s2:=by apply ByteArray.ext;apply Array.ext';exact (List.map_inj_right (λx y hxy=>UInt8.toNat_inj.1 hxy)).1 h5
    rw [this]
theorem sameBits_self:∀l l' n,l.all AaA=true->Bk σ l l'->((l'.zip l').all λp=>Instr.sameBits n p.1 p.2)=true:=by intro l;induction l with
 |nil=>intro l' n _ hr;have:=hr.Rt;simp_all
 |cons x l ih=>intro l' n hf hr;obtain ⟨y,l2,rfl,q1,q2⟩:=hr.F8;simp only [List.all_cons,Bool.and_eq_true] at hf;simp only [List.zip_cons_cons,List.all_cons,Bool.and_eq_true];refine ⟨?_,ih _ n hf.2 q2⟩;have hfx:=hf.1;cases q1<;>first|(cases hfx;done)|(simp [Instr.sameBits,beq_toListBytes])
theorem Ai5 {t} (hk:scalar P t=true):∃d,P.underlying t=some d/\(∀m,d≠.interface m)/\(∀n e,d≠.array n e)/\∀fs,d≠.struct fs:=by
 have hs:=AbD P t;unfold scalar at hk;cases ht:tk P t<;>first|simp_all
 . exact ⟨_,hs,by simp,by simp,by simp⟩
 . obtain ⟨k,hu⟩:=hs;simp_all
 . exact ⟨_,hs,by simp,by simp,by simp⟩
theorem Vo {t} (hk:scalar P t=true) e n x w:(Instr.checkKey e (n+1) t x).run P w=.ok () w:=by obtain ⟨d,hu,h1,h2,h3⟩:=Ai5 hk;exact I3 hu h1 h2 h3 e n x w
theorem Tu {α:Type} (g:α->PUnit->Sem _) w:∀(l:List _),(∀x∈l,(g x ⟨⟩).run P w=.ok (.yield ⟨⟩) w)->(forIn l ⟨⟩ g).run P w=.ok ⟨⟩ w:=by intro l;induction l with
 |nil=>simp
 |cons x l ih=>simp_all
structure Apa (P:Program) (σ:Dx) (kt:TypeId) (d:TypeDesc):Prop where
 und:P.underlying kt=some d
 eq:(∀(x y:AV) (x' y':Value) (b:Bool),Gy P kt x y=some b->Au σ x x'->Au σ y y'->Instr.sameNow d x' y'=some b) \/
  ((∀u v,Instr.sameNow d u v=none)/\∀(x y:AV) (x' y':Value) (b:Bool),Gy P kt x y=some b->Au σ x x'->Au σ y y'->∀w,(Op.equal kt x' y').run P w=.ok b w)
 bits:∀(x y:AV) (x' y':Value),Gy P kt x y=some true->Au σ x x'->Au σ y y'->Instr.sameBits 10000 y' x'=true
 chk:∀(x:AV) (x':Value),Fe P kt x=true->Au σ x x'->∀(e:Bool) (w:World),(Instr.checkKey e 10000 kt x').run P w=.ok () w
theorem Qa {kt} {x y} {b} (h:Gy P kt x y=some b):aeq P 3 kt x y=some b/\(b=true->Up P kt x y=true):=by
 unfold Gy at h;split at h;. cases hs:Up P _ x y with
   |false=>simp_all
   |true=>simp_all
 . simp_all
 grind
theorem X9 {kt:TypeId} {x y} {x' y'} (hs:(match vA x,vA y with|.yes a,.yes b=>Sh b a|_,_=>false)=true) (hx:Au σ x x') (hy:Au σ y y'):Instr.sameBits 10000 y' x'=true:=by
 split at hs;. rename_i a b h1 h2;rw [P0 h1] at hx;rw [P0 h2] at hy;cases hx;cases hy;rename_i a' hl hh b' P4 hh2;have hab:=AkK hs ⟨hl,hh⟩ ⟨P4,hh2⟩;obtain ⟨rfl,hf⟩:=Xd hs;have:=sameBits_self b _ 9999 hf ⟨P4,hh2⟩;simp [Instr.sameBits,beq_self_eq_true,Bool.true_and];grind
 grind
theorem AhL {kt:TypeId} (hk:AlK P kt=true):∃d,Apa P σ kt d:=by
 by_cases hsc:scalar P kt=true;. obtain ⟨d,hud,AtH,hck⟩:=Ak7 (P:=P) (σ:=σ) hsc;exact ⟨d,hud,.inl (λx y x' y' b h hx hy=>(AtH x y x' y' b (Qa h).1 hx hy).1),λx y x' y' h hx hy=>(AtH x y x' y' true (Qa h).1 hx hy).2 rfl,λx x' _ _ e w=>hck e x' w⟩
 . have hs:=AbD P kt;have heq:∀(x y:AV) (x' y':Value) (b:Bool),Gy P kt x y=some b->Au σ x x'->Au σ y y'->∀w,(Op.equal kt x' y').run P w=.ok b w:=
    λx y x' y' b h hx hy w=>Zj P σ 3 kt x y b x' y' (Qa h).1 hx hy Op.maxDepth w (by decide);unfold AlK at hk;unfold scalar at hsc;cases ht:tk P kt<;>rw [ht] at hk hsc hs<;>first|(cases hk;done)|(exact absurd rfl hsc)|skip
   . rename_i fs;obtain ⟨l,hu,_,hfs⟩:=hs;refine ⟨.struct l,hu,.inr ⟨λu v=>by simp [Instr.sameNow],heq⟩,?_,?_⟩;. intro x y x' y' h hx hy;have h2:=(Qa h).2 rfl;unfold Up at h2;rw [ht] at h2;exact X9 (kt:=kt) h2 hx hy
     . intro x x' hc hx e w;unfold Fe at hc;rw [ht] at hc;dsimp only at hc;split at hc
       . rename_i cs hv;rw [P0 hv] at hx;cases hx;rename_i D7 hl hh;have key:∀n,(Instr.checkKey e (n+2) kt (.agg D7)).run P w=.ok () w:=by
          intro n;rw [Instr.checkKey];simp only [Sem.run_bind,run_underlying hu,Result.andThen_ok];rw [<- Array.forIn_toList];refine Eq.trans (congrArg (λr=>Result.andThen r (λ_ w'=>Sem.run P (pure ()) w')) (Tu _ w _ (λf hf=>?_))) (by simp);by_cases hn:f.name = "_";. simp [hn]
          . have Vc:(f.type,f.offset)∈fs:=by grind
            have h3:=List.all_eq_true.1 hc _ Vc;rw [Bool.and_eq_true] at h3;obtain ⟨u,hu2⟩:=Option.isSome_iff_exists.1 h3.2;obtain ⟨u',hu',_⟩:=Mp (P:=P) (σ:=σ) hu2 (D7:=D7) ⟨hl,hh⟩ w;simp [hn,hu',Vo h3.1]
         exact key 9998
       . cases hc
   . rename_i n e s;obtain ⟨inf,hu,hi1,hi2⟩:=hs;refine ⟨.array n e,hu,.inr ⟨λu v=>by simp [Instr.sameNow],heq⟩,?_,?_⟩;. intro x y x' y' h hx hy;have h2:=(Qa h).2 rfl;unfold Up at h2;rw [ht] at h2;exact X9 (kt:=kt) h2 hx hy
     . intro x x' hc hx e' w;unfold Fe at hc;rw [ht] at hc;dsimp only at hc;split at hc
       . rename_i cs hv;rw [P0 hv] at hx;cases hx;rename_i D7 hl hh;rw [Bool.and_eq_true] at hc;have key:∀m,(Instr.checkKey e' (m+2) kt (.agg D7)).run P w=.ok () w:=by
          intro m;rw [Instr.checkKey];simp only [Sem.run_bind,run_underlying hu,Result.andThen_ok];rw [Std.Legacy.Range.forIn_eq_forIn_range'];refine Eq.trans (congrArg (λr=>Result.andThen r (λ_ w'=>Sem.run P (pure ()) w')) (Tu _ w _ (λi hi=>?_))) (by simp);have Wj:i<n:=by simp_all
          have h3:=List.all_eq_true.1 hc.2 i (List.mem_range.2 Wj);obtain ⟨u,hu2⟩:=Option.isSome_iff_exists.1 h3;obtain ⟨u',hu',_⟩:=Mp (P:=P) (σ:=σ) hu2 (D7:=D7) ⟨hl,hh⟩ w;have Fc:(sizeOf e).run P w=.ok s w:=by simp [sizeOf,typeInfo,hi1,hi2]
          simp [Fc,hu',Vo hc.1]
         exact key 9998
       . cases hc
def Kp (σ:Dx) (es:List (AV × AV)) (l:List MapEntry):Prop:=
 es.length=l.length/\∀(i:Nat) (x:AV × AV) (y:MapEntry),es[i]?=some x->l[i]?=some y->Au σ x.1 y.key/\Au σ x.2 y.val
theorem Kp.F8 {x:AV × AV} {es:List (AV × AV)} {l:List MapEntry} (hr:Kp σ (x::es) l):∃y l',l=y::l'/\Au σ x.1 y.key/\Au σ x.2 y.val/\Kp σ es l':=by
 cases l with
 |nil=>have:=hr.1;simp at this
 |cons y l'=>
  have h0:=hr.2 0 x y (by simp) (by simp)
  refine ⟨y,l',rfl,h0.1,h0.2,by have:=hr.1;simpa using this,λi u z hu hz=>hr.2 (i+1) u z (by simpa using hu) (by simpa using hz)⟩
theorem Kp.cons {x:AV × AV} {y:MapEntry} {es:List (AV × AV)} {l:List MapEntry} (h1:Au σ x.1 y.key) (h2:Au σ x.2 y.val) (hr:Kp σ es l):Kp σ (x::es) (y::l):=by
 refine ⟨by simp [hr.1],λi u z hu hz=>?_⟩
 cases i with
 |zero=>simp at hu hz;subst hu;subst hz;exact ⟨h1,h2⟩
 |succ i=>simp at hu hz;exact hr.2 i u z hu hz
def Qo (P:Program) (kt:TypeId) (k':Value) (l:List MapEntry) (r:Option (Nat × Value)):Prop:=∀w,(Instr.findKey kt k' l).run P w=.ok r w
theorem Xr {d:TypeDesc} {kt:TypeId} (hu:P.underlying kt=some d) {k':Value} {l:List MapEntry} {r:Option (Nat × Value)} (h:Instr.findNow d k' l 0=some r):Qo P kt k' l r:=by
 intro w
 simp [Instr.findKey,run_underlying hu,h]
theorem Xq {d:TypeDesc} {kt:TypeId} (hu:P.underlying kt=some d) (hno:∀u v,Instr.sameNow d u v=none) {k':Value} {l:List MapEntry} {r:Option (Nat × Value)} (h:∀w,(Instr.findAsking kt k' l 0).run P w=.ok r w):Qo P kt k' l r:=by
 intro w
 cases l with
 |nil=>
  have:=h w
  simp only [Instr.findAsking,Sem.run_pure] at this
  simp [Instr.findKey,run_underlying hu,Instr.findNow,this]
 |cons e l=>
  have hn:Instr.findNow d k' (e::l) 0=none:=by simp [Instr.findNow,hno]
  simp only [Instr.findKey,Sem.run_bind,run_underlying hu,Result.andThen_ok,hn]
  exact h w
theorem Anv {eq} {d} {k'} (hq:∀y y' b,eq y=some b->Au σ y y'->Instr.sameNow d k' y'=some b):
 ∀es l i r,M1 eq es=some r->Kp σ es l ->
  match r with
  |some x=>∃j y,Instr.findNow d k' l i=some (some (j,y))/\Au σ x y
  |none=>Instr.findNow d k' l i=some none:=by intro es;induction es with
 |nil=>
  intro l i r hr he;have:l=[]:=by have:=he.1;grind
  subst this;cases hr;rfl
 |cons x es ih=>
  intro l i r hr he;obtain ⟨y,l',rfl,h1,h2,h3⟩:=he.F8;simp [M1] at hr;split at hr;. rename_i hb;cases hr;have:=hq _ _ _ hb h1;exact ⟨i,_,by simp [Instr.findNow,this],h2⟩
  . rename_i hb;have h4:=hq _ _ _ hb h1;have h5:=ih _ (i+1) r hr h3;cases r with
    |none=>simp [Instr.findNow,h4];grind
    |some u=>simp [Instr.findNow,h4];omega
  grind
theorem Anu {eq:AV->Option Bool} {kt:TypeId} {k':Value} (hq:∀(y:AV) (y':Value) (b:Bool),eq y=some b->Au σ y y'->∀w,(Op.equal kt k' y').run P w=.ok b w):
 ∀(es:List (AV × AV)) (l:List MapEntry) (i:Nat) (r),M1 eq es=some r->Kp σ es l ->
  match r with
  |some x=>∃j y,(∀w,(Instr.findAsking kt k' l i).run P w=.ok (some (j,y)) w)/\Au σ x y
  |none=>∀w,(Instr.findAsking kt k' l i).run P w=.ok none w:=by intro es;induction es with
 |nil=>
  intro l i r hr he;have:l=[]:=by have:=he.1;grind
  subst this;cases hr;intro w;rfl
 |cons x es ih=>
  intro l i r hr he;obtain ⟨y,l',rfl,h1,h2,h3⟩:=he.F8;simp [M1] at hr;split at hr;. rename_i hb;cases hr;have:=hq _ _ _ hb h1;exact ⟨i,_,λw=>by simp [Instr.findAsking,this],h2⟩
  . rename_i hb;have h4:=hq _ _ _ hb h1;have h5:=ih _ (i+1) r hr h3;cases r with
    |none=>simp [Instr.findAsking,Sem.run_bind,h4,Result.andThen_ok,Bool.false_eq_true,if_false];grind
    |some u=>obtain ⟨j,z,q1,q2⟩:=h5;exact ⟨j,z,λw=>by simp [Instr.findAsking,Sem.run_bind,h4,Result.andThen_ok,Bool.false_eq_true,if_false];grind,q2⟩
  grind
theorem Anw {kt} {d} (ks:Apa P σ kt d) {k} {k'} (hk:Au σ k k') es l r (hr:M1 (Gy P kt k) es=some r) (he:Kp σ es l):
 match r with
 |some x=>∃j y,Qo P kt k' l (some (j,y))/\Au σ x y
 |none=>Qo P kt k' l none:=by
 rcases ks.eq with hq|⟨hno,hq⟩;. have:=Anv (λy y' b hb=>hq k y _ _ b hb hk) _ l 0 r hr he;cases r with
   |none=>exact Xr ks.und this
   |some x=>obtain ⟨j,y,q1,q2⟩:=this;exact ⟨j,y,Xr ks.und q1,q2⟩
 . have:=Anu (λy y' b hb=>hq k y _ _ b hb hk) _ l 0 r hr he;cases r with
   |none=>exact Xq ks.und hno this
   |some x=>obtain ⟨j,y,q1,q2⟩:=this;exact ⟨j,y,Xq ks.und hno q1,q2⟩
theorem AcG {t:TypeId} {mi:MI} (hh:AlU P t=some mi):∃et,P.underlying t=some (.map mi.kt et)/\Ps P et=some mi.z/\AlK P mi.kt=true:=by
 unfold AlU at hh
 split at hh
 . rename_i kt et hu
   split at hh
   . rename_i z hz hk
     cases hh
     exact ⟨et,hu,hz,hk⟩
   . cases hh
 . cases hh
theorem Af1 (t:TypeId) (x i:Operand) (ok:Bool):R5 P G ⟨dst,.lookup t x i ok,ty,pos,af,gd⟩:=by
 intro σ nt f a h h' w v ctx he De hs hl hf
 simp [Op.operands] at De
 have hx:=Cj hs.fr hs.gl x De.1
 have hi:=Cj hs.fr hs.gl i De.2
 have Ak:Pe t x i ok ty P ctx f h=.ok v h':=he
 unfold Pe at Ak
 split at Ak
 . rename_i mi es hmi hes
   obtain ⟨et,hu,hz,hsc⟩:=AcG hmi
   obtain ⟨inf,z',hi1,hzz,hzr⟩:=Ud σ hz
   obtain ⟨d,ks⟩:=AhL (P:=P) (σ:=σ) hsc
   have A81:∃l:List MapEntry,Kp σ es l/\((a.eval x=.map none/\l=[])\/∃c clock,a.eval x=.map (some c)/\w.heap[c]?=some (.map l.toArray clock)):=by
    unfold entries at hes
    generalize a.eval x=xx at *
    split at hes
    . rename_i hv
      rw [Ado hv] at hx
      cases hx;cases hes
      exact ⟨[],⟨rfl,λi u y hu _=>by simp at hu⟩,.inl ⟨rfl,rfl⟩⟩
    . rename_i r hv
      rw [Ago hv] at hx
      cases hx
      rename_i e hb
      split at hes
      . rename_i es2 hgb
        cases hes
        have Ha:=hs.ma r e hb
        rw [hgb] at Ha
        obtain ⟨_,Y8,clock,q1,q2,q3⟩:=Ha
        exact ⟨Y8.toList,⟨q2,q3⟩,.inr ⟨e.c,clock,rfl,by simpa using q1⟩⟩
      . cases hes
    . cases hes
   obtain ⟨l,hel,hx2⟩:=A81
   have run:∀(r:Option AV),(Bool.rec (motive:=λ_=>Option (Option AV)) none (M1 (Gy P mi.kt (ev i f)) es) (Fe P mi.kt (ev i f)):Option (Option AV))=some r->∃z v1,(match r with|some u=>Au σ u v1/\z=true|none=>Au σ mi.z v1/\z=false) /\
    (Instr.lookup t (a.eval x) (a.eval i) ok).run P w=.ok (if ok then .tuple #[v1,.bool z] else v1) w:=by
    intro r hr0
    have hr1:Fe P mi.kt (ev i f)=true/\M1 (Gy P mi.kt (ev i f)) es=some r:=by
     cases hq:Fe P mi.kt (ev i f) with
     |false=>rw [hq] at hr0;cases hr0
     |true=>rw [hq] at hr0;exact ⟨rfl,hr0⟩
    obtain ⟨hkc,hr⟩:=hr1
    have hck:=ks.chk _ _ hkc hi
    have hm:=Anw ks hi es l r hr hel
    cases r with
    |none=>
     have hm':Qo P mi.kt (a.eval i) l none:=hm
     refine ⟨false,z',⟨hzr,rfl⟩,?_⟩
     rcases hx2 with ⟨Rr,rfl⟩|⟨c,clock,Rr,hc⟩
     . simp only [Instr.lookup,Rr,Sem.run_bind,run_underlying hu,Result.andThen_ok,Sem.run_pure,hck,List.toList_toArray,hm' _,zeroValue,typeInfo,run_program,hi1,hzz]
     . have Vr:(getObj c).run P w=.ok (.map l.toArray clock) w:=by simp [getObj,Sem.run,hc]
       simp only [Instr.lookup,Rr,Sem.run_bind,run_underlying hu,Result.andThen_ok,Vr,Sem.run_pure,hck,List.toList_toArray,hm' _,zeroValue,typeInfo,run_program,hi1,hzz]
    |some u=>
     obtain ⟨j,y,hj,hy⟩:=hm
     refine ⟨true,y,⟨hy,rfl⟩,?_⟩
     rcases hx2 with ⟨Rr,rfl⟩|⟨c,clock,Rr,hc⟩
     . have:=hj w;simp [Instr.findKey,run_underlying ks.und,Instr.findNow] at this
     . have Vr:(getObj c).run P w=.ok (.map l.toArray clock) w:=by simp [getObj,Sem.run,hc]
       simp only [Instr.lookup,Rr,Sem.run_bind,run_underlying hu,Result.andThen_ok,Vr,Sem.run_pure,hck,List.toList_toArray,hj _]
   split at Ak
   . rename_i u hr
     obtain ⟨z,v1,⟨h1,rfl⟩,h2⟩:=run _ hr
     obtain ⟨rfl,rfl⟩:=B4 Ak
     refine ⟨σ,_,w,.inl (by simp [execOp,h2];rfl),?_,Out.refl hs.ai hs.so hs.ma⟩
     cases ok
     . exact h1
     . exact Ass h1 (.bool true)
   . rename_i hr
     obtain ⟨z,v1,⟨h1,rfl⟩,h2⟩:=run _ hr
     obtain ⟨rfl,rfl⟩:=B4 Ak
     refine ⟨σ,_,w,.inl (by simp [execOp,h2];rfl),?_,Out.refl hs.ai hs.so hs.ma⟩
     cases ok
     . exact h1
     . exact Ass h1 (.bool false)
   . cases Ak
 . cases Ak
theorem Ari {eq:AV->Option Bool} {d:TypeDesc} {k x:AV} {k' x':Value} (hk:Au σ k k') (hx:Au σ x x') (clock:Nat)
 (hq:∀(y:AV) (y':Value) (b:Bool),eq y=some b->Au σ y y'->Instr.sameNow d k' y'=some b/\(b=true->Instr.sameBits 10000 y' k'=true)):
 ∀(es es2:List (AV × AV)) (l:List MapEntry) (i:Nat),Z7 eq k x es=some es2->Kp σ es l ->
  (∃j y e,Instr.findNow d k' l i=some (some (i+j,y))/\l[j]?=some e/\Instr.sameBits 10000 e.key k'=true/\Kp σ es2 (l.set j { e with key:=k',val:=x' })) \/
  (Instr.findNow d k' l i=some none/\Kp σ es2 (l++[{ key:=k',val:=x',born:=clock }])):=by
 intro es
 induction es with
 |nil=>
  intro es2 l i hm he
  have:l=[]:=by have:=he.1;cases l;rfl;simp at this
  subst this
  cases hm
  exact .inr ⟨rfl,Kp.cons hk hx ⟨rfl,λi u y hu _=>by simp at hu⟩⟩
 |cons e0 es ih=>
  intro es2 l i hm he
  obtain ⟨y,l',rfl,h1,h2,h3⟩:=he.F8
  simp only [Z7] at hm
  split at hm
  . rename_i hb
    cases hm
    obtain ⟨q1,q2⟩:=hq e0.1 y.key true hb h1
    exact .inl ⟨0,y.val,y,by simp [Instr.findNow,q1],by simp,q2 rfl,Kp.cons hk hx h3⟩
  . rename_i hb
    obtain ⟨q1,_⟩:=hq e0.1 y.key false hb h1
    split at hm
    . rename_i r hr
      cases hm
      rcases ih r l' (i+1) hr h3 with ⟨j,z,e,g1,g2,g3,g4⟩|⟨g1,g2⟩
      . refine .inl ⟨j+1,z,e,?_,by simpa using g2,g3,?_⟩
        . simp only [Instr.findNow,q1]
          rw [g1]
          congr 3
          omega
        . simp only [List.set_cons_succ]
          exact Kp.cons h1 h2 g4
      . refine .inr ⟨?_,Kp.cons h1 h2 g2⟩
        simp only [Instr.findNow,q1]
        exact g1
    . cases hm
  . cases hm
theorem Arh {eq:AV->Option Bool} {kt:TypeId} {k x:AV} {k' x':Value} (hk:Au σ k k') (hx:Au σ x x') (clock:Nat)
 (hq:∀(y:AV) (y':Value) (b:Bool),eq y=some b->Au σ y y'->(∀w,(Op.equal kt k' y').run P w=.ok b w)/\(b=true->Instr.sameBits 10000 y' k'=true)):
 ∀(es es2:List (AV × AV)) (l:List MapEntry) (i:Nat),Z7 eq k x es=some es2->Kp σ es l ->
  (∃j y e,(∀w,(Instr.findAsking kt k' l i).run P w=.ok (some (i+j,y)) w)/\l[j]?=some e/\Instr.sameBits 10000 e.key k'=true/\Kp σ es2 (l.set j { e with key:=k',val:=x' })) \/
  ((∀w,(Instr.findAsking kt k' l i).run P w=.ok none w)/\Kp σ es2 (l++[{ key:=k',val:=x',born:=clock }])):=by
 intro es
 induction es with
 |nil=>
  intro es2 l i hm he
  have:l=[]:=by have:=he.1;cases l;rfl;simp at this
  subst this
  cases hm
  exact .inr ⟨λw=>by simp [Instr.findAsking],Kp.cons hk hx ⟨rfl,λi u y hu _=>by simp at hu⟩⟩
 |cons e0 es ih=>
  intro es2 l i hm he
  obtain ⟨y,l',rfl,h1,h2,h3⟩:=he.F8
  simp only [Z7] at hm
  split at hm
  . rename_i hb
    cases hm
    obtain ⟨q1,q2⟩:=hq e0.1 y.key true hb h1
    exact .inl ⟨0,y.val,y,λw=>by simp [Instr.findAsking,q1],by simp,q2 rfl,Kp.cons hk hx h3⟩
  . rename_i hb
    obtain ⟨q1,_⟩:=hq e0.1 y.key false hb h1
    split at hm
    . rename_i r hr
      cases hm
      rcases ih r l' (i+1) hr h3 with ⟨j,z,e,g1,g2,g3,g4⟩|⟨g1,g2⟩
      . refine .inl ⟨j+1,z,e,?_,by simpa using g2,g3,?_⟩
        . intro w
          simp only [Instr.findAsking,Sem.run_bind,q1,Result.andThen_ok,Bool.false_eq_true,if_false]
          rw [g1 w,show i+1+j=i+(j+1) by omega]
        . simp only [List.set_cons_succ]
          exact Kp.cons h1 h2 g4
      . refine .inr ⟨?_,Kp.cons h1 h2 g2⟩
        intro w
        simp only [Instr.findAsking,Sem.run_bind,q1,Result.andThen_ok,Bool.false_eq_true,if_false]
        exact g1 w
    . cases hm
  . cases hm
theorem Arj {kt:TypeId} {d:TypeDesc} (ks:Apa P σ kt d) {k x:AV} {k' x':Value} (hk:Au σ k k') (hx:Au σ x x') (clock:Nat) (es es2:List (AV × AV)) (l:List MapEntry) (hm:Z7 (Gy P kt k) k x es=some es2) (he:Kp σ es l):
 (∃j y e,Qo P kt k' l (some (j,y))/\l[j]?=some e/\Instr.sameBits 10000 e.key k'=true/\Kp σ es2 (l.set j { e with key:=k',val:=x' })) \/
  (Qo P kt k' l none/\Kp σ es2 (l++[{ key:=k',val:=x',born:=clock }])):=by
 rcases ks.eq with hq|⟨hno,hq⟩
 . rcases Ari (σ:=σ) (d:=d) hk hx clock (λy y' b hb hy=>⟨hq k y k' y' b hb hk hy,λhb'=>by subst hb';exact ks.bits k y k' y' hb hk hy⟩) es es2 l 0 hm he with ⟨j,y,e,g1,g2⟩|⟨g1,g2⟩
   . rw [Nat.zero_add] at g1
     exact .inl ⟨j,y,e,Xr ks.und g1,g2⟩
   . exact .inr ⟨Xr ks.und g1,g2⟩
 . rcases Arh (σ:=σ) (P:=P) (kt:=kt) hk hx clock (λy y' b hb hy=>⟨hq k y k' y' b hb hk hy,λhb'=>by subst hb';exact ks.bits k y k' y' hb hk hy⟩) es es2 l 0 hm he with ⟨j,y,e,g1,g2⟩|⟨g1,g2⟩
   . simp only [Nat.zero_add] at g1
     exact .inl ⟨j,y,e,Xq ks.und hno g1,g2⟩
   . exact .inr ⟨Xq ks.und hno g1,g2⟩
theorem AhZ (t:TypeId) (m k x:Operand) {ctx:Ac} (he:E6 t m k x ty P ctx f h=.ok v h') (h1:Es G m=true) (h2:Es G k=true) (h3:Es G x=true) (hs:St G σ nt f a h w):
 ∃w',(Instr.mapUpdate t (a.eval m) (a.eval k) (a.eval x)).run P w=.ok () w'/\v=.Bj []/\Out G σ h w σ h' w':=by
 have hm:=Cj hs.fr hs.gl m h1
 have hk:=Cj hs.fr hs.gl k h2
 have hx:=Cj hs.fr hs.gl x h3
 unfold E6 at he
 split at he
 . rename_i mi r hmi hvm
   obtain ⟨et,hu,hz,hsc⟩:=AcG hmi
   obtain ⟨d,ks⟩:=AhL (P:=P) (σ:=σ) hsc
   rw [Ago hvm] at hm
   generalize hmm:a.eval m=mm at *
   cases hm
   rename_i e hb
   split at he
   . rename_i es hgb
     split at he
     . rename_i es2 AtM
       have A8J:Fe P mi.kt (ev k f)=true/\Z7 (Gy P mi.kt (ev k f)) (ev k f) (ev x f) es=some es2:=by
        cases hq:Fe P mi.kt (ev k f) with
        |false=>rw [hq] at AtM;cases AtM
        |true=>rw [hq] at AtM;exact ⟨rfl,AtM⟩
       obtain ⟨hkc,hms⟩:=A8J
       have hck:=ks.chk _ _ hkc hk
       obtain ⟨rfl,rfl⟩:=B4 he
       have Ha:=hs.ma r e hb
       rw [hgb] at Ha
       obtain ⟨hek,Y8,clock,q1,q2,q3⟩:=Ha
       have Vr:(getObj e.c).run P w=.ok (.map Y8 clock) w:=by simp [getObj,Sem.run,q1]
       have hso:∀o,(setObj e.c o).run P w=.ok () (Cc w e.c o):=λo=>by simp [setObj,Sem.run,q1,Cc]
       have A38:=Arj ks hk hx clock es es2 Y8.toList hms ⟨q2,q3⟩
       have fin:∀es3:Array MapEntry,∀cl,Kp σ es2 es3.toList->Out G σ h w σ (h.put r (.map es2)) (Cc w e.c (.map es3 cl)):=by
        intro es3 cl her
        refine Hh hs.ai hs.so hs.ma hb hgb (by simp) (by simp) rfl rfl hek (by simp) ?_
        exact ⟨hek,es3,cl,by rw [Da,if_pos ⟨rfl,Dj q1⟩],her.1,her.2⟩
       rcases A38 with ⟨j,y,e0,g1,g2,g3,g4⟩|⟨g1,g2⟩
       . have hje:Y8[j]?=some e0:=by simpa using g2
         refine ⟨Cc w e.c (.map (Y8.modify j λe=>{ e with key:=a.eval k,val:=a.eval x }) clock),?_,rfl,fin _ _ ?_⟩
         . have hks:(Instr.keyThatStays e0.key (a.eval k)).run P w=.ok (a.eval k) w:=by simp [Instr.keyThatStays,g3]
           simp only [Instr.mapUpdate,Sem.run_bind,run_underlying hu,Result.andThen_ok,Vr,hck,g1 _,Sem.run_pure,hje,Option.map_some,Option.getD_some,hks,hso]
         . have:(Y8.modify j λe=>{ e with key:=a.eval k,val:=a.eval x }).toList=Y8.toList.set j { e0 with key:=a.eval k,val:=a.eval x }:=by
            apply List.ext_getElem?
            intro q
            rw [Array.getElem?_toList,Array.getElem?_modify,List.getElem?_set]
            by_cases hq:j=q
            . subst hq
              have B6:j<Y8.toList.length:=(List.getElem?_eq_some_iff.1 g2).1
              simp [hje]
              simpa using B6
            . simp [hq]
           rw [this]
           exact g4
       . refine ⟨Cc w e.c (.map (Y8.push { key:=a.eval k,val:=a.eval x,born:=clock }) (clock+1)),?_,rfl,fin _ _ ?_⟩
         . simp only [Instr.mapUpdate,Sem.run_bind,run_underlying hu,Result.andThen_ok,Vr,hck,g1 _,Sem.run_pure,hso]
         . rw [Array.toList_push];exact g2
     . cases he
   . cases he
 . cases he
theorem Abi (t:TypeId) (m k x:Operand):R5 P G ⟨dst,.mapUpdate t m k x,ty,pos,af,gd⟩:=by
 intro σ nt f a h h' w v ctx he De hs hl hf
 simp [Op.operands] at De
 obtain ⟨w',h1,rfl,h2⟩:=AhZ (P:=P) (ty:=ty) (ctx:=ctx) t m k x he De.1 De.2.1 De.2.2 hs
 exact ⟨σ,undef,w',.inr ⟨by simp [execOp,h1],rfl⟩,L6 σ,h2⟩
theorem Af0 (t:TypeId) (m k x:Operand):R5 P G ⟨dst,.insert t m k x,ty,pos,af,gd⟩:=by
 intro σ nt f a h h' w v ctx he De hs hl hf
 simp [Op.operands] at De
 obtain ⟨w',h1,rfl,h2⟩:=AhZ (P:=P) (ty:=ty) (ctx:=ctx) t m k x he De.1 De.2.1 De.2.2 hs
 exact ⟨σ,undef,w',.inr ⟨by simp [execOp,h1],rfl⟩,L6 σ,h2⟩
end ops
end Go.Ev
namespace Go.Ev
variable [Ii]
variable {P:Program} {G:Nat} {σ:Dx} {h h':H} {w w':World} {v:AV} {nt:Nat} {f:L2} {a:Act} {ctx:Ac}
structure Ms (G:Nat) (σ:Dx) (h:H) (w:World):Prop where
 ai:Om h
 so:SOk σ w
 ma:V1 G σ h.m.get w
theorem Ms.draw (hs:Ms G σ h w) (n:Nat):Ms G σ h { w with drawn:=n }:=⟨hs.ai,⟨hs.so.inj,hs.so.rng,hs.so.low⟩,λb e hb=>Gr.congr (Qq.refl σ) rfl (λ_ _ _ _ _ hh=>hh) (hs.ma b e hb)⟩
theorem Amk {s n:Nat} {x:AV} {y:Value} {new:List AV} (F6:Hd h s x=some (n,new)) (hx:Au σ x y) (hs:Ms G σ h w):
 (∀w',(Builtin.lenOf y).run P w'=.ok n w')/\∃l:List Value,Bk σ new l/\l.length=n * s/\∀k,k<=n->∀w',w'.heap=w.heap->∃l',(Builtin.firstCells s k y).run P w'=.ok l' w'/\l'.toList=l.take (k * s):=by
 unfold Hd at F6
 split at F6
 . rename_i hv
   rw [Ok hv] at hx
   cases hx;cases F6
   exact ⟨λ_=>rfl,[],Bk.nil σ,by simp,λk hk w' _=>⟨#[],rfl,by simp⟩⟩
 . rename_i b off len cap sz ex hv
   rw [Ri hv] at hx
   cases hx
   rotate_left
   . rename_i off e a cc hb
     split at F6
     . rename_i c W4
       have e0:0 * s=0:=Nat.zero_mul s
       rw [e0] at F6
       have Na:n=0/\new=[]:=by
        rw [E5] at F6
        split at F6
        . simp at F6;exact ⟨F6.1.symm,F6.2⟩
        . cases F6
       obtain ⟨rfl,rfl⟩:=Na
       refine ⟨λ_=>rfl,[],Bk.nil σ,by simp,λk hk w' _=>⟨#[],?_,by simp⟩⟩
       have hk0:k=0:=by omega
       subst hk0
       simp [Builtin.firstCells]
       rfl
     . cases F6
   rename_i e cc hb g1 g2 g3 g4
   split at F6
   . rename_i c W4
     cases Ik:Nf c off (len * s) with
     |none=>simp [Ik] at F6
     |some r=>
      simp [Ik] at F6
      obtain ⟨rfl,rfl⟩:=F6
      obtain ⟨arr,tt,fz,q1,q2,q3,q4⟩:=No W4 (hs.ma b e hb)
      obtain ⟨r1,_,r3⟩:=Js Ik
      have Q0:=Uj Ik q4 om
      refine ⟨λ_=>rfl,_,Q0,by have:=Q0.1;omega,λk hk w' hw'=>?_⟩
      have hks:k * s<=len * s:=Nat.mul_le_mul_right s hk
      refine ⟨((arr.toList.drop off).take (k * s)).toArray,?_,?_⟩
      . exact Mo (P:=P) (by rw [hw'];exact q1) om
      . simp [List.take_take,Nat.min_eq_left hks]
   . cases F6
 . split at F6
   . rename_i s2 hv
     rw [Rj hv] at hx
     cases hx
     rename_i bs
     cases hq:Nat.beq s 1 with
     |false=>rw [hq] at F6;cases F6
     |true=>
      rw [hq] at F6
      have e1:=Ch hq
      subst e1
      cases F6
      have hlen:Y2 (bytesOf bs)=bs.size:=by rw [Rf,Gv]
      rw [hlen]
      refine ⟨λ_=>rfl,_,AaZ σ bs,by rw [Array.length_toList,Array.size_map,Nat.mul_one];rfl,λk hk w' _=>⟨_,rfl,?_⟩⟩
      simp only [Array.toList_map,Nat.mul_one,List.map_take]
      rw [ByteArray.data_extract,Array.toList_extract]
      simp [List.map_take]
   . cases F6
theorem AmK (AcN:Nat):∀(r c:Nat),c<AcN->Builtin.growBy AcN r c<=AcN+(AcN+768) / 4:=by
 intro r
 induction r with
 |zero=>intro c hc;simp [Builtin.growBy];omega
 |succ r ih=>
  intro c hc
  simp only [Builtin.growBy]
  rw [if_neg om]
  by_cases h2:c+(c+768) / 4<AcN
  . exact ih _ h2
  . cases r with
    |zero=>simp [Builtin.growBy];omega
    |succ r=>simp only [Builtin.growBy];rw [if_pos om];omega
theorem Akr (Nh Cf:Nat) (B6:Cf<Nh):Builtin.nextslicecap Nh Cf<=2 * Nh+200:=by
 unfold Builtin.nextslicecap
 split
 . omega
 . split
   . omega
   . have:=AmK Nh 4 Cf B6;omega
theorem Adv (z:Array Value) (n:Nat):(Builtin.zeroCells z n).size=n * z.size:=by simp [Builtin.zeroCells]
theorem Qs {ts:Array TypeId} {ty st t2:TypeId} {i:SI} {inf:TypeInfo} {zz:Value} {s' x':Value} {base:Option Addr} {len cap n:Nat} {Cf new:Array Value}
 (ht:ts[0]?=some st) (ht2:ts[1]?=some t2) (hni:Aab P t2=true) (hu:P.underlying st=some (.slice i.e)) (hi:P.info? i.e=some inf) (Fc:inf.size=i.s) (hby:inf.bytes=i.bytes) (hzz:inf.zero=some zz)
 (hs:s'=.slice base len cap) (hlen:∀w',(Builtin.lenOf x').run P w'=.ok n w') (B6:cap<len+n) (hsm:(len+n) * (i.bytes+1)<1000000000000)
 (hold:∀w',w'.heap=w.heap->(Builtin.firstCells i.s len s').run P w'=.ok Cf w') (Na:∀w',w'.heap=w.heap->(Builtin.firstCells i.s n x').run P w'=.ok new w'):
 ∃nc,len+n<=nc/\(Builtin.append_ ts ty #[s',x']).run P w=.ok (.slice (some ⟨w.heap.size,0,none⟩) (len+n) nc) (Dd { w with drawn:=w.drawn+1 } (.cells (Cf++new++Builtin.zeroCells zz.cells (nc - (len+n))) i.e)):=by
 subst hs
 generalize hq:Question.cut (.appendCap (len+n) cap i.e) (w.tape w.drawn (.appendCap (len+n) cap i.e))=nc
 have Ah8:len+n<=nc:=by rw [<- hq];simp [Question.cut]
 refine ⟨nc,Ah8,?_⟩
 have hzero:∃d,P.underlying t2=some d/\∀k,d≠.int k:=by
  unfold Aab at hni
  cases hd:P.underlying t2 with
  |none=>rw [hd] at hni;cases hni
  |some d=>exact ⟨_,rfl,λk hk=>by rw [hd,hk] at hni;cases hni⟩
 obtain ⟨d,hd,hdi⟩:=hzero
 have Bb2:len+n<=(len+n) * (i.bytes+1):=Nat.le_mul_of_pos_right _ om
 have hb:(len+n) * i.bytes<=(len+n) * (i.bytes+1):=Nat.mul_le_mul_left _ om
 have hnc:=Akr (len+n) cap B6
 have Bea:i.bytes<=1000000000000:=by
  rcases Nat.eq_zero_or_pos (len+n) with h0|h0
  . omega
  . have:i.bytes+1<=(len+n) * (i.bytes+1):=Nat.le_mul_of_pos_left _ h0
    omega
 have hmul:Builtin.nextslicecap (len+n) cap * i.bytes<=(2 * (len+n)+200) * i.bytes:=Nat.mul_le_mul_right _ hnc
 have Bb1:(2 * (len+n)+200) * i.bytes=2 * ((len+n) * i.bytes)+200 * i.bytes:=by rw [Nat.add_mul,Nat.mul_assoc]
 have c1:¬ (((len+n:Nat):Int) > IntKind.i64.max):=by
  have:IntKind.i64.max=9223372036854775807:=by decide
  rw [this];omega
 have c2:¬ (Builtin.nextslicecap (len+n) cap * i.bytes > 2 ^ 48):=by omega
 have Ay9:(Question.appendCap (len+n) cap i.e).forced=false:=rfl
 have hch:(choose (.appendCap (len+n) cap i.e)).run P w=.ok nc { w with drawn:=w.drawn+1 }:=by
  simp only [choose,Sem.run,Ay9,Bool.false_eq_true,if_false,hq]
 have hso:∀w',(sizeOf i.e).run P w'=.ok i.s w':=λw'=>by simp [sizeOf,typeInfo,hi,Fc]
 have hti:∀w',(typeInfo i.e).run P w'=.ok inf w':=λw'=>by simp [typeInfo,hi]
 have hzv:∀w',(zeroValue i.e).run P w'=.ok zz w':=λw'=>by simp [zeroValue,hti,hzz]
 have ho:=hold { w with drawn:=w.drawn+1 } rfl
 have hn:=Na { w with drawn:=w.drawn+1 } rfl
 have hud:(underlying t2).run P w=.ok d w:=run_underlying hd w
 simp only [Builtin.append_,ht,ht2,List.getElem?_toArray,List.getElem?_cons_zero,List.getElem?_cons_succ,Sem.run_bind,run_underlying hu,Result.andThen_ok,hso,hud,Sem.run_pure,Bool.false_eq_true,if_false,hlen,if_neg (Nat.not_le_of_lt B6)]
 have c3:¬ (Builtin.nextslicecap (len+n) cap * inf.bytes > 2 ^ 48):=by rw [hby];exact c2
 split
 . simp only [Bool.not_false,if_true,hlen,Sem.run_bind,Result.andThen_ok,if_neg (Nat.not_le_of_lt B6),c1,false_and,if_false,hti,c3,hch,run_askRoom,ho,hn,hzv,newRow]
   rfl
 . rename_i hz
   exact absurd rfl hz
theorem Ug {ts:Array TypeId} {ty st t2:TypeId} {i:SI} {inf:TypeInfo} {s' x':Value} {base:Option Addr} {len cap n:Nat} {new:Array Value}
 (ht:ts[0]?=some st) (ht2:ts[1]?=some t2) (hni:Aab P t2=true) (hu:P.underlying st=some (.slice i.e)) (hi:P.info? i.e=some inf) (Fc:inf.size=i.s)
 (hs:s'=.slice base len cap) (hlen:∀w',(Builtin.lenOf x').run P w'=.ok n w') (hle:len+n<=cap)
 (Na:(Builtin.firstCells i.s n x').run P w=.ok new w) (Vt:∀c,base=some c->(storeCells (c.add (len * i.s)) new.toList).run P w=.ok () w') (AqI:base=none->w'=w):
 (Builtin.append_ ts ty #[s',x']).run P w=.ok (.slice base (len+n) cap) w':=by
 subst hs
 have hzero:∃d,P.underlying t2=some d/\∀k,d≠.int k:=by
  unfold Aab at hni
  cases hd:P.underlying t2 with
  |none=>rw [hd] at hni;cases hni
  |some d=>exact ⟨_,rfl,λk hk=>by rw [hd,hk] at hni;cases hni⟩
 obtain ⟨d,hd,hdi⟩:=hzero
 have hso:∀w',(sizeOf i.e).run P w'=.ok i.s w':=λw'=>by simp [sizeOf,typeInfo,hi,Fc]
 have hud:(underlying t2).run P w=.ok d w:=run_underlying hd w
 simp only [Builtin.append_,ht,ht2,List.getElem?_toArray,List.getElem?_cons_zero,List.getElem?_cons_succ,Sem.run_bind,run_underlying hu,Result.andThen_ok,hso,hud,Sem.run_pure,Bool.false_eq_true,if_false,hlen,if_pos hle,Bool.not_false,if_true]
 cases base with
 |none=>
  cases AqI rfl
  simp only [Na,Result.andThen_ok,Sem.run_pure]
 |some c=>
  have Vt:=Vt c rfl
  simp only [Na,Vt,Result.andThen_ok,Sem.run_bind,Sem.run_pure]
theorem Asn {l:List Value} {n:Nat} (hn:l.length=n):l.take n=l:=by rw [<- hn];simp
theorem AgR {x:Array Value} {l:List Value} (hx:x.toList=l):x=l.toArray:=by rw [<- hx]
def Ad4 (P:Program) (G:Nat) (σ:Dx) (h:H) (w:World) (s:Sem Value) (v:AV) (h':H):Prop:=
 ∃σ' v' w',s.run P w=.ok v' w'/\Au σ' v v'/\Out G σ h w σ' h' w'
theorem SOk.place {b b0:Nat} {e e':SE} (hs:SOk σ w) (hb:b<Bq) (h0:σ b0=some e) (he:e'.c=e.c) (hk:e'.k=e.k) (hn:e.k≠none) (hw:w'.heap.size=w.heap.size):SOk (Gu σ b e') w':=by
 refine ⟨?_,?_,?_⟩
 . intro x y e1 e2 h1 h2 h3
   unfold Gu at h1 h2
   split at h1
   . cases h1
     split at h2
     . left;omega
     . rcases hs.inj y b0 e2 e h2 h0 om with h4|⟨h4,h5⟩
       . subst h4;rw [h0] at h2;cases h2;exact .inr ⟨hk,by rw [hk];exact hn⟩
       . exact .inr ⟨by rw [hk,h4],by rw [hk];exact hn⟩
   . split at h2
     . cases h2
       rcases hs.inj x b0 e1 e h1 h0 om with h4|⟨h4,h5⟩
       . subst h4;rw [h0] at h1;cases h1;exact .inr ⟨hk.symm,hn⟩
       . exact .inr ⟨by rw [hk,h4],h5⟩
     . exact hs.inj x y e1 e2 h1 h2 h3
 . intro x e1 h1
   unfold Gu at h1
   rw [hw]
   split at h1
   . cases h1;have:=hs.rng b0 e h0;omega
   . exact hs.rng x e1 h1
 . intro x e1 h1
   unfold Gu at h1
   split at h1
   . omega
   . exact hs.low x e1 h1
theorem Aeq {o:AO} {n:Nat} (hh:Aj3 o=some n):o=.Fb n:=by
 cases o<;>first|(cases hh;done)|skip
 cases hh;rfl
theorem Aoo {xs ys zs:List Value} {cs:List AV} (hr:Bk σ cs (xs++ys)):∀(i:Nat) (x:AV) (y:Value),cs[i]?=some x->(xs++ys++zs).toArray[i]?=some y->Au σ x y:=by
 intro i x y hx hy
 have B6:=(List.getElem?_eq_some_iff.1 hx).1
 rw [hr.1] at B6
 rw [List.getElem?_toArray,List.getElem?_append_left B6] at hy
 exact hr.2 i x y hx hy
theorem Aa3 {i:SI} {zz:Value} {Cf l:List Value} {len n nc:Nat} (AdK:zz.cells.size=i.s) (ho:Cf.length=len * i.s) (S4:l.length=n * i.s) (hnc:len+n<=nc):
 (Cf.toArray++l.toArray++Builtin.zeroCells zz.cells (nc - (len+n))).size=nc * i.s:=by
 rw [Array.size_append,Array.size_append,Adv,AdK]
 simp only [List.size_toArray,S4,ho]
 have:nc=len+n+(nc - (len+n)):=by omega
 rw [<- Nat.add_mul,<- Nat.add_mul,<- this]
theorem Xb {zz:Value} {Cf l:List Value} {cs:List AV} (k:Nat) (hr:Bk σ cs (Cf++l)):
 ∀(j:Nat) (x:AV) (y:Value),cs[j]?=some x->(Cf.toArray++l.toArray++Builtin.zeroCells zz.cells k)[j]?=some y->Au σ x y:=by
 intro j a1 a2 g1 g2
 have e:(Cf.toArray++l.toArray++Builtin.zeroCells zz.cells k)=(Cf++l++(Builtin.zeroCells zz.cells k).toList).toArray:=by apply Array.ext';simp
 rw [e] at g2
 exact Aoo hr j a1 a2 g1 g2
theorem Ah5 {i:SI} {zz:Value} {Cf l:List Value} {cs:List AV} {len n nc:Nat} (AdK:zz.cells.size=i.s) (hr:Bk σ cs (Cf++l)) (ho:Cf.length=len * i.s) (S4:l.length=n * i.s)
 (hnc:len+n<=nc) (hm:Ms G σ h w) (hl:h.nx+1<Bq) (hf0:σ h.nx=none) (hf:σ (h.nx+1)=none):
 ∃σ',Au σ' (.sl (Nat.succ h.nx) 0 (len+n) (len+n) i.s false) (.slice (some ⟨w.heap.size,0,none⟩) (len+n) nc) /\
  Out G σ h w σ' ((h.new (.Fb 0)).new (.cells cs i.e (.Gt h.nx))) (Dd { w with drawn:=w.drawn+1 } (.cells (Cf.toArray++l.toArray++Builtin.zeroCells zz.cells (nc - (len+n))) i.e)):=by
 have Aqm:=Aa3 (nc:=nc) AdK ho S4 hnc
 have hm2:=hm.draw (w.drawn+1)
 have Ox:cs.length=(len+n) * i.s:=by have:=hr.1;rw [List.length_append] at this;rw [Nat.add_mul];omega
 have hg:=Ae4 (t:=i.e) (cs:=cs) (arr:=Cf.toArray++l.toArray++Builtin.zeroCells zz.cells (nc - (len+n))) (fz:=(0,0)) hm2.ai hm2.so hm2.ma hl hf0 hf
  (by rw [Aqm,Ox];exact Nat.mul_le_mul_right _ om) (Xb _ hr) (by intro j _;omega)
 refine ⟨_,?_,hg.draw⟩
 exact Au.sl (h.nx+1) 0 (len+n) (len+n) i.s false ⟨w.heap.size,(Cf.toArray++l.toArray++Builtin.zeroCells zz.cells (nc - (len+n))).size,some h.nx⟩ nc (by simp [Gu]) (Nat.le_refl _) om (by intro hh;cases hh) (by intro _;simp only [Aqm];omega)
theorem Ad8 {ts:Array TypeId} {ty st t2:TypeId} {s x:AV} {s' x':Value} (he:Xa P st s x h=.ok v h') (hs:Au σ s s') (hx:Au σ x x') (hm:Ms G σ h w)
 (ht:ts[0]?=some st) (ht2:ts[1]?=some t2) (hni:Aab P t2=true) (hl:h'.nx<=Bq) (hf:Fx σ h h'):Ad4 P G σ h w (Builtin.append_ ts ty #[s',x']) v h':=by
 unfold Xa at he
 split at he
 . rename_i i Z3
   obtain ⟨inf,z,zz,hu,hi,Fc,hby,hz,hzz,hlz,AdK,Q0⟩:=Pk Z3
   split at he
   . rename_i n new F6
     obtain ⟨hlen,l,hnl,S4,hfc⟩:=Amk (P:=P) F6 hx hm
     have BeE:new.length=n * i.s:=by have:=hnl.1;omega
     have Na:∀w',w'.heap=w.heap->(Builtin.firstCells i.s n x').run P w'=.ok l.toArray w':=by
      intro w1 hw1
      obtain ⟨l',h1,h2⟩:=hfc n (Nat.le_refl _) w1 hw1
      rw [Asn S4] at h2
      rw [h1,AgR h2]
     split at he
     . rename_i hv
       rw [Ok hv] at hs
       cases hs
       rcases Bl he with ⟨h0,he⟩|⟨h0,he⟩
       . cases he
         have:=Ch h0
         subst this
         refine ⟨σ,.slice none 0 0,w,Ug (P:=P) (base:=none) (w':=w) ht ht2 hni hu hi Fc rfl hlen om (Na w rfl) (λc hc=>by cases hc) (λ_=>rfl),.Bv,Out.refl hm.ai hm.so hm.ma⟩
       . rcases Bl he with ⟨h1,he⟩|⟨_,he⟩
         . rcases Bl he with ⟨h2,he⟩|⟨_,he⟩
           . have AhE:=Ho h0
             have A4h:∀(w':World),w'.heap=w.heap->(Builtin.firstCells i.s 0 (.slice none 0 0)).run P w'=.ok ([]:List Value).toArray w':=λw' _=>rfl
             obtain ⟨nc,hnc,Du⟩:=Qs (P:=P) (w:=w) (ty:=ty) (x':=x') (n:=n) (new:=l.toArray) ht ht2 hni hu hi Fc hby hzz rfl hlen (by omega:(0:Nat)<0+n) (by rw [Nat.zero_add];exact Ec h1)
              A4h Na
             unfold grow at he
             cases he
             obtain ⟨σ',q1,q2⟩:=Ah5 (i:=i) (zz:=zz) (Cf:=[]) (l:=l) (cs:=new) (len:=0) (n:=n) (nc:=nc) AdK (by simpa using hnl) (by simp) S4 hnc hm hl (hf _ (Nat.le_refl _) (Nat.lt_succ_of_lt (Nat.lt_succ_self _))) (hf _ om (Nat.lt_succ_self _))
             refine ⟨σ',_,_,Du,?_,q2⟩
             have e0:0+n=n:=Nat.zero_add n
             rw [e0] at q1 ⊢
             exact q1
           . cases he
         . cases he
     . rename_i b off len cap sz ex hv
       rw [Ri hv] at hs
       have AhE:=AkD Z3
       cases hs
       rotate_left
       . exfalso
         rcases Bl he with ⟨h1,he⟩|⟨_,he⟩
         . rcases Bl he with ⟨h2,he⟩|⟨_,he⟩
           . rcases Bl he with ⟨h3,he⟩|⟨_,he⟩
             . have:=Ch h3
               omega
             . cases he
           . cases he
         . cases he
       rename_i e cc hb g2 g1 g3 g4
       rcases Bl he with ⟨h1,he⟩|⟨_,he⟩
       . rcases Bl he with ⟨h2,he⟩|⟨_,he⟩
         . rcases Bl he with ⟨h3,he⟩|⟨_,he⟩
           . have hsm:=Ec h1
             have hsi:=Ch h3
             subst hsi
             have AdM:=V3 hnl h2
             unfold Lg at he
             rcases Bl he with ⟨h4,he⟩|⟨h4,he⟩
             . have hle:len+n<=cap:=G2 h4
               unfold AgN at he
               cases new with
               |nil=>
                cases he
                have hl0:l=[]:=hnl.Rt
                subst hl0
                refine ⟨σ,_,w,Ug (P:=P) (w':=w) ht ht2 hni hu hi Fc rfl hlen (show len+n<=cc by omega) (Na w rfl) (λc hc=>rfl) (λ_=>rfl),.sl b off _ cap i.s ex e cc hb hle g2 g3 g4,Out.refl hm.ai hm.so hm.ma⟩
               |cons Ako Akp=>
               cases hw:h.wr b (off+len * i.s) (Ako::Akp) with
               |bad q=>rw [show (List.rec (motive:=λ_=>OR) (.ok (.sl b off (Nat.add len n) cap i.s ex) h) (λ_ _ _=>RH.rec (motive:=λ_=>OR) .bad (λh'=>.ok (.sl b off (Nat.add len n) cap i.s ex) h') (h.wr b (off+len * i.s) (Ako::Akp))) (Ako::Akp):OR)=RH.rec (motive:=λ_=>OR) .bad (λh'=>.ok (.sl b off (Nat.add len n) cap i.s ex) h') (h.wr b (off+len * i.s) (Ako::Akp)) from rfl,hw] at he;cases he
               |ok h2=>
                rw [show (List.rec (motive:=λ_=>OR) (.ok (.sl b off (Nat.add len n) cap i.s ex) h) (λ_ _ _=>RH.rec (motive:=λ_=>OR) .bad (λh'=>.ok (.sl b off (Nat.add len n) cap i.s ex) h') (h.wr b (off+len * i.s) (Ako::Akp))) (Ako::Akp):OR)=RH.rec (motive:=λ_=>OR) .bad (λh'=>.ok (.sl b off (Nat.add len n) cap i.s ex) h') (h.wr b (off+len * i.s) (Ako::Akp)) from rfl,hw] at he
                cases he
                obtain ⟨w',hr,Vd⟩:=Agp (P:=P) hw hm.ai hm.so hm.ma hb hnl AdM
                refine ⟨σ,_,w',Ug (P:=P) (w':=w') ht ht2 hni hu hi Fc rfl hlen (show len+n<=cc by omega) (Na w rfl) (λc hc=>by cases hc;rw [G1];exact hr) (λhc=>by cases hc),?_,Vd⟩
                exact .sl b off _ cap i.s ex e cc hb hle g2 g3 g4
             . have hgt:cap<len+n:=Axo h4
               rcases Bl he with ⟨h5,Za⟩|⟨h5,Za⟩
               all_goals clear he
               . subst h5
                 have O0:=g3 rfl
                 subst O0
                 unfold Sf at Za
                 split at Za
                 . rename_i c W4
                   split at Za
                   . rename_i Cf Ik
                     rw [Dl] at Za
                     unfold grow at Za
                     cases Za
                     obtain ⟨arr,tt,fz,q1,q2,q3,q4⟩:=No W4 (hm.ma b e hb)
                     obtain ⟨r1,_,r3⟩:=Js Ik
                     have hor:=Uj Ik q4 om
                     have hol:((arr.toList.drop off).take (len * i.s)).length=len * i.s:=by rw [<- hor.1];exact r3
                     have hold:∀(w':World),w'.heap=w.heap->(Builtin.firstCells i.s len (.slice (some ⟨e.c,off,none⟩) len cc)).run P w'=.ok ((arr.toList.drop off).take (len * i.s)).toArray w':=
                      λw' hw'=>Mo (P:=P) (off:=off) (n:=len * i.s) (by rw [hw'];exact q1) om
                     obtain ⟨nc,hnc,Du⟩:=Qs (P:=P) (w:=w) (ty:=ty) (x':=x') (n:=n) (new:=l.toArray) ht ht2 hni hu hi Fc hby hzz rfl hlen hgt hsm hold Na
                     obtain ⟨σ',z1,z2⟩:=Ah5 (i:=i) (zz:=zz) (nc:=nc) AdK (hor.append hnl) hol S4 hnc hm hl (hf _ (Nat.le_refl _) (Nat.lt_succ_of_lt (Nat.lt_succ_self _))) (hf _ om (Nat.lt_succ_self _))
                     exact ⟨σ',_,_,Du,z1,z2⟩
                   . cases Za
                 . cases Za
               . subst h5
                 unfold Ny at Za
                 split at Za
                 . rename_i c e' k ho
                   split at Za
                   . rename_i st Cf Vt Ik
                     rcases Bl Za with ⟨h6,Za⟩|⟨_,Za⟩
                     . rcases Bl Za with ⟨h7,Za⟩|⟨_,Za⟩
                       . rcases Bl Za with ⟨h8,Za⟩|⟨_,Za⟩
                         . have e6:=Ch h6
                           have e7:=Ch h7
                           have e8:=Ch h8
                           subst e7
                           subst e8
                           rw [Gh] at e6
                           rw [Dl] at Za
                           cases Za
                           have S3:=Aeq Vt
                           have Ha:=hm.ma b e hb
                           rw [ho] at Ha
                           obtain ⟨arr,lo,hi',q1,q2,q3,q4,q5,q6⟩:=Ha.2 trivial
                           have O0:=g4 rfl
                           have P4:h.nx<Bq:=hl
                           have hf2:=hf h.nx (Nat.le_refl _) (Nat.lt_succ_self _)
                           have Ox:(c++new).length=(len+n) * i.s:=by rw [List.length_append,Nat.add_mul];omega
                           by_cases Ay8:len+n<=cc
                           . have hmul:(len+n) * i.s<=cc * i.s:=Nat.mul_le_mul_right _ Ay8
                             have BeN:(len+n) * i.s=len * i.s+n * i.s:=Nat.add_mul _ _ _
                             have hrs:=Nl P e.c (len * i.s) i.e lo hi' l 0 arr w q1 om (λj j1 j2=>q6 trivial j om) AdM
                             rw [Nat.add_zero] at hrs
                             have AdN:len * i.s+l.length<=arr.size:=by omega
                             generalize hw1:Cc w e.c (.cells (J9 arr (len * i.s) l) i.e (lo,hi'))=w1 at hrs
                             have AtU:w1.heap[e.c]?=some (.cells (J9 arr (len * i.s) l) i.e (lo,hi')):=by rw [<- hw1,Da,if_pos ⟨rfl,Dj q1⟩]
                             have A9e:w1.heap.size=w.heap.size:=by rw [<- hw1,Mr]
                             have AyQ:SOk (Gu σ h.nx ⟨e.c,e.N,some k⟩) w1:=hm.so.place P4 hb rfl Ha.1.symm (by rw [Ha.1];simp [Ahd]) A9e
                             refine ⟨Gu σ h.nx ⟨e.c,e.N,some k⟩,_,w1,Ug (P:=P) (w':=w1) ht ht2 hni hu hi Fc rfl hlen Ay8 (Na w rfl) (λc hc=>by cases hc;rw [G1,Nat.zero_add];simpa using hrs) (λhc=>by cases hc),?_,?_⟩
                             . exact .sl h.nx 0 _ _ i.s false ⟨e.c,e.N,some k⟩ cc (by simp [Gu]) (Nat.le_refl _) Ay8 (λhh=>by cases hh) (λ_=>O0)
                             . refine AiI hm.ai hm.so hm.ma hb ho S3 P4 hf2 (by rw [List.length_append];omega) rfl AyQ om (by first|exact ⟨rfl,rfl⟩|(subst hw1;exact ⟨rfl,rfl⟩)) ?_ (.inr rfl) ⟨arr,_,_,q1,AtU,O2 AdN,?_⟩ ?_
                               . intro j _ h2;rw [<- hw1,Da,if_neg (λhh=>h2 hh.1)]
                               . intro j hj;rw [Nz AdN,if_neg om]
                               . refine ⟨rfl,λ_=>⟨_,lo,hi',AtU,by rw [O2 AdN];exact q2,by show (c++new).length<=e.N;omega,?_,λhh=>(by cases hh),q6⟩⟩
                                 intro j a1 a2 j1 j2
                                 rw [Nz AdN] at j2
                                 refine Au.mono (Ip hf2) ?_
                                 by_cases hjl:j<c.length
                                 . rw [List.getElem?_append_left hjl] at j1
                                   rw [if_neg om] at j2
                                   exact q4 j a1 a2 j1 j2
                                 . rw [List.getElem?_append_right om] at j1
                                   have:=(List.getElem?_eq_some_iff.1 j1).1
                                   rw [if_pos om] at j2
                                   have e9:c.length=len * i.s:=by omega
                                   rw [e9] at j1
                                   exact hnl.2 _ a1 a2 j1 j2
                           . have hold:∀(w':World),w'.heap=w.heap->(Builtin.firstCells i.s len (.slice (some ⟨e.c,0,none⟩) len cc)).run P w'=.ok ((arr.toList.drop 0).take (len * i.s)).toArray w':=
                              λw' hw'=>Mo (P:=P) (off:=0) (n:=len * i.s) (by rw [hw'];exact q1) om
                             obtain ⟨nc,hnc,Du⟩:=Qs (P:=P) (w:=w) (ty:=ty) (x':=x') (n:=n) (new:=l.toArray) ht ht2 hni hu hi Fc hby hzz rfl hlen om hsm hold Na
                             have hor:=Uj Ik q4 om
                             have hoc:Cf=c:=by obtain ⟨_,r2,_⟩:=Js Ik;rw [r2,List.drop_zero,List.take_of_length_le om]
                             rw [hoc] at hor
                             have hol:((arr.toList.drop 0).take (len * i.s)).length=len * i.s:=by rw [<- hor.1];omega
                             have Aqm:=Aa3 (nc:=nc) (i:=i) (zz:=zz) (Cf:=(arr.toList.drop 0).take (len * i.s)) (l:=l) AdK hol S4 hnc
                             generalize hA:((arr.toList.drop 0).take (len * i.s)).toArray++l.toArray++Builtin.zeroCells zz.cells (nc - (len+n))=A at Du Aqm
                             generalize hw1:Dd { w with drawn:=w.drawn+1 } (.cells A i.e)=w1 at Du
                             have hm2:=hm.draw (w.drawn+1)
                             have AtU:w1.heap[w.heap.size]?=some (.cells A i.e (0,0)):=by rw [<- hw1];exact F1 { w with drawn:=w.drawn+1 } _
                             have AyQ:SOk (Gu σ h.nx ⟨w.heap.size,nc * i.s,some k⟩) w1:=by rw [<- hw1];exact hm2.so.push _ P4 rfl
                             have Pa:∀j,j<w.heap.size->w1.heap[j]?=w.heap[j]?:=λj hj=>by rw [<- hw1];exact Lq { w with drawn:=w.drawn+1 } _ j hj
                             refine ⟨Gu σ h.nx ⟨w.heap.size,nc * i.s,some k⟩,_,w1,Du,?_,?_⟩
                             . exact .sl h.nx 0 _ _ i.s false ⟨w.heap.size,nc * i.s,some k⟩ nc (by simp [Gu]) (Nat.le_refl _) hnc (λhh=>by cases hh) (λ_=>by show 0+nc * i.s<=nc * i.s;omega)
                             . refine AiI hm.ai hm.so hm.ma hb ho S3 P4 hf2 (by rw [List.length_append];omega) rfl AyQ (by rw [<- hw1,size_push];exact Nat.le_succ _) (by rw [<- hw1];exact ⟨rfl,rfl⟩) (λj h1 _=>Pa j h1) (.inl (Nat.le_refl _))
                                ⟨arr,arr,(lo,hi'),q1,by rw [Pa _ (hm.so.rng b e hb)];exact q1,rfl,λ_ _=>rfl⟩ ?_
                               refine ⟨rfl,λ_=>⟨A,0,0,AtU,Aqm,by show (c++new).length<=nc * i.s;rw [Ox];exact Nat.mul_le_mul_right _ hnc,?_,λhh=>(by cases hh),λ_ j _=>by omega⟩⟩
                               intro j a1 a2 j1 j2
                               rw [<- hA] at j2
                               exact Au.mono (Ip hf2) (Xb _ (hor.append hnl) j a1 a2 j1 j2)
                         . cases Za
                       . cases Za
                     . cases Za
                   . cases Za
                 . cases Za
           . cases he
         . cases he
       . cases he
     . cases he
   . cases he
 . cases he
theorem Ad4.quiet {s:Sem Value} {v':Value} (hm:Ms G σ h w) (hr:s.run P w=.ok v' w) (hv:Au σ v v'):Ad4 P G σ h w s v h:=⟨σ,v',w,hr,hv,Out.refl hm.ai hm.so hm.ma⟩
theorem Ahi {ts:Array TypeId} {ty dt:TypeId} {d x:AV} {d' x':Value} (he:Ahh P dt d x h=.ok v h') (hd:Au σ d d') (hx:Au σ x x') (hm:Ms G σ h w) (ht:ts[0]?=some dt):
 Ad4 P G σ h w (Builtin.copy_ ts ty #[d',x']) v h':=by
 unfold Ahh at he
 split at he
 . rename_i i Z3
   obtain ⟨inf,z,zz,hu,hi,Fc,hby,hz,hzz,hlz,AdK,Q0⟩:=Pk Z3
   have hso:∀w',(sizeOf i.e).run P w'=.ok i.s w':=λw'=>by simp [sizeOf,typeInfo,hi,Fc]
   split at he
   . rename_i n src F6
     obtain ⟨hlen,l,hnl,S4,hfc⟩:=Amk (P:=P) F6 hx hm
     split at he
     . rename_i hv
       rw [Ok hv] at hd
       cases hd;cases he
       obtain ⟨l',q1,q2⟩:=hfc 0 (Nat.zero_le _) w rfl
       refine .quiet hm (v':=.int .i64 0) ?_ (.int _ _)
       simp [Builtin.copy_,ht,run_underlying hu,hlen,hso,Nat.min,q1,goInt]
     . rename_i b off len cap sz ex hv
       rw [Ri hv] at hd
       cases hd
       rotate_left
       . exfalso
         split at he
         . have Ak:OR.bad 132=OR.ok v h':=he
           cases Ak
         . cases he
       rename_i e cc hb g1 g2 g3 g4
       split at he
       . rename_i cs X3
         rcases Bl he with ⟨h1,Et⟩|⟨_,Et⟩
         . have h1:Bm cs=true:=by
            cases hq:Nat.blt 0 sz with
            |false=>rw [hq] at h1;cases h1
            |true=>rw [hq] at h1;exact h1
           clear he
           cases hw:h.wr b off cs with
           |bad q=>rw [hw] at Et;cases Et
           |ok h2=>
            rw [hw] at Et
            cases Et
            obtain ⟨l',q1,q2⟩:=hfc (Nat.min n len) (Nat.min_le_left _ _) w rfl
            rw [AhX] at X3
            split at X3
            . cases X3
              have AqC:=hnl.take (Nat.min n len * i.s)
              rw [<- q2] at AqC
              obtain ⟨w',hr,Vd⟩:=Agp (P:=P) hw hm.ai hm.so hm.ma hb AqC (V3 AqC h1)
              refine ⟨σ,.int .i64 (Nat.min n len),w',?_,.int _ _,Vd⟩
              simp [Builtin.copy_,ht,run_underlying hu,hlen,hso,q1,goInt,hr]
            . cases X3
         . cases Et
       . cases he
     . cases he
   . cases he
 . cases he
theorem Aj0 {ts:Array TypeId} {ty t:TypeId} {x:AV} {x':Value} (hk:Pw P t=.sl) (he:Ath x h=.ok v h') (hx:Au σ x x') (hm:Ms G σ h w) (ht:ts[0]?=some t):
 Ad4 P G σ h w (Builtin.cap_ ts ty #[x']) v h':=by
 have hs:=Ta P t
 rw [hk] at hs
 obtain ⟨e,hs⟩:=hs
 unfold Ath at he
 split at he
 . rename_i hv
   rw [Ok hv] at hx
   cases hx;cases he
   exact .quiet hm (v':=.int .i64 0) (by simp [Builtin.cap_,ht,run_underlying hs,goInt]) (.int _ _)
 . rename_i b off len c sz hv
   rw [Ri hv] at hx
   cases hx;cases he
   rename_i e cc hb g1 g2 g3 g4
   have:=g3 rfl
   subst this
   exact .quiet hm (v':=.int .i64 cc) (by simp [Builtin.cap_,ht,run_underlying hs,goInt]) (.int _ _)
 . cases he
theorem Anr {ts:Array TypeId} {ty t:TypeId} {x:AV} {x':Value} (he:lnK (Pw P t) x h=.ok v h') (hx:Au σ x x') (hm:Ms G σ h w) (ht:ts[0]?=some t):
 Ad4 P G σ h w (Builtin.len_ ts ty #[x']) v h':=by
 by_cases hq:∃r,x=.map r
 . obtain ⟨r,rfl⟩:=hq
   cases hx
   rename_i e hb
   have hs:=Ta P t
   cases hk:Pw P t with
   |bad=>rw [hk] at he;cases he
   |str=>rw [hk] at he;cases he
   |sl=>rw [hk] at he;cases he
   |map=>
    rw [hk] at he hs
    obtain ⟨k,et,hs⟩:=hs
    have Ak:lnM (.map r) h=.ok v h':=he
    unfold lnM entries at Ak
    have hvm:vM (.map r)=.yes r:=rfl
    rw [hvm] at Ak
    dsimp only at Ak
    cases hg:h.m.get r with
    |map es=>
     rw [hg] at Ak
     cases Ak
     have Ha:=hm.ma r e hb
     rw [hg] at Ha
     obtain ⟨_,Y8,clock,q1,q2,q3⟩:=Ha
     have Vr:(getObj e.c).run P w=.ok (.map Y8 clock) w:=by simp [getObj,Sem.run,q1]
     refine .quiet hm (v':=.int .i64 Y8.size) (by simp [Builtin.len_,ht,run_underlying hs,goInt,Vr]) ?_
     have:es.length=Y8.size:=by rw [q2];simp
     rw [this]
     exact .int _ _
    |_=>rw [hg] at Ak;cases Ak
 . obtain ⟨v',q1,q2,rfl⟩:=AeE (P:=P) (ty:=ty) hx (λr hr=>hq ⟨r,hr⟩) he w ts ht
   exact .quiet hm q1 q2
theorem Aoe {ts:Array TypeId} {ty:TypeId} {x:AV} {x':Value} (he:sdV x h=.ok v h') (hx:Au σ x x') (hm:Ms G σ h w):
 Ad4 P G σ h w (Builtin.unsafeSliceData_ ts ty #[x']) v h':=by
 unfold sdV at he
 split at he
 . rename_i hv
   rw [Ok hv] at hx
   cases hx;cases he
   exact .quiet hm rfl .Ob
 . rename_i b off len c sz ex hv
   rw [Ri hv] at hx
   cases hx
   rotate_left
   . cases he
   rename_i e cc hb g1 g2 g3 g4
   rcases Bl he with ⟨_,he⟩|⟨h1,he⟩
   . cases he
   . cases he
     have:=Ho h1
     exact .quiet hm (Lib.run_unsafeSliceData_row w ts ty _ len cc om) (.ptr b off e hb)
 . cases he
theorem Akg (lt:Bool):∀(l:List AV) (l':List Value) (k:IntKind) (a:Int) (r:IntKind × Int),AfO lt k a l=some r->Bk σ l l' ->
 (l'.foldlM (if lt then Builtin.min2 else Builtin.max2) (.int k a)).run P w=.ok (.int r.1 r.2) w:=by
 intro l
 induction l with
 |nil=>
  intro l' k a r he hl
  cases hl.Rt
  cases he
  rfl
 |cons y rest ih=>
  intro l' k a r he hl
  obtain ⟨y',l2,rfl,hy,P4⟩:=hl.F8
  unfold AfO at he
  split at he
  . rename_i k2 b hv
    rw [P1 hv] at hy
    cases hy
    have:=ih l2 k _ r he P4
    cases lt with
    |true=>
     simp only [if_true] at this ⊢
     simp only [List.foldlM_cons,Builtin.min2,Sem.run_bind,Sem.run_pure,Result.andThen_ok]
     rw [<- this]
     rw [Il]
     by_cases hb:b<a
     . rw [if_pos hb,decide_eq_true hb]
     . rw [if_neg hb,decide_eq_false hb]
    |false=>
     simp only [Bool.false_eq_true,if_false] at this ⊢
     simp only [List.foldlM_cons,Builtin.max2,Sem.run_bind,Sem.run_pure,Result.andThen_ok]
     rw [<- this]
     rw [Il]
     by_cases hb:a<b
     . rw [if_pos hb,decide_eq_true hb]
     . rw [if_neg hb,decide_eq_false hb]
  . cases he
theorem Aia (lt:Bool) {ts:Array TypeId} {ty:TypeId} {l:List AV} {l':List Value} (he:mm lt l h=.ok v h') (hl:Bk σ l l') (hm:Ms G σ h w):
 Ad4 P G σ h w (if lt then Builtin.min_ ts ty l'.toArray else Builtin.max_ ts ty l'.toArray) v h':=by
 unfold mm at he
 split at he
 . rename_i x rest
   obtain ⟨y,l2,rfl,hy,P4⟩:=hl.F8
   split at he
   . rename_i k n hv
     rw [P1 hv] at hy
     cases hy
     split at he
     . rename_i k2 n2 hmm
       cases he
       have:=Akg (P:=P) (w:=w) lt rest l2 k n _ hmm P4
       refine .quiet hm (v':=.int k2 n2) ?_ (.int _ _)
       cases lt<;>exact this
     . cases he
   . cases he
 . cases he
theorem AjA {c n:Nat} {arr:Array Value} {t:TypeId} {lo hi:Nat} (hc:w.heap[c]?=some (.cells arr t (lo,hi))) (hn:n≠0):∃fz,w.freeze ⟨c,0,none⟩ n=Cc w c (.cells arr t fz):=by
 refine ⟨if lo == hi then (0,0+n) else (min lo 0,max hi (0+n)),?_⟩
 unfold World.freeze Cc
 rw [if_neg hn]
 congr 1
 apply Array.ext_getElem?
 intro j
 have B6:=Dj hc
 rw [Array.getElem?_modify]
 by_cases hj:c=j
 . subst hj
   have:w.heap[c]=.cells arr t (lo,hi):=by rw [Array.getElem?_eq_getElem B6] at hc;exact Option.some.inj hc
   simp [B6,this]
 . simp [hj,Array.getElem?_setIfInBounds_ne hj]
theorem Aop {ts:Array TypeId} {ty t t2:TypeId} {p n:AV} {p' n':Value} (he:usV P t p n h=.ok v h') (hp:Au σ p p') (hn:Au σ n n') (hm:Ms G σ h w) (ht:ts=#[t,t2]):
 Ad4 P G σ h w (Builtin.unsafeString_ ts ty #[p',n']) v h':=by
 subst ht
 unfold usV at he
 split at he
 . rename_i h1 h2
   rw [Wv h1] at hp
   rw [Qc h2] at hn
   cases hp;cases hn;cases he
   exact .quiet hm (Lib.run_unsafeString_none w t t2 ty none) (.str ByteArray.empty)
 . rename_i b off h1 h2
   rw [P2 h1] at hp
   rw [Qc h2] at hn
   cases hp;cases hn;cases he
   exact .quiet hm (Lib.run_unsafeString_none w t t2 ty _) (.str ByteArray.empty)
 . rename_i b off m h0 h1 h2
   rw [P2 h1] at hp
   rw [Qc h2] at hn
   cases hp;cases hn
   rename_i e hb
   split at he
   . rename_i c el k e' ho hpt
     split at he
     . rename_i cs st hu Fc Ik Vt
       split at he
       . rename_i s hoc
         rcases Bl he with ⟨h3,Et⟩|⟨_,Et⟩
         . rcases Bl Et with ⟨h4,Cs⟩|⟨_,Cs⟩
           . rcases Bl Cs with ⟨h5,Fv⟩|⟨_,Fv⟩
             . clear he Et Cs
               cases Fv
               have e3:=Ch h3
               have e4:=Ch h4
               have e5:=Ec h5
               subst e3
               subst e4
               have S3:=Aeq Vt
               have Ha:=hm.ma b e hb
               rw [ho] at Ha
               obtain ⟨arr,lo,hi',q1,q2,q3,q4,q5,q6⟩:=Ha.2 trivial
               obtain ⟨r1,r2,r3⟩:=Js Ik
               have hor:=Uj Ik q4 om
               obtain ⟨k1,k2⟩:=AaQ cs s _ hoc hor
               have hm0:m≠0:=λhh=>h0 hh
               have Z3:s.length=m:=by
                have:=congrArg List.length k1
                rw [<- hor.1,r3] at this
                simpa using this.symm
               have S4:(s.map UInt8.ofNat).length=m:=by simpa using Z3
               obtain ⟨inf,j1,j2⟩:=F3 Fc
               have AjJ:P.cellsOf el=1:=by simp [Program.cellsOf,j1,j2]
               have Du:=Lib.run_unsafeString_row (P:=P) w t t2 ty el hpt AjJ e.c arr.size (Aam q1) (s.map UInt8.ofNat) (by intro hh;rw [hh] at S4;simp at S4;omega) om om (by
                intro j x hj
                rw [G1,Xj q1]
                have h6:((arr.toList.drop 0).take m)[j]?=some (.int .u8 x.toNat):=by
                 rw [k1]
                 rw [List.getElem?_map] at hj
                 cases hsj:s[j]? with
                 |none=>rw [hsj] at hj;cases hj
                 |some q=>
                  rw [hsj] at hj
                  cases hj
                  have hq:=k2 q (List.mem_of_getElem? hsj)
                  simp [hsj,UInt8.toNat_ofNat',Nat.mod_eq_of_lt hq]
                rw [List.getElem?_take] at h6
                split at h6
                . simpa using h6
                . cases h6)
               rw [S4] at Du
               obtain ⟨fz,hfz⟩:=AjA q1 hm0
               rw [hfz] at Du
               have hwc:(Cc w e.c (.cells arr el fz)).heap[e.c]?=some (.cells arr el fz):=by rw [Da,if_pos ⟨rfl,Dj q1⟩]
               refine ⟨σ,_,_,Du,?_,?_⟩
               . have hbs:bytesOf ⟨(s.map UInt8.ofNat).toArray⟩=s:=by
                  unfold bytesOf
                  simp only [List.map_map]
                  have:∀l:List Nat,(∀n∈l,n<256)->l.map (UInt8.toNat ∘ UInt8.ofNat)=l:=by
                   intro l hl
                   induction l with
                   |nil=>rfl
                   |cons q l ih=>
                    have hq:=hl q (by simp)
                    simp only [List.map_cons,Function.comp,UInt8.toNat_ofNat',Nat.mod_eq_of_lt (show q<2 ^ 8 from hq)]
                    rw [ih (λn hn=>hl n (by simp [hn]))]
                  exact this s k2
                 have:=Au.str (σ:=σ) ⟨(s.map UInt8.ofNat).toArray⟩
                 rw [hbs] at this
                 exact this
               . refine Ys hm.ai hm.so hm.ma hb ho S3 (.inr ⟨rfl,rfl,?_⟩) rfl ?_
                 . intro x y hx hc hxb l2 t2 st2 hxo
                   have hbx:=hm.ma x y hx
                   rw [hxo] at hbx ⊢
                   refine ⟨hbx.1,λhv=>?_⟩
                   obtain ⟨Am0,lo2,hi2,p1,p2,p3,p4,p5,p6⟩:=hbx.2 hv
                   rw [hc,q1] at p1
                   cases p1
                   exact ⟨arr,fz.1,fz.2,by rw [hc];exact hwc,p2,p3,p4,λhh=>(by cases hh),λhh=>hh.elim⟩
                 . exact ⟨Ha.1,λ_=>⟨arr,fz.1,fz.2,hwc,q2,q3,q4,λhh=>(by cases hh),λhh=>hh.elim⟩⟩
             . cases Fv
           . cases Cs
         . cases Et
       . cases he
     . cases he
   . cases he
 . cases he
end Go.Ev
