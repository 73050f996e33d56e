/- The contract of the row -/
import Derived.Test.YtahaaiadlgfchaaGreatDoorEvR2
import Derived.Test.YtahaaiadlgfchaaGreatDoorEvFK
import Derived.Deep.DeepHandedRow
set_option linter.all false
set_option maxRecDepth 100000
noncomputable section
namespace Go.Proofs.Anf
open Go Go.Ev Go.Nm
open Go.Proofs Go.Proofs.YtahaaiadlgfchaaGreatDoor
variable {j:Nat}{o:FuncId}
def B4n:Tab:=⟨32,[known]⟩
abbrev CK(d:Nat):Ac:=ApJ Um B4n (C d)
def Sj(a:Nat.beq (Nat.land 32 (Nat.pow 2 o)) 0=true)(args:uz)(h:H):(CK j).call o args h=(C j).call o args h:=by
 have e:Hl B4n o args=none:=by unfold Hl;rw[show B4n.Azg=32 from rfl,a]
 show(@Option.rec _ (λ_=>OR) ((C j).call o args h) (λv=>Abq Um v h) (Hl B4n o args):OR)=_;rw[e]
def ApD{h:H}(a:GP h):(CK j).call 5 [] h=.ok (.bool true) h:=by have e:Hl B4n 5 []=some (.bool true):=rfl;show(@Option.rec _ (λ_=>OR) ((C j).call 5 [] h) (λv=>Abq Um v h) (Hl B4n 5 []):OR)=_;rw[e];show Abq Um (.bool true) h=_;unfold Abq;rw[a.g]
def CmR{c:List Abn}{q:Qr}{r s a b:Int}{x y e:uw}{l1 l2:Nat->Adw.Ad2}{st:Nat->Int}(M:MkP (C j) c q r s a b x y e l1 l2 st):MkP (CK j) c q r s a b x y e l1 l2 st:=⟨λm g f vc vo vm sv h k=>by rw[Sj rfl];exact M.run m g f vc vo vm sv h k,M.fr,M.le,M.st⟩
def Ah0{Z:Ac}{q:Bool}{args:uz}{h:H}{Q:AV->H->Prop}(a:Sx.Ah h Q (Ay PP Z N0x q o args h)):Sx.Ah h Q (Fy PP Z o args h):=by obtain⟨v,h1,h2,b⟩:=a;exact⟨v,h1,Jn (Ye _) h2,b⟩
def B6f(i f:AV)(n:Int)(b a:List Int)(h:H)(F:S0 h)(c:GP h)(ha:Lf h i b)(hb:Lf h f a)(t:(b.length:Int)<=9223372036854775807)(u:(a.length:Int)<=9223372036854775807):
 Sx.Ah h (λr _=>r=.bool true) (Fy PP (CK 20) 4 [i,f,iI n] h):=by
 refine Ah0 (Cwg (CK 20) 1048576 ?_ ?_ ?_ ?_ ?_ ?_ i f n b a h c F ?_ ha hb t u)
 .intro j L h h1 h2;rw[Sj rfl];exact c15 20 om j L h h1 h2
 .intro j sv L p h h1 h2 E A;rw[Sj rfl];exact c14 20 om j sv L p h h1 h2 E A
 .intro n k h h1 h2;rw[Sj rfl];exact c78 20 om n k h h1 h2
 .intro p q vc vo vm sv h K;obtain⟨r,s,d,m,x,y,e,l1,l2,st,M⟩:=CmS (D:=0) K;exact⟨r,s,d,m,x,y,e,l1,l2,st,CmR M⟩
 .intro x y h G hy c;rw[Sj rfl];exact lkZ (d:=19) rfl (Cid G hy) h c
 .intro q J vc vo vm w I v r s d m z x y e l t u h o C;rw[Sj rfl];exact Gp (d:=19) zNo (Cwh _ _ o C)
 .intro h1 g;rw[ApD (c.gr g)];exact Sx.Lo (Sx.Ai.refl h1) rfl
def bo4:Bg PP 4=true:=by kernel_rfl
def Aou{σ}{v}(h:Au σ (.bool true) v):v=.bool true:=by cases h;rfl
def B0g(g f:AV)(n:Int)(a c:List Int){An:Array Value}{h:H}{σ:Dx}{w:World}
 (hgl:9<=h.nx) (d:Hj Um h=true) (ha:Lf h g a) (hb:Lf h f c) (la:(a.length:Int)<=9223372036854775807) (lb:(c.length:Int)<=9223372036854775807)
 (hlg:h.lg=[]) (hσ:∀b,h.nx<=b->σ b=none) (Ow:Bk σ [g,f,iI n] An.toList) (hms:∀i:Ii,h.nx<=@Bq i->@Ms i PP.globals.size σ h w) (hg:Vm PP.globals.size σ):
 Calls PP 4 An w λe w'=>e=.returned (.bool true)/\Kept w w':=by
 have q:S0 h:=by
  have h1:(⟨0,gl0,268⟩:GE)∈Um:=by simp[Um]
  exact⟨by omega,268,.exact,AjB d _ h1,trivial⟩
 have j:=B6f g f n a c h q ⟨d,hgl⟩ ha hb la lb;have l:∀i:Ii,@Bd i PP PP.globals.size (CK 20):=λi=>Ahj (Bll mixed Nk Jq zOk 20) Jq (λo d=>by rcases T0.1 d with rfl;exact AhM);refine(AgZ mixed Nk l bo4 j hlg hσ Ow hms hg).mono λe w' p=>?_;obtain⟨v,v',r,rfl,⟨h',rfl⟩,m,k⟩:=p;rw[Aou m];exact⟨rfl,k⟩
section
variable {H:Type}{enc:TypeId × Value->H}{Wt:World}{gl:List GE}{B:uw}
def ce3:PP.cellsOf 3=1:=by kernel_rfl
def Vn:Value->uw
|.slice (some a) _ _=>[a.block]
|_=>[]
def Kin(gl:List GE)(B:uw)(v:Value):Prop:=∀b∈Vn v,b∈B\/∃e∈gl,e.g=b
def AfE(z:WOk PP gl Wt)(r:P8 PP.globals.size gl=true)(G:Qn gl Wt B){v:Value}{d:DataW H}{p:List MemPlace}(w:Kin gl B v){base:Nat}(j:Value.okWide PP Wt .any base 22 v)
 (h:DataW.Trod enc PP Wt 0 (λ_=>true) true 22 v d p):
 ∃(u:AV) (L:List Int),Lf (Adk gl Wt B) u L/\Au (Pn PP.globals.size Wt B) u v/\(L.length:Int)<=9223372036854775807:=by
 have b:Cell.okWide PP Wt .any base 22 v:=by unfold Value.okWide at j;rw[Tryz.underlying22]at j;exact j
 have g:∀a len cap,v=.slice (some a) len cap->Ams Wt a:=λa len cap F=>Yl (F ▸ b);have c:v.cells.toList=[v]:=by
  cases v with
  |agg l=>unfold Cell.okWide at b;rw[Tryz.underlying22]at b;unfold Cell.ok at b;rw[Tryz.underlying22]at b;exact b.elim
  |_=>rfl
 obtain⟨J,h⟩:=h;rw[c]at h;have h':=h;rcases Deep.open_slice Tryz.underlying22 h' with⟨h1,_⟩|⟨a,len,cap,m,n,D,t,h1,_,k,A,E,_,o⟩
 .simp only[Gf,Jj]at h1;subst h1;exact⟨.Bv,[],.inl ⟨rfl,rfl,rfl⟩,.Bv,by simp⟩
 .simp only[Gf,Jj]at h1;subst h1;have e:m=cap:=by simpa using E
  subst e;rw[ce3]at o;obtain⟨L,K,h2,C⟩:=Aon (α:=Int) (f:=λn:Int=>[AV.int .i64 n]) (s:=1) om z r G (g a len m rfl) (w a.block (by simp[Vn])) k (λi hi=>by obtain⟨cs,x,I⟩:=o i hi;obtain⟨y,q,_,_⟩:=DataW.trod_int Tryz.underlying3 I;exact⟨y,cs,x,by rw[q];rfl⟩);refine⟨_,L,h2,C,?_⟩;have:maxLen=9223372036854775807:=rfl;omega
def ChR{v:Value}{d:DataW H}{p:List MemPlace}{base:Nat}(c:Value.okWide PP Wt .any base 3 v)(h:DataW.Trod enc PP Wt 0 (λ_=>true) true 3 v d p):∃n:Int,v=.int .i64 n:=by
 have a:Cell.okWide PP Wt .any base 3 v:=by unfold Value.okWide at c;rw[Tryz.underlying3]at c;exact c
 have b:v.cells.toList=[v]:=by
  cases v with
  |agg l=>unfold Cell.okWide at a;rw[Tryz.underlying3]at a;unfold Cell.ok at a;rw[Tryz.underlying3]at a;exact a.elim
  |_=>rfl
 obtain⟨f,h⟩:=h;rw[b]at h;obtain⟨n,e,_,_⟩:=DataW.trod_int Tryz.underlying3 h;exact⟨n,(List.cons.inj e).1⟩
end
end Go.Proofs.Anf
namespace Go.Proofs.YtahaaiadlgfchaaGreatDoor
open Go Go.Ev
open Go.Proofs Go.Proofs.Anf
open Go.ChangeShapes Go.WideShapes Go.ChangeAt Go.RowKit
variable {j:World}{o:Value}
def At2:Hj Um (glH Um Tryz.prog.globals.size)=true:=rfl
def ApY:(Rows.planBitsRow.laid.filter λx=>x.2.handleName?.isSome)=[]:=by kernel_rfl
def B31:Tryz.f4.resultTypes=#[4]:=by kernel_rfl
def AfI{base:Nat}(h:Value.okWide Tryz.prog j .any base 22 o):∀a len cap,o=.slice (some a) len cap->Ams j a:=by unfold Value.okWide at h;rw[Tryz.underlying22]at h;exact λa len cap b=>Yl (b ▸ h)
def AbR(d:∀a len cap,o=.slice (some a) len cap->Ams j a):∀b∈Vn o,∃(arr:Array Value) (t:TypeId) (lo hi:Nat),j.heap[b]?=some (.cells arr t (lo,hi)):=by
 intro b hb;unfold Vn at hb;split at hb
 .rename_i a len cap;obtain⟨_,arr,t,lo,hi,c,_⟩:=d a len cap rfl;rw[T0.1 hb];exact⟨arr,t,lo,hi,c⟩
 .cases hb
def Bgt(H:Type)(enc:TypeId × Value->H)(W:World)(base:Nat)(args:Array Value)(ds I:List (DataW H))(a:List MemPlace)
 (S7:∀(j:Nat) t v,Tryz.f4.params[j]?=some t->args[j]?=some v->Value.okWide Tryz.prog W .any base t v)
 (hW:DataW.Whole enc Tryz.prog Tryz.f4.params.toList Rows.planBitsSpec.vars false W args.toList ds I a)
 (hL:laidMetH Tryz.prog Rows.planBitsRow.laid W) (hsh:W.ShapedOpen Tryz.prog):
 Calls Tryz.prog 4 args W λe C=>∃v,e=.returned v/\Rows.planBitsSpec.post enc Tryz.prog Tryz.f4 false true false false W args v C:=by
 have z:=hW;obtain⟨p,q,hA,M,u,_,_⟩:=hW;have x:=hA;have f:Tryz.f4.params.toList=[22,22,3]:=by rw[Tryz.params4]
 rw[f]at hA;obtain⟨v1,v2,v3,d1,d2,d3,p1,p2,p3,rfl,rfl,J,y,s,A⟩:=trodAll_three hA;obtain⟨rfl,rfl⟩:=trodVars_none M;have d:WOk Tryz.prog Um W:=AiJ hsh At3 (laidMetH.plain ApY hL) AxZ;have F:=d.size;have E:Value.okWide Tryz.prog W .any base 22 v1:=S7 0 22 v1 (by rw[Tryz.params4];rfl) rfl;have D:Value.okWide Tryz.prog W .any base 22 v2:=S7 1 22 v2 (by rw[Tryz.params4];rfl) rfl;have K:Value.okWide Tryz.prog W .any base 3 v3:=S7 2 3 v3 (by rw[Tryz.params4];rfl) rfl;obtain⟨n,rfl⟩:=ChR K A;let B:uw:=(Vn v1++Vn v2).filter λb=>Um.all λe=>!(e.g == b)
 have l:Qn Um W B:=by
  intro b hb;obtain⟨h1,h2⟩:=bk.1 hb;refine⟨?_,λe k c=>?_⟩
  .rcases T2.1 h1 with h1|h1
   .exact AbR (AfI E) b h1
   .exact AbR (AfI D) b h1
  .have:=Od.1 h2 e k;simp[c]at this
 have m:∀b,b∈Vn v1++Vn v2->b∈B\/∃e∈Um,e.g=b:=by
  intro b hb;by_cases h1:∃e∈Um,e.g=b
  .exact .inr h1
  .refine .inl (bk.2 ⟨hb,Od.2 λe k=>?_⟩);have h2:¬ e.g=b:=λc=>h1 ⟨e,k,c⟩;simp[h2]
 obtain⟨u1,L1,a1,G,n1⟩:=AfE (B:=B) d Jq l (λb hb=>m b (by simp[hb])) E y;obtain⟨u2,L2,a2,L,n2⟩:=AfE (B:=B) d Jq l (λb hb=>m b (by simp[hb])) D s;have O:=B0g u1 u2 n L1 L2 (An:=#[v1,v2,.int .i64 n]) (h:=Adk Um W B) (σ:=Pn Tryz.prog.globals.size W B) (w:=W)
  (by have h9:Tryz.prog.globals.size=9:=At4;have P:Tryz.prog.globals.size<=W.heap.size:=F;show 9<=W.heap.size+W.heap.size;omega)
  (Aom d Jq l At2) a1 a2 n1 n2 rfl (λb hb=>Aol F l b hb) (.cons G (.cons L (.cons (.int _ _) (.nil _)))) (λi hi=>@AuS _ _ _ _ i d Jq l hi) Aso
 refine O.mono λe C ⟨k,o⟩=>?_;subst k;have J:p=a:=by rw[u,F0]
 refine⟨_,rfl,[d1,d2,d3],[],a,[],p,[],z,?_,?_,?_,World.keptBut_mono (λ_ c=>c.elim) o.but,λc=>by cases c⟩
 .rw[B31];exact trodAll_mk1 (shut_bool Tryz.underlying4 true)
 .exact Amy A43 A44 A94 o (λt r=>by
   rw[f]at r;have:t=22\/t=3:=by
    simp only[Wf,Ww,fb]at r;rcases r with h|h|h
    .exact .inl h
    .exact .inl h
    .exact .inr h
   rcases this with rfl|rfl
   .exact az (by kernel_rfl)
   .exact az (by kernel_rfl)) x
 .rfl
end Go.Proofs.YtahaaiadlgfchaaGreatDoor
