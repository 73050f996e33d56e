/- The contract of the row of NormAgain: in every world that fits the row the call returns true, and what was there is as it was. -/
import Derived.Test.YtecikbfimlolcaaGreatDoorEvXb
import Derived.Test.YtecikbfimlolcaaGreatDoorEvR4
import Derived.Test.YtecikbfimlolcaaGreatDoorEvFK
import Derived.Deep.DeepHandedRow
set_option linter.all false
set_option maxRecDepth 100000
noncomputable section
namespace Go.Proofs
open Go Go.Ev Go.Nm
open Go.Proofs.YtecikbfimlolcaaGreatDoor (Um gl0 gl2 AhM mixed Nk Jq)
def bo4:Bg PP 4=true:=by kernel_rfl
def Aou{σ:Dx}{v:Value}(h:Au σ (.bool true) v):v=.bool true:=by cases h;rfl
def Bax(d c:AV)(j f:List Int){An:Array Value}{h:H}{σ:Dx}{w:World}
 (hgl:∀e∈Um,e.g<h.nx) (a:Hj Um h=true) (ha:Lf h d j) (hb:Lf h c f) (la:(j.length:Int)<=9223372036854775807) (lb:(f.length:Int)<=9223372036854775807)
 (hlg:h.lg=[]) (hσ:∀b,h.nx<=b->σ b=none) (Ow:Bk σ [d,c] An.toList) (hms:∀i:Ii,h.nx<=@Bq i->@Ms i PP.globals.size σ h w) (hg:Vm PP.globals.size σ):
 Calls PP 4 An w λe w'=>e=.returned (.bool true)/\Kept w w':=by
 have n:S0 h:=by
  have h1:(⟨0,gl0,310⟩:GE)∈Um:=by simp[Um]
  exact⟨hgl _ h1,310,.exact,AjB a _ h1,trivial⟩
 have q:AeZ h:=by
  have h1:(⟨2,gl2,361⟩:GE)∈Um:=by simp[Um]
  exact⟨AjB a _ h1,hgl _ h1⟩
 have m:=Beq Um d c j f h n q hgl a ha hb la lb;have p:∀i:Ii,@Bd i PP PP.globals.size (CK Um):=λi=>Ahj (Bhz mixed Nk (Ahj (Xh mixed Nk t29 3000) BaL BqT) 8100) Jq (λo a=>by rcases Qv.1 a with rfl;exact AhM);refine(AgZ mixed Nk p bo4 m hlg hσ Ow hms hg).mono λe w' k=>?_;obtain⟨v,v',s,rfl,⟨h',rfl⟩,r,l⟩:=k;rw[Aou r];exact⟨rfl,l⟩
section
variable {H:Type}{enc:TypeId × Value->H}{W:World}{gl:List GE}{B:List Nat}
def ce3:PP.cellsOf 3=1:=by kernel_rfl
def Vn:Value->List Nat
|.slice (some a) _ _=>[a.block]
|_=>[]
def Kin(gl:List GE)(B:List Nat)(v:Value):Prop:=∀b∈Vn v,b∈B\/∃e∈gl,e.g=b
def AfE(A:WOk PP gl W)(y:P8 PP.globals.size gl=true)(o:Qn gl W B){v:Value}{d:DataW H}{p:List MemPlace}(C:Kin gl B v){base:Nat}(e:Value.okWide PP W .any base 34 v)
 (h:DataW.Trod enc PP W 0 (λ_=>true) true 34 v d p):
 ∃(u:AV) (L:List Int),Lf (Adk gl W B) u L/\Au (Pn PP.globals.size W B) u v/\(L.length:Int)<=9223372036854775807:=by
 have hc:Cell.okWide PP W .any base 34 v:=by unfold Value.okWide at e;rw[Tryz.underlying34]at e;exact e
 have j:∀a len cap,v=.slice (some a) len cap->Ams W a:=λa len cap w=>Yl (w ▸ hc);have g:v.cells.toList=[v]:=by
  cases v with
  |agg l=>unfold Cell.okWide at hc;rw[Tryz.underlying34]at hc;unfold Cell.ok at hc;rw[Tryz.underlying34]at hc;exact hc.elim
  |_=>rfl
 obtain⟨J,h⟩:=h;rw[g]at h;have h':=h;rcases Deep.open_slice Tryz.underlying34 h' with⟨h1,_⟩|⟨a,len,cap,m,n,D,I,h1,_,b,x,t,_,k⟩
 .simp only[Ll,Jj]at h1;subst h1;exact⟨.Bv,[],.inl ⟨rfl,rfl,rfl⟩,.Bv,by simp⟩
 .simp only[Ll,Jj]at h1;subst h1;have c:m=cap:=by simpa using t
  subst c;rw[ce3]at k;obtain⟨L,G,h2,F⟩:=Aon (α:=Int) (f:=λn:Int=>[AV.int .i64 n]) (s:=1) om A y o (j a len m rfl) (C a.block (by simp[Vn])) b (λi hi=>by obtain⟨cs,z,q⟩:=k i hi;obtain⟨E,r,_,_⟩:=DataW.trod_int Tryz.underlying3 q;exact⟨E,cs,z,by rw[r];rfl⟩);refine⟨_,L,h2,F,?_⟩;have:maxLen=9223372036854775807:=rfl;omega
end
end Go.Proofs
namespace Go.Proofs.YtecikbfimlolcaaGreatDoor
open Go Go.Ev
open Go.ChangeShapes Go.WideShapes Go.ChangeAt Go.RowKit
variable {j:World}{o:Value}
def At2:Hj Um (glH Um Tryz.prog.globals.size)=true:=by kernel_rfl
def ApY:(Rows.normAgainRow.laid.filter λx=>x.2.handleName?.isSome)=[]:=by kernel_rfl
def B31:Tryz.f4.resultTypes=#[4]:=by kernel_rfl
def AfI{base:Nat}(h:Value.okWide Tryz.prog j .any base 34 o):∀a len cap,o=.slice (some a) len cap->Ams j a:=by unfold Value.okWide at h;rw[Tryz.underlying34]at h;exact λa len cap b=>Yl (b ▸ h)
def AbR(hc:∀a len cap,o=.slice (some a) len cap->Ams j a):∀b∈Vn o,∃(arr:Array Value) (t:TypeId) (lo hi:Nat),j.heap[b]?=some (.cells arr t (lo,hi)):=by
 intro b c;unfold Vn at c;split at c
 .rename_i a len cap;obtain⟨_,arr,t,lo,hi,d,_⟩:=hc a len cap rfl;rw[Qv.1 c];exact⟨arr,t,lo,hi,d⟩
 .cases c
def AwV(H:Type)(enc:TypeId × Value->H)(W:World)(base:Nat)(args:Array Value)(ds L:List (DataW H))(a:List MemPlace)
 (S7:∀(j:Nat) t v,Tryz.f4.params[j]?=some t->args[j]?=some v->Value.okWide Tryz.prog W .any base t v)
 (hW:DataW.Whole enc Tryz.prog Tryz.f4.params.toList Rows.normAgainSpec.vars false W args.toList ds L a)
 (hL:laidMetH Tryz.prog Rows.normAgainRow.laid W) (hsh:W.ShapedOpen Tryz.prog):
 Calls Tryz.prog 4 args W λe G=>∃v,e=.returned v/\Rows.normAgainSpec.post enc Tryz.prog Tryz.f4 false true false false W args v G:=by
 have u:=hW;obtain⟨p,q,A,O,y,_,_⟩:=hW;have z:=A;have r:Tryz.f4.params.toList=[34,34]:=by rw[Tryz.params4]
 rw[r]at A;obtain⟨m,o,d1,d2,S,R,rfl,rfl,J,C,x⟩:=trodAll_two A;obtain⟨rfl,rfl⟩:=trodVars_none O;have s:WOk Tryz.prog Um W:=AiJ hsh At3 (laidMetH.plain ApY hL) AxZ;have Q:=s.size;have F:Value.okWide Tryz.prog W .any base 34 m:=S7 0 34 m (by rw[Tryz.params4];rfl) rfl;have D:Value.okWide Tryz.prog W .any base 34 o:=S7 1 34 o (by rw[Tryz.params4];rfl) rfl;let B:List Nat:=(Vn m++Vn o).filter λb=>Um.all λe=>!(e.g == b)
 have k:Qn Um W B:=by
  intro b c;obtain⟨h1,h2⟩:=bk.1 c;refine⟨?_,λe f d=>?_⟩
  .rcases U0.1 h1 with h1|h1
   .exact AbR (AfI F) b h1
   .exact AbR (AfI D) b h1
  .have:=Od.1 h2 e f;simp[d]at this
 have l:∀b,b∈Vn m++Vn o->b∈B\/∃e∈Um,e.g=b:=by
  intro b c;by_cases h1:∃e∈Um,e.g=b
  .exact .inr h1
  .refine .inl (bk.2 ⟨c,Od.2 λe f=>?_⟩);have h2:¬ e.g=b:=λd=>h1 ⟨e,f,d⟩;simp[h2]
 obtain⟨u1,L1,a1,r1,K⟩:=AfE (B:=B) s Jq k (λb c=>l b (by simp[c])) F C;obtain⟨u2,L2,a2,M,I⟩:=AfE (B:=B) s Jq k (λb c=>l b (by simp[c])) D x;have P:=Bax u1 u2 L1 L2 (An:=#[m,o]) (h:=Adk Um W B) (σ:=Pn Tryz.prog.globals.size W B) (w:=W)
  (λe f=>by have:=(Mf Jq e f).1;show e.g<W.heap.size+W.heap.size;omega)
  (Aom s Jq k At2) a1 a2 K I rfl (λb c=>Aol Q k b c) (.cons r1 (.cons M (.nil _))) (λi hi=>@AuS _ _ _ _ i s Jq k hi) Aso
 refine P.mono λe G ⟨f,n⟩=>?_;subst f;have J:p=a:=by rw[y,F0]
 refine⟨_,rfl,[d1,d2],[],a,[],p,[],u,?_,?_,?_,World.keptBut_mono (λ_ d=>d.elim) n.but,λd=>by cases d⟩
 .rw[B31];exact trodAll_mk1 (shut_bool Tryz.underlying4 true)
 .exact Amy A43 A44 A94 n (λt E=>by
   rw[r]at E;have:t=34:=by simpa using E
   rw[this];exact az (by kernel_rfl)) z
 .rfl
end Go.Proofs.YtecikbfimlolcaaGreatDoor
