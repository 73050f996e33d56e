/- The contract of the row of NormReads: in every world that fits the row the call returns true, and what was there is as it was. -/
import Derived.Test.YtmjmhajonaelcaaGreatDoorEvXb
import Derived.Test.YtmjmhajonaelcaaGreatDoorEvR4
import Derived.Test.YtmjmhajonaelcaaGreatDoorEvFK
import Derived.Deep.DeepHandedRow
import Derived.ChangeMaps5
set_option linter.all false
set_option maxRecDepth 100000
noncomputable section
namespace Go.Proofs
open Go Go.Ev Go.Nm Go.Ev.Sx
open Go.Proofs.YtmjmhajonaelcaaGreatDoor (Um gl0 gl2 AhM Nk Jq)
def Bg9:Tab:=⟨16,[⟨4,[],.bool true⟩]⟩
abbrev CK:=ApJ Um Bg9 (CB 72064)
def Sj{g:FuncId}(args:uw)(h:H)(a:Nat.beq (Nat.land 16 (Nat.pow 2 g)) 0=true:=by decide):CK.call g args h=(CB 72064).call g args h:=by
 have e:Hl Bg9 g args=none:=by unfold Hl;rw[show Bg9.Azg=16 from rfl,a]
 show(@Option.rec _ (λ_=>OR) ((CB 72064).call g args h) (λv=>Abq Um v h) (Hl Bg9 g args):OR)=_;rw[e]
def ApD{h}(a:Hj Um h=true):CK.call 4 [] h=.ok (.bool true) h:=by have e:Hl Bg9 4 []=some _:=rfl;show(Option.rec ((CB 72064).call 4 [] h) (λv=>Abq _ v h) (Hl Bg9 4 []):OR)=_;rw[e];unfold Abq;rw[a]
def Xy{h h1}(g:Ai h h1):∀gl,(∀e∈gl,e.g<h.nx)->Hj gl h=true->Hj gl h1=true
|[],_,_=>rfl
|e::gl,d,a=>by
 have c:=AjB a e Wm ..;unfold Hj at a ⊢;rw[c]at a;rw[(g.Cf _ (d e Wm ..)).trans c];dsimp at a ⊢;rcases bf (Sh ..)with b|b
 .rw[b]at a ⊢;rcases bf (Nat.beq ..)with a2|a2;. rw[a2]at a ⊢;exact Xy g _ (λe f=>d e (Vo _ f)) a
  simp_all
 simp_all
def Bg6(s:uq)(h:H)(f:∀c∈s,c<256)(a:∀e∈Um,e.g<h.nx)(d:Hj Um h=true)(m:EG h):Ah h (λr _=>r=.bool true) (Fy PP CK 3 [.str s] h):=by
 have A:S0 h:=by
  have h1:(⟨0,gl0,197⟩:GE)∈Um:=by simp[Um]
  exact⟨a _ h1,197,.exact,AjB d _ h1,trivial⟩
 have E:AeZ h:=by
  have h1:(⟨1,gl2,225⟩:GE)∈Um:=by simp[Um]
  exact⟨AjB d _ h1,by have:=m.lt;omega⟩
 have i:Ah h (λr _=>r=.bool true) (Ay PP CK 1048576 true 3 [.str s] h):=by
  refine r400 CK 1048576 ?_ ?_ ?_ ?_ ?_ E A m
  .intro h1 g;rw[ApD (Xy g Um a d)];exact Lo (Ai.refl h1) rfl
  .intro z h1 p g e;rw[Sj];exact(z62 f h1 p g e).mono λr b _ i=>Bg2 z i
  .intro Q y C n K D j l h1 q p g e;rw[Sj];exact z37 K D j l h1 q p g e
  .intro Q y C n K h1 p g e;rw[Sj];exact x62 K h1 p g e
  .intro q B j l o t x h h1 b k u w;rw[Sj];exact z12 q B j l o t x h h1 b k u w
 obtain⟨v,h1,b,k⟩:=i;exact⟨v,h1,Jn (Ye _) b,k⟩
def bo3:Bg PP 3=true:=rfl
def Aou{σ}{v}(h:Au σ (.bool true) v):v=.bool true:=by cases h;rfl
def B1w s:∀c∈bytesOf s,c<256:=by intro c hc;unfold bytesOf at hc;simp at hc;obtain⟨x,_,rfl⟩:=hc;exact x.toNat_lt
def Ber s{h}{σ}{w}(c:∀e∈Um,e.g<h.nx)(a:Hj Um h=true)(d:EG h)
 (hlg:h.lg=[]) (hσ:∀b,h.nx<=b->σ b=none) (hms:∀i,h.nx<=@Bq i->@Ms i PP.globals.size σ h w) (hg:Vm PP.globals.size σ):
 Calls PP 3 #[.string s] w λe w'=>e=.returned (.bool true)/\Kept w w':=by refine(AgZ mixed Nk (λi=>Ahj (Xh mixed Nk u6 _) Jq λo a=>by rcases W9.1 a with rfl;exact AhM) bo3 (Bg6 _ h (B1w s) c a d) hlg hσ (.cons (.str s) (.nil _)) hms hg).mono λe w' j=>?_;obtain⟨v,v',l,rfl,⟨h',rfl⟩,f,k⟩:=j;rw[Aou f];grind
end Go.Proofs
namespace Go.Proofs.YtmjmhajonaelcaaGreatDoor
open Go Go.Ev Go.Ev.Sx
open Go.ChangeShapes Go.WideShapes Go.ChangeAt Go.RowKit
def At2:Hj Um (glH Um Tryz.prog.globals.size)=true:=rfl
def ApY:(Rows.normReadsRow.laid.filter λx=>x.2.handleName?.isSome)=[]:=rfl
def Ccy:Tryz.f3.resultTypes=#[4]:=rfl
def no4:∀e∈Um,e.g≠4:=by intro e a;simp[Um,Tu,Ww,Oq]at a;grind
def Bwe{W:World}(k:laidMet Tryz.prog Rows.normReadsRow.laid W)(c:W.ShapedOpen Tryz.prog):∃T v',W.heap[4]?=some (.cells #[.iface T v'] 102):=by
 obtain⟨g,t,cs,s,p,f,h,o,i⟩:=Lib.laidMet.reads k (n := "strconv.ErrRange") (d:=Rows.laid_strconv_ErrRange) (by simp[Rows.normReadsRow]);have q:Tryz.prog.globalNamed "strconv.ErrRange"=some 4:=by kernel_rfl
 have m:(Tryz.prog.globals[4]?).map (·.type)=some 102:=by kernel_rfl
 rw[q]at f;cases f;rw[m]at h;cases h;have l:(((begin Tryz.prog (λ_ _=>0) default).world.heap[4]?).bind Obj.row?).map (·.2)=some 102:=by kernel_rfl
 obtain⟨⟨zero,t⟩,e,a⟩:=Sw.1 l;have a:t=102:=a;subst a;obtain⟨b,h1,_⟩:=c.1 4 zero 102 (by rw[At4];decide) e;have j:b=cs:=by unfold World.var? at o;simp_all
 subst j;obtain⟨_,T,v',r,_,_⟩:=iface_of_trod Tryz.underlying102 i;refine⟨T,v',?_⟩;rw[h1];congr 2;cases b;simp_all
def A1E(H:Type)(enc:TypeId × Value->H)(W:World)(base:Nat)(args:Array Value)(ds B:List (DataW H))(a:List MemPlace)
 (S7:∀(j:Nat) t v,Tryz.f3.params[j]?=some t->args[j]?=some v->Value.okWide Tryz.prog W .any base t v)
 (hW:DataW.Whole enc Tryz.prog Tryz.f3.params.toList Rows.normReadsSpec.vars false W args.toList ds B a)
 (hL:laidMetH Tryz.prog Rows.normReadsRow.laid W) (hsh:W.ShapedOpen Tryz.prog):
 Calls Tryz.prog 3 args W λe x=>∃v,e=.returned v/\Rows.normReadsSpec.post enc Tryz.prog Tryz.f3 false true false false W args v x:=by
 have m:=hW;obtain⟨p,q,k,G,A,_,_⟩:=hW;have d:=k;have l:Tryz.f3.params.toList=[9]:=by simp
 rw[l]at k;obtain⟨r,d1,rfl,rfl,f⟩:=trodAll_one k;obtain⟨rfl,rfl⟩:=trodVars_none G;have u:laidMet Tryz.prog Rows.normReadsRow.laid W:=laidMetH.plain ApY hL;have D:WOk Tryz.prog Um W:=AiJ hsh At3 u AxZ;have C:Value.okWide Tryz.prog W .any base 9 r:=S7 0 9 r (by rfl) rfl;obtain⟨s,rfl,E,y,_⟩:=Go.ChangeMaps.open_string Tryz.underlying9 C f;obtain⟨T,v',hc⟩:=Bwe u hsh;have F:Vm Tryz.prog.globals.size (Y0 Tryz.prog.globals.size W):=λg z=>⟨_,Xo z,rfl⟩;have I:=Go.Proofs.Ber s (h:=Bbv Um Tryz.prog.globals.size 4 T 102) (σ:=Y0 Tryz.prog.globals.size W)
  (λe n=>(Mf Jq e n).1) (BgB Jq no4 At2) ⟨T,_,rfl,by rw[show(Bbv _ Tryz.prog.globals.size 4 T _).nx=9 from At4];simp⟩ rfl
  λb o=>by have o:Tryz.prog.globals.size<=b:=o;unfold Y0;grind (λi hi=>@Bx1 _ _ _ _ _ _ i D hi Jq (by simp) no4 _ _ _ hc (by simp)) F;refine I.mono λe x ⟨n,c⟩=>?_;subst n;refine⟨_,rfl,_,_,_,[],p,[],m,?_,?_,?_,World.keptBut_mono (λ_ w=>w.elim) c.but,λw=>by grind⟩;. exact trodAll_mk1 (shut_bool Tryz.underlying4 _)
 .exact Amy A43 A44 A94 c λt J=>by simp_all d
 rfl
end Go.Proofs.YtmjmhajonaelcaaGreatDoor
