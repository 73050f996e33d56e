/- The contracts of NormKeeps put together. -/
import Derived.Test.YtecikbfimlolcaaGreatDoorEvKk
set_option maxRecDepth 100000
noncomputable section
namespace Go.Proofs
open Go Go.Ev Go.Nm Go.Ev.Sx
theorem P3.add {T:Df} (ht:P3 PP T) {g:FuncId} {S:List AV->Option AV} (hs:∀args v,S args=some v->Nx PP [] ⟨g,args,v⟩/\I7 args):P3 PP (T.ext g S):=by
 refine ⟨λg' args v hv=>?_⟩
 by_cases he:g'=g
 . subst he
   rw [Ahs] at hv
   exact hs args v hv
 . rw [Aew _ _ he] at hv
   exact ht.ok g' args v hv
theorem AnI (g:FuncId) (args:List AV) (v:AV) (hb:Bg PP g=true) (hr:Yt PP.globals.size v ((A2N PP 40).call g args (glH [] PP.globals.size))=true):Nx PP [] ⟨g,args,v⟩:=
 Lv (Acd mixed pok 40) (by have:=gsz;rw [AfK];omega) Ah1 ⟨g,args,v⟩ hb hr
def Ang (b:Bool):List Nat:=if b then [49,48,48,48,48,48,48] else [49]
def A0g (b:Bool):AV:=if b then .Bj [.int .i64 (-1),.int .i64 0] else .Bj [.int .i64 1,.int .i64 0]
theorem Bgy (a b:List Nat × Bool) (h:[AV.str a.1,AV.str (Ang a.2)]=[AV.str b.1,AV.str (Ang b.2)]):a=b:=by
 obtain ⟨a1,a2⟩:=a
 obtain ⟨b1,b2⟩:=b
 simp only [List.cons.injEq,AV.str.injEq,and_true] at h
 obtain ⟨rfl,h2⟩:=h
 cases a2<;>cases b2<;>first|rfl|(simp [Ang] at h2)
def S92:=Dv (λs:List Nat=>[.str s]) (λ_=>.int .i64 0) (λs=>s∈Sw)
def S93:=Dv (λp:List Nat × Bool=>[.str p.1,.str (Ang p.2)]) (λp=>A0g p.2) (λp=>p.1∈Sw)
def T28:Df:=T27.ext 92 S92
def T29:Df:=T28.ext 93 S93
theorem BeV:(Sw.all λs=>Yt PP.globals.size (.int .i64 0) ((A2N PP 40).call 92 [.str s] (glH [] PP.globals.size)))=true:=by kernel_rfl
theorem BeW (b:Bool):(Sw.all λs=>Yt PP.globals.size (A0g b) ((A2N PP 40).call 93 [.str s,.str (Ang b)] (glH [] PP.globals.size)))=true:=by cases b<;>kernel_rfl
theorem t28:P3 PP T28:=P3.add t27 λargs v hs=>by
 obtain ⟨a,h1,rfl,rfl⟩:=Acu hs
 exact ⟨AnI 92 _ _ (by kernel_rfl) (List.all_eq_true.1 BeV a h1),.cons (.str _) .nil⟩
theorem t29:P3 PP T29:=P3.add t28 λargs v hs=>by
 obtain ⟨⟨a,b⟩,h1,rfl,rfl⟩:=Acu hs
 exact ⟨AnI 93 _ _ (by kernel_rfl) (List.all_eq_true.1 (BeW b) a h1),.cons (.str _) (.cons (.str _) .nil)⟩
end Go.Proofs
namespace Go.Proofs
open Go Go.Ev Go.Nm Tryz Go.Ev.Sx
abbrev C (d:Nat):Ac:=cD PP T29 d
theorem tN {g:FuncId} (q:T29 g=λ_=>none:=by simp [T1,T2,T3,T4,T5,T6,T7,T8,T9,Iq,Ir,Is,I2,I8,Jy,J2,Ol,Ot,O1,Rk,Sa,U4,T23,T24,T25,T26,T27,T28,T29,Bb]):T29 g=λ_=>none:=q
theorem tS {g:FuncId} {S:List AV->Option AV} (q:T29 g=S:=by simp [T1,T2,T3,T4,T5,T6,T7,T8,T9,Iq,Ir,Is,I2,I8,Jy,J2,Ol,Ot,O1,Rk,Sa,U4,T23,T24,T25,T26,T27,T28,T29,Bb]):T29 g=S:=q
theorem Gp {g:FuncId} {args:List AV} {h0 h:H} {Q:AV->H->Prop} {q:Bool} {d:Nat} (hT:T29 g=λ_=>none) (hc:Ah h0 Q (Ay PP (C d) 1048576 q g args h)):Ah h0 Q ((C (d+1)).call g args h):=by
 rw [cdN hT]
 obtain ⟨v,h1,h2,h3⟩:=hc
 exact ⟨v,h1,Jn (Nat.le_refl _) h2,h3⟩
theorem upT {g:FuncId} {args:List AV} {tk:Nat} {vl:AV} {h:H} {Q:AV->H->Prop} {q:Bool} {d:Nat} (hT:T29 g=λ_=>none) (hc:D6 tk vl h Q (Ay PP (C d) 1048576 q g args h)):D6 tk vl h Q ((C (d+1)).call g args h):=by
 obtain ⟨m,hm,hg⟩:=hc
 exact ⟨m,hm,Gp hT hg⟩
theorem pr {d k:Nat} (h:k+1<=d):∃e,d=e+1/\k<=e:=⟨d - 1,by omega,by omega⟩
theorem c78 (d:Nat) (hd:1<=d):R78 (C d):=by
 obtain ⟨e,rfl,he⟩:=pr hd
 exact λn k h h1 h2=>Gp tN (r78 _ _ n k h h1 h2)
theorem c38 (d:Nat) (hd:2<=d):R38 (C d):=by
 obtain ⟨e,rfl,he⟩:=pr hd
 exact λtk vl L k h h1 h2 h3 h4 h5=>upT tN (r38 _ _ (c78 e he) tk vl L k h h1 h2 h3 h4 h5)
theorem c82 (d:Nat) (hd:1<=d):R82 (C d):=by
 obtain ⟨e,rfl,he⟩:=pr hd
 exact λk h=>Gp tN (r82 _ _ k h)
theorem A1Z (d:Nat) (hd:1<=d):Axa (C d):=by
 obtain ⟨e,rfl,he⟩:=pr hd
 exact λl v h h1 h2=>Gp tN (A9Y _ _ l v h h1 h2)
theorem c81 (d:Nat) (hd:3<=d):R81 (C d):=by
 obtain ⟨e,rfl,he⟩:=pr hd
 exact λtk vl L nm h h1=>upT tN (r81 _ _ (c38 e he) (c82 e om) (A1Z e om) tk vl L nm h h1)
theorem c83 (d:Nat) (hd:2<=d):R83 (C d):=by
 obtain ⟨e,rfl,he⟩:=pr hd
 exact λnm a b w ws h h1 h2=>Gp tN (r83 _ _ (A1Z e he) nm a b w ws h h1 h2)
theorem c43 (d:Nat) (hd:4<=d):R43 (C d):=by
 obtain ⟨e,rfl,he⟩:=pr hd
 exact λtk vl L h h1=>upT tN (r43 _ _ (c38 e om) (c81 e he) (c82 e om) (c83 e om) (by decide) tk vl L h h1)
theorem c15 (d:Nat) (hd:5<=d):R15 (C d):=by
 obtain ⟨e,rfl,he⟩:=pr hd
 exact λvl L h h1 h2=>Gp tN (r15 _ _ (c43 e he) vl L h h1 h2)
theorem c79 (d:Nat) (hd:1<=d):R79 (C d):=by
 obtain ⟨e,rfl,he⟩:=pr hd
 exact λtk A1 cv i h h1 h2 h3 h4=>Gp tN (r79 _ _ (by decide) tk A1 cv i h h1 h2 h3 h4)
theorem c40 (d:Nat) (hd:1<=d):R40 (C d):=by
 obtain ⟨e,rfl,he⟩:=pr hd
 exact λtk ss sv t o h h1 h2=>Gp tN (r40 _ _ (by decide) tk ss sv t o h h1 h2)
theorem c80:∀(k:Nat),k<=3->∀d,k+3<=d->R80 (C d) k/\R41 (C d) k
 |0,_,d,hd=>by
  obtain ⟨e,rfl,he⟩:=pr (show 2+1<=d by omega)
  exact ⟨λtk vl L cv A1 m h h1 h2 h3 h4 h5=>upT tN (r80 _ _ (c38 e he) 0 om (λe h=>by omega) tk vl L cv A1 m h h1 h2 h3 h4 h5),λtk vl L cv A1 m h h1 h2 h3 h4 h5=>upT tN (r41 _ _ (c38 e he) (c79 e om) 0 om (λe h=>by omega) tk vl L cv A1 m h h1 h2 h3 h4 h5)⟩
 |k+1,hk,d,hd=>by
  obtain ⟨e,rfl,he⟩:=pr (show 2+1<=d by omega)
  have ih:∀x,k+1=x+1->R80 (C e) x/\R41 (C e) x:=λx hx=>by
   obtain rfl:k=x:=by omega
   exact c80 k om e om
  exact ⟨λtk vl L cv A1 m h h1 h2 h3 h4 h5=>upT tN (r80 _ _ (c38 e he) (k+1) hk ih tk vl L cv A1 m h h1 h2 h3 h4 h5),λtk vl L cv A1 m h h1 h2 h3 h4 h5=>upT tN (r41 _ _ (c38 e he) (c79 e om) (k+1) hk ih tk vl L cv A1 m h h1 h2 h3 h4 h5)⟩
theorem c39 (d:Nat) (hd:3<=d):R39 (C d):=by
 obtain ⟨e,rfl,he⟩:=pr hd
 exact λtk vl L bq h q vc vo vm a b h1 h2=>Gp tN (r39 _ _ (c38 e he) (by decide) tk vl L bq h q vc vo vm a b h1 h2)
theorem c42 (d:Nat) (hd:7<=d):R42 (C d):=by
 obtain ⟨e,rfl,he⟩:=pr hd
 exact λtk vl L bq h cv A1 q vm h1 h2 h3=>Gp tN (r42 _ _ (c38 e om) (c79 e om) (c80 3 om e om).1 (by decide) tk vl L bq h cv A1 q vm h1 h2 h3)
theorem c14 (d:Nat) (hd:8<=d):R14 (C d):=by
 obtain ⟨e,rfl,he⟩:=pr hd
 exact λvl sv L ss h h1 h2 h3 h4=>Gp tN (r14 _ _ (c38 e om) (c39 e om) (c40 e om) (c80 3 om e om).2 (c42 e he) vl sv L ss h h1 h2 h3 h4)
theorem c26 (d:Nat) (hd:1<=d):R26 (C d):=by
 obtain ⟨e,rfl,he⟩:=pr hd
 exact λl v h h1 h2=>Gp tN (r26 _ _ l v h h1 h2)
theorem c27 (d:Nat) (hd:1<=d):R27 (C d):=by
 obtain ⟨e,rfl,he⟩:=pr hd
 exact λl v h h1 h2=>Gp tN (r27 _ _ l v h h1 h2)
theorem BiF (d:Nat) (hd:1<=d):Be1 (C d):=by
 obtain ⟨e,rfl,he⟩:=pr hd
 intro s h
 rw [Xi (S:=A15) tS (Cd (a:=s) (by intro a b h;simpa using h) (dom:=λ_=>True) trivial) h]
 exact Lo (Ai.refl h) rfl
theorem c92 (d:Nat):R92 (C (d+1)):=by
 intro s h hs
 rw [Xi (S:=S92) tS (Cd (a:=s) (by intro a b h;simpa using h) (dom:=λs=>s∈Sw) hs) h]
 exact Lo (Ai.refl h) rfl
theorem s93 (s:List Nat) (b:Bool) (hs:s∈Sw):S93 [.str s,.str (Ang b)]=some (A0g b):=Cd (enc:=λp:List Nat × Bool=>[AV.str p.1,.str (Ang p.2)]) (out:=λp=>A0g p.2) Bgy (a:=(s,b)) (dom:=λp=>p.1∈Sw) hs
theorem Bje (d:Nat):Bbz (C (d+1)):=by
 intro s h hs
 rw [Xi (S:=S93) (args:=[.str s,.str [49]]) tS (s93 s false hs) h]
 exact Lo (Ai.refl h) rfl
theorem Bjf (d:Nat):Bb5 (C (d+1)):=by
 intro s h hs
 rw [Xi (S:=S93) (args:=[.str s,.str [49,48,48,48,48,48,48]]) tS (s93 s true hs) h]
 exact Lo (Ai.refl h) rfl
theorem Bi7 (d:Nat) (hd:1<=d):Bbq (C d):=by
 obtain ⟨e,rfl,he⟩:=pr hd
 exact λx1 x2 x3 x4 x5 x6 x7 x8=>Gp tN (Bla _ _  x1 x2 x3 x4 x5 x6 x7 x8)
theorem c193 (d:Nat) (hd:1<=d):Bbr (C d):=by
 obtain ⟨e,rfl,he⟩:=pr hd
 exact λx1 x2 x3 x4 x5 x6 x7 x8=>Gp tN (Bln _ _  x1 x2 x3 x4 x5 x6 x7 x8)
theorem Bi6 (d:Nat) (hd:2<=d):Bev (C d):=by
 obtain ⟨e,rfl,he⟩:=pr hd
 exact λx1 x2 x3 x4 x5 x6 x7 x8 x9 x10=>Gp tN (BkZ _ _ (by decide) (Bi7 e om) x1 x2 x3 x4 x5 x6 x7 x8 x9 x10)
theorem BiI (d:Nat) (hd:2<=d):Be4 (C d):=by
 obtain ⟨e,rfl,he⟩:=pr hd
 exact λx1 x2 x3 x4 x5 x6 x7 x8 x9 x10=>Gp tN (Blm _ _ (by decide) (c193 e om) x1 x2 x3 x4 x5 x6 x7 x8 x9 x10)
theorem BiH (d:Nat) (hd:1<=d):Be3 (C d):=by
 obtain ⟨e,rfl,he⟩:=pr hd
 exact λx1 x2 x3 x4 x5 x6=>Gp tN (Bll _ _ (by decide) x1 x2 x3 x4 x5 x6)
theorem c138 (d:Nat) (hd:2<=d):Bew (C d):=by
 obtain ⟨e,rfl,he⟩:=pr hd
 exact λx1 x2 x3 x4 x5 x6=>Gp tN (Blb _ _ (BiH e om) x1 x2 x3 x4 x5 x6)
theorem BiQ (d:Nat) (hd:1<=d):BeF (C d):=by
 obtain ⟨e,rfl,he⟩:=pr hd
 exact λx1 x2 x3 x4 x5 x6=>Gp tN (Bly _ _ (by decide) x1 x2 x3 x4 x5 x6)
theorem BiG (d:Nat) (hd:2<=d):Be2 (C d):=by
 obtain ⟨e,rfl,he⟩:=pr hd
 exact λx1 x2 x3 x4 x5 x6=>Gp tN (Blk _ _ (BiQ e om) x1 x2 x3 x4 x5 x6)
theorem BeZ (d:Nat) (hd:1<=d):Bbp (C d):=by
 obtain ⟨e,rfl,he⟩:=pr hd
 exact λx1 x2=>Gp tN (BkY _ _  x1 x2)
theorem c84 (d:Nat) (hd:3<=d):R84 (C d):=by
 obtain ⟨e,rfl,he⟩:=pr hd
 exact λx1 x2 x3 x4 x5=>Gp tN (r84 _ _ (Bi6 e om) (BeZ e om) x1 x2 x3 x4 x5)
theorem Bi8 (d:Nat) (hd:3<=d):Bex (C d):=by
 obtain ⟨e,rfl,he⟩:=pr hd
 exact λx1 x2 x3 x4 x5 x6=>Gp tN (Blc _ _ (BiI e om) (BeZ e om) x1 x2 x3 x4 x5 x6)
theorem c87 (d:Nat) (hd:4<=d):R87 (C d):=by
 obtain ⟨e,rfl,he⟩:=pr hd
 exact λx1 x2 x3 x4 x5 x6=>Gp tN (r87 _ _ (Bi8 e om) x1 x2 x3 x4 x5 x6)
theorem c90 (d:Nat) (hd:1<=d):R90 (C d):=by
 obtain ⟨e,rfl,he⟩:=pr hd
 exact λx1 x2=>Gp tN (r90 _ _  x1 x2)
theorem c99 (d:Nat) (hd:1<=d):R99 (C d):=by
 obtain ⟨e,rfl,he⟩:=pr hd
 exact λx1 x2=>Gp tN (r99 _ _  x1 x2)
theorem c97 (d:Nat) (hd:1<=d):R97 (C d):=by
 obtain ⟨e,rfl,he⟩:=pr hd
 exact λx1 x2=>Gp tN (r97 _ _  x1 x2)
theorem BiZ (d:Nat) (hd:1<=d):Bbx (C d):=by
 obtain ⟨e,rfl,he⟩:=pr hd
 exact λx1 x2=>Gp tN (Bl7 _ _  x1 x2)
theorem BiY (d:Nat) (hd:2<=d):Bbw (C d):=by
 obtain ⟨e,rfl,he⟩:=pr hd
 exact λx1 x2 x3=>Gp tN (Bl6 _ _ (BiF e om) x1 x2 x3)
theorem BiU (d:Nat) (hd:3<=d):Bbu (C d):=by
 obtain ⟨e,rfl,he⟩:=pr hd
 exact λx1 x2 x3 x4 x5 x6 x7=>Gp tN (Bl2 _ _ (by decide) (BiY e om) (BiZ e om) x1 x2 x3 x4 x5 x6 x7)
theorem BbO (d:Nat) (hd:4<=d):A7Y (C d):=by
 obtain ⟨e,rfl,he⟩:=pr hd
 exact λx1 x2 x3 x4=>Gp tN (Blt _ _ (by decide) (BiU e om) x1 x2 x3 x4)
theorem BiW (d:Nat) (hd:5<=d):Bbv (C d):=by
 obtain ⟨e,rfl,he⟩:=pr hd
 exact λx1 x2 x3 x4=>Gp tN (Bl4 _ _ (BbO e om) x1 x2 x3 x4)
theorem Bja (d:Nat) (hd:6<=d):BeK (C d):=by
 obtain ⟨e,rfl,he⟩:=pr hd
 exact λx1 x2 x3 x4 x5 x6 x7=>Gp tN (Bl8 _ _ (by decide) (BiW e om) x1 x2 x3 x4 x5 x6 x7)
theorem BiV (d:Nat) (hd:7<=d):BeI (C d):=by
 obtain ⟨e,rfl,he⟩:=pr hd
 exact λx1 x2 x3 x4 x5 x6 x7=>Gp tN (Bl3 _ _ (Bja e om) x1 x2 x3 x4 x5 x6 x7)
theorem BiS (d:Nat) (hd:1<=d):Bbt (C d):=by
 obtain ⟨e,rfl,he⟩:=pr hd
 exact λx1 x2 x3 x4 x5 x6 x7 x8=>Gp tN (Bl0 _ _  x1 x2 x3 x4 x5 x6 x7 x8)
theorem Bfe (d:Nat) (hd:2<=d):Ba7 (C d):=by
 obtain ⟨e,rfl,he⟩:=pr hd
 exact λx1 x2 x3 x4 x5 x6 x7 x8 x9=>Gp tN (BgD _ _ (by decide) (BiS e om) x1 x2 x3 x4 x5 x6 x7 x8 x9)
theorem BiR (d:Nat) (hd:3<=d):BeG (C d):=by
 obtain ⟨e,rfl,he⟩:=pr hd
 exact λx1 x2 x3 x4 x5 x6 x7 x8 x9=>Gp tN (Blz _ _ (Bfe e om) x1 x2 x3 x4 x5 x6 x7 x8 x9)
theorem BiX (d:Nat) (hd:1<=d):BeJ (C d):=by
 obtain ⟨e,rfl,he⟩:=pr hd
 exact λx1 x2 x3 x4 x5 x6 x7=>Gp tN (Bl5 _ _ (by decide) x1 x2 x3 x4 x5 x6 x7)
theorem BiT (d:Nat) (hd:8<=d):BeH (C d):=by
 obtain ⟨e,rfl,he⟩:=pr hd
 exact λx1 x2 x3 x4 x5 x6=>Gp tN (Bl1 _ _ (BiV e om) (BiX e om) x1 x2 x3 x4 x5 x6)
theorem Bff (d:Nat) (hd:9<=d):A7R (C d):=by
 obtain ⟨e,rfl,he⟩:=pr hd
 exact λx1 x2 x3 x4 x5 x6 x7 x8=>Gp tN (Blp _ _ (BbO e om) (BiR e om) (BiT e om) x1 x2 x3 x4 x5 x6 x7 x8)
theorem BiL (d:Nat) (hd:5<=d):Bio (C d):=by
 obtain ⟨e,rfl,he⟩:=pr hd
 exact λx1 x2 x3=>Gp tN (Bls _ _ (BbO e om) x1 x2 x3)
theorem BiM (d:Nat) (hd:1<=d):Biq (C d):=by
 obtain ⟨e,rfl,he⟩:=pr hd
 exact λx1 x2 x3=>Gp tN (Blu _ _  x1 x2 x3)
theorem BiN (d:Nat) (hd:1<=d):Bir (C d):=by
 obtain ⟨e,rfl,he⟩:=pr hd
 exact λx1 x2 x3=>Gp tN (Blv _ _  x1 x2 x3)
theorem BiO (d:Nat) (hd:1<=d):Bis (C d):=by
 obtain ⟨e,rfl,he⟩:=pr hd
 exact λx1 x2 x3=>Gp tN (Blw _ _  x1 x2 x3)
theorem BiP (d:Nat) (hd:10<=d):BeD (C d):=by
 obtain ⟨e,rfl,he⟩:=pr hd
 exact λx1 x2 x3=>Gp tN (Blx _ _ (Bff e om) (by decide) x1 x2 x3)
theorem BiJ (d:Nat) (hd:1<=d):Be7 (C d):=by
 obtain ⟨e,rfl,he⟩:=pr hd
 exact λx1 x2 x3=>Gp tN (Blq _ _  x1 x2 x3)
theorem c4 (d:Nat) (hd:6<=d):RG4 (C d):=by
 rintro g (rfl|rfl|rfl|rfl)
 . exact BiL d om
 . exact BiM d om
 . exact BiN d om
 . exact BiO d om
theorem BiK (d:Nat) (hd:7<=d):Bbs (C d):=by
 obtain ⟨e,rfl,he⟩:=pr hd
 exact λx1 x2 x3 x4 x5 x6 x7 x8 x9=>Gp tN (Blr _ _ (c4 e om) x1 x2 x3 x4 x5 x6 x7 x8 x9)
theorem BiE (d:Nat) (hd:2<=d):Be0 (C d):=by
 obtain ⟨e,rfl,he⟩:=pr hd
 exact λx1=>Gp tN (Blj _ _ (BiJ e om) x1)
theorem c94 (d:Nat) (hd:12<=d):R94 (C d):=by
 obtain ⟨e,rfl,he⟩:=pr hd
 exact λx1 x2 x3=>Gp tN (r94 _ _ (BiE e om) (BiK e om) (BiP e om) (by decide) x1 x2 x3)
theorem c59 (d:Nat) (hd:13<=d):R59 (C d):=by
 obtain ⟨e,rfl,he⟩:=pr hd
 exact λx1 x2 x3 x4 x5=>Gp tN (r59 _ _ (c94 e om) (c84 e om) (by decide) x1 x2 x3 x4 x5)
theorem c46 (d:Nat) (hd:4<=d):R46 (C d):=by
 obtain ⟨e,rfl,he⟩:=pr hd
 exact λx1 x2 x3 x4 x5 x6 x7 x8 x9 x10 x11 x12 x13 x14=>Gp tN (r46 _ _ (c84 e om) x1 x2 x3 x4 x5 x6 x7 x8 x9 x10 x11 x12 x13 x14)
theorem BiD (d:Nat) (hd:10<=d):Bez (C d):=by
 obtain ⟨e,rfl,he⟩:=pr hd
 exact λx1 x2 x3 x4 x5=>Gp tN (Bli _ _ (Bff e om) x1 x2 x3 x4 x5)
theorem c91 (d:Nat) (hd:11<=d):R91 (C d):=by
 obtain ⟨e,rfl,he⟩:=pr hd
 exact λx1 x2 x3 x4 x5=>Gp tN (r91 _ _ (BiD e om) x1 x2 x3 x4 x5)
theorem c88 (d:Nat) (hd:1<=d):R88 (C d):=by
 obtain ⟨e,rfl,he⟩:=pr hd
 exact λx1 x2 x3 x4 x5 x6 x7=>Gp tN (r88 _ _ (by decide) x1 x2 x3 x4 x5 x6 x7)
theorem Bfa (d:Nat) (hd:1<=d):A7H (C d):=by
 obtain ⟨e,rfl,he⟩:=pr hd
 exact λx1 x2 x3 x4 x5 x6 x7=>Gp tN (Blh _ _ (by decide) x1 x2 x3 x4 x5 x6 x7)
theorem BiC (d:Nat) (hd:1<=d):A7y (C d):=by
 obtain ⟨e,rfl,he⟩:=pr hd
 exact λx1 x2 x3 x4 x5 x6 x7 x8 x9 x10=>Gp tN (Blg _ _  x1 x2 x3 x4 x5 x6 x7 x8 x9 x10)
theorem BiB (d:Nat) (hd:2<=d):A7x (C d):=by
 obtain ⟨e,rfl,he⟩:=pr hd
 exact λx1 x2 x3 x4 x5 x6 x7 x8 x9 x10 x11 x12=>Gp tN (Blf _ _ (Bfa e om) x1 x2 x3 x4 x5 x6 x7 x8 x9 x10 x11 x12)
theorem c194 (d:Nat) (hd:5<=d):Be6 (C d):=by
 obtain ⟨e,rfl,he⟩:=pr hd
 exact λx1 x2 x3 x4 x5 x6 x7 x8 x9 x10 x11 x12 x13 x14 x15 x16 x17 x18 x19=>Gp tN (Blo _ _ (c87 e om) (BiG e om) x1 x2 x3 x4 x5 x6 x7 x8 x9 x10 x11 x12 x13 x14 x15 x16 x17 x18 x19)
theorem Bi9 (d:Nat) (hd:1<=d):Bey (C d):=by
 obtain ⟨e,rfl,he⟩:=pr hd
 exact λx1=>Gp tN (Bld _ _  x1)
theorem BiA (d:Nat) (hd:6<=d):A7u (C d):=by
 obtain ⟨e,rfl,he⟩:=pr hd
 exact λx1 x2 x3 x4 x5 x6 x7 x8 x9 x10 x11 x12 x13=>Gp tN (Ble _ _ (c87 e om) (c194 e om) x1 x2 x3 x4 x5 x6 x7 x8 x9 x10 x11 x12 x13)
theorem c89 (d:Nat) (hd:7<=d):R89 (C d):=by
 obtain ⟨e,rfl,he⟩:=pr hd
 exact λx1 x2 x3 x4 x5 x6 x7 x8 x9 x10=>Gp tN (r89 _ _ (by decide) (Bi9 e om) (BiA e om) (BiB e om) (BiC e om) (Bfa e om) x1 x2 x3 x4 x5 x6 x7 x8 x9 x10)
theorem c95 (d:Nat) (hd:1<=d):R95 (C d):=by
 obtain ⟨e,rfl,he⟩:=pr hd
 exact λx1 x2 x3 x4 x5=>Gp tN (r95 _ _  x1 x2 x3 x4 x5)
theorem c96 (d:Nat) (hd:1<=d):R96 (C d):=by
 obtain ⟨e,rfl,he⟩:=pr hd
 exact λx1 x2 x3 x4 x5=>Gp tN (r96 _ _  x1 x2 x3 x4 x5)
theorem c60 (d:Nat) (hd:2<=d):R60 (C d):=by
 obtain ⟨e,rfl,he⟩:=pr hd
 exact λx1 x2 x3 x4 x5=>Gp tN (r60 _ _ (by decide) (c95 e om) (c96 e om) x1 x2 x3 x4 x5)
theorem Mg (d:Nat) (hd:14<=d):R19 (C d):=by
 obtain ⟨e,rfl,he⟩:=pr hd
 exact λx1 x2 x3 x4 x5 x6 x7 x8 x9 x10 x11 x12=>Gp tN (r19 _ _ (c46 e om) (c59 e om) (c60 e om) x1 x2 x3 x4 x5 x6 x7 x8 x9 x10 x11 x12)
theorem c98 (d:Nat) (hd:1<=d):R98 (C d):=by
 obtain ⟨e,rfl,he⟩:=pr hd
 exact λx1 x2 x3 x4 x5=>Gp tN (r98 _ _  x1 x2 x3 x4 x5)
theorem c61 (d:Nat) (hd:2<=d):R61 (C d):=by
 obtain ⟨e,rfl,he⟩:=pr hd
 exact λx1 x2 x3 x4 x5 x6 x7=>Gp tN (r61 _ _ (c97 e om) (c98 e om) (c99 e om) x1 x2 x3 x4 x5 x6 x7)
theorem c21 (d:Nat) (hd:3<=d):R21 (C d):=by
 obtain ⟨e,rfl,he⟩:=pr hd
 exact λx1 x2 x3 x4 x5 x6 x7 x8 x9 x10 x11 x12 x13 x14 x15 x16 x17=>Gp tN (r21 _ _ (by decide) (c61 e om) x1 x2 x3 x4 x5 x6 x7 x8 x9 x10 x11 x12 x13 x14 x15 x16 x17)
theorem c86 (d:Nat) (hd:3<=d):R86 (C d):=by
 obtain ⟨e,rfl,he⟩:=pr hd
 exact λss q vc vo vm sv x a b cv v l h h1 h2 h3 h4=>Gp tN (r86 _ _ (c138 e om) h1 h2 v l h3 h4)
theorem c85 (d:Nat) (hd:4<=d):R85 (C d):=by
 obtain ⟨e,rfl,he⟩:=pr hd
 exact λss q vc vo vm sv x a b cv h h1 h2=>Gp tN (r85 _ _ (c86 e om) h1 h2)
theorem cPs (d:Nat) (hd:14<=d):RPs (C d):=by
 obtain ⟨e,rfl,he⟩:=pr hd
 obtain ⟨f,hf⟩:∃f,e=f+1:=⟨e - 1,by omega⟩
 intro g hg ss q vc vo vm sv x a b cv h K hV hQ
 obtain ⟨q0,kv⟩:=hQ.kv
 have hk:=hQ.pre.kind
 have h92:R92 (C e):=by rw [hf];exact c92 f
 have Bc8:Bbz (C e):=by rw [hf];exact Bje f
 have Bc9:Bb5 (C e):=by rw [hf];exact Bjf f
 have hp:q.W0=0\/a.pub=false/\1<=q.W0/\q.W0<=4:=by
  obtain ⟨a',h1,h2,h3,_⟩:=hQ.pre.tbl
  have:a'=a:=AdL K.sd.nd h1 K.ha (h2.trans K.hn.symm)
  rw [<- this]
  exact h3
 simp only [parts,List.mem_cons,List.not_mem_nil,or_false] at hg
 rcases hg with rfl|rfl|rfl|rfl|rfl|rfl|rfl|rfl|rfl|rfl|rfl|rfl
 . exact Gp tN (r47 _ _ (c59 e om) K)
 . exact Gp tN (r48 _ _ (by decide) (c85 e om) (c86 e om) K hk kv)
 . exact Gp tN (r49 _ _ (c84 e om) K)
 . exact Gp tN (r50 _ _ K hp)
 . exact Gp tN (r51 _ _ (c84 e om) (c87 e om) (c88 e om) K hV hQ.pre)
 . exact Gp tN (r52 _ _ (c89 e om) K hV hQ.E9)
 . exact Gp tN (r53 _ _ (c85 e om) (c89 e om) K hV kv hQ.code)
 . exact Gp tN (r54 _ _ (c85 e om) (c86 e om) (c90 e om) K hk kv)
 . exact Gp tN (r55 _ _ (c86 e om) (c87 e om) (c91 e om) K kv)
 . exact Gp tN (r56 _ _ (by decide) (c86 e om) (c87 e om) K hV kv)
 . exact Gp tN (r57 _ _ h92 Bc8 Bc9 K hQ.pre.fac)
 . exact Gp tN (r58 _ _ K hQ.pre.bits)
theorem c18 (d:Nat) (hd:15<=d):R18 (C d):=by
 obtain ⟨e,rfl,he⟩:=pr hd
 exact λss q vc vo vm sv h x1 x2 x3 x4 x5=>Gp tN (r18 _ _ (by decide) (c46 e om) (cPs e om) ss q vc vo vm sv h x1 x2 x3 x4 x5)
theorem c20 (d:Nat) (hd:3<=d):R20 (C d):=by
 obtain ⟨e,rfl,he⟩:=pr hd
 exact λtk vl cv L A1 h x1 x2 x3 x4 x5=>upT tN (r20 _ _ (by decide) (c38 e om) tk vl cv L A1 h x1 x2 x3 x4 x5)
theorem Ww:∀t:Tr,Kq t->Wf t
 |.leaf x,h=>trivial
 |.one o a,h=>Ww a h.2
 |.two o a b,h=>⟨by have:=h.1;omega,Ww a h.2.1,Ww b h.2.2⟩
 |.three c a b,h=>⟨Ww c h.1,Ww a h.2.1,Ww b h.2.2⟩
theorem k29 (d:Nat):N29 (C (d+1)):=λt h hr hs=>Xi (S:=S29) tS (Cd Nc (a:=t) (dom:=λt=>Wf t/\size t<=1000) ⟨Ww t hr,by omega⟩) h
theorem k31 (d:Nat):N31 (C (d+1)):=λh=>N7 (T:=T29) tS true h
theorem k30 (d:Nat):N30 (C (d+1)):=λa b h ha hb=>J3 (T:=T29) tS a b h ha hb
theorem AaB [Ii] {ctx:Ac} {q:Bool} {g:FuncId} {args:List AV} {h h0:H} {n:Nat} {Q:AV->H->Prop} (hc:Cb n h0 Q (Ay PP ctx 1048576 q g args h)):Cb n h0 Q (Fy PP ctx g args h):=by
 obtain ⟨v,h',h1,h2,h3⟩:=hc
 exact ⟨v,h',Jn (Nat.le_refl _) h1,h2,h3⟩
theorem k64 (d:Nat):H64 (C (d+1)):=λt h=>Xi (S:=S64) tS (Cd Nc (a:=t) (dom:=λ_=>True) trivial) h
theorem A9z [Ii] (d:Nat):A1l (C (d+1)):=λh v ts h1 h2 h3 h4=>by
 rw [cdN (T:=T29) tS]
 exact Ji (n173 _ 1048576 h v ts h1 h2 h3 h4)
theorem A9x [Ii] (d:Nat):Ad5 (C (d+2)):=by
 intro h0 h bp m st ts w h1 h2 h3 h4 h5 h6 h7
 rw [cdN (T:=T29) tS]
 have a1:st.length<=50000:=by omega
 have a2:ts.length<=50000:=by omega
 have a3:ts.length+1<=1048576:=by omega
 have hc:=n108 (h0:=h0) (h:=h) (bp:=bp) (m:=m) (st:=st) (ts:=ts) (w:=w) (C (d+1)) 1048576 (k64 d) (A9z d) h1 h2 h3 h4 h5 a1 a2 a3
 exact AaB hc
theorem A9L [Ii] {ctx:Ac} (Ov:Ad5 ctx):∀{h0 h:H} {bp m:Nat} {st:List Tr} {x:Nd},Ew h0.nx h bp st->Sx.Ext m h0 h->h0.nx+m+20<=Bq->st.length<=40000->Cb (m+10) h0 (Vl h0.nx bp (Fa st x)) (Fy prog ctx 63 [.ptr bp 0,.agg (Bw x)] h):=
 λ{h0 h bp m st x} h1 h2 h3 h4=>by
  have hc:=n63 (h0:=h0) (h:=h) (bp:=bp) (m:=m) (st:=st) (x:=x) ctx 1048576 Ov h1 h2 h3 h4
  exact AaB hc
theorem k63 [Ii] (d:Nat):H63 (C (d+3)):=by
 intro h0 h bp m st x h1 h2 h3 h4
 rw [cdN (T:=T29) tS]
 have Ov:Ad5 (C (d+2)):=A9x d
 exact A9L (h0:=h0) (h:=h) (bp:=bp) (m:=m) (st:=st) (x:=x) Ov h1 h2 h3 h4
theorem Aru [Ii] {n:Nat} {h:H} {Q:AV->H->Prop} {r:OR} (hg:Cb n h Q r):Ah h Q r:=by
 obtain ⟨v,h',h1,h2,h3⟩:=hg
 exact ⟨v,h',h1,⟨h2.lo,h2.Cf,h2.lg⟩,h3⟩
theorem kNd (d:Nat) (hd:2000<=d):NNd (C d):=by
 intro t h hs
 let i:Ii:=⟨h.nx+100000⟩
 have hl:Bq=h.nx+100000:=rfl
 have hh:=AjR (T:=T29) tS tS tS tS tS t d om h (by rw [hl];omega) om
 obtain ⟨v,h',h1,h2,h3,h4⟩:=Aru hh
 refine ⟨v,h',h1,h2,?_,?_,h4⟩
 . rcases h3.at' with ⟨q0,q1,q2⟩|⟨b,off,cap,ex,cs,e,k,q1,q2,q3,q4,q5,q6,q7⟩
   . exact .inl ⟨q0,q1,q2⟩
   . refine .inr ⟨b,off,cap,ex,cs,q1,q2,⟨q5,e,k,q3,?_⟩,q6,q7⟩
     cases k with
     |exact=>trivial
     |Gt c=>trivial
     |fz c=>trivial
     |Cf c st=>cases q4
 . intro b off len cap z ex hv h0
   rcases h4 with q0|⟨b',Yk,Ll,ex',cs,k,q1,q2,q3,q4,_⟩
   . have hp:=size_pos t
     rw [Ao] at q0
     omega
   . rw [q1] at hv
     cases hv
     exact q4
attribute [local irreducible] Aa Al Af Ad
theorem Azr (ctx:Ac) (n:Nat) (c:Bool) (v:AV) (h:H) (hlen:∀hh,Fo v hh=.ok (.int .i64 0) hh):Ah h (λr _=>r=.Bj [.B3,.bool false]) (Ay prog ctx (n+1) true 28 [v,.bool c] h):=by
 rw [e28]
 refine wk ?_
 rw [Ajh]
 refine wk ?_
 exact Lo ((Ai.refl h).new _) rfl
theorem An6 {lo:Nat} {h:H} {v:AV} {l:List Nd} (hs:FrN lo h v l) (Hr:l≠[]):Zi h v l:=by
 have hp:0<l.length:=List.length_pos_iff.2 Hr
 rcases hs.sl with ⟨q0,_,_⟩|⟨b,off,cap,ex,bs,rfl,q2,q3,q4,q5⟩
 . omega
 . rcases hs.wr with q0|⟨b',Yk,Ll,ex',cs,k,p1,p2,p3,p4,p5,p6⟩
   . omega
   . cases p1
     obtain ⟨e',k',q6,q7⟩:=q3.cells
     rw [p2] at q6
     cases q6
     refine ⟨.inr ⟨b,off,cap,ex,_,_,_,rfl,q2,p2,?_,q3.lt,q4,q5⟩⟩
     rcases p6 with rfl|⟨c,st,rfl,_⟩
     . trivial
     . trivial
theorem k28 (d:Nat) (hd:4<=d):N28 (C d):=by
 obtain ⟨e,rfl⟩:∃e,d=e+3+1:=⟨d - 4,by omega⟩
 intro c l v h lo hs hl
 by_cases Hr:l=[]
 . subst Hr
   have hlen:∀hh,Fo v hh=.ok (.int .i64 0) hh:=λ_=>hs.sl.Gs
   rw [show Je [] c=none from rfl]
   exact Gp tN (Azr _ 1048575 c v h hlen)
 . let i:Ii:=⟨h.nx+100000⟩
   have P4:Bq=h.nx+100000:=rfl
   have h63:H63 (C (e+3)):=k63 e
   have hc:=n28 (C (e+3)) 1048576 h63 (k64 (e+2)) c l hl om (An6 hs Hr) (by rw [P4];omega)
   exact Gp tN (Aru hc)
theorem c10 (d:Nat) (hd:2001<=d):R10 (C d):=by
 obtain ⟨e,rfl,he⟩:=pr hd
 obtain ⟨f,hf⟩:∃f,e=f+1:=⟨e - 1,by omega⟩
 have a1:N29 (C e):=by rw [hf];exact k29 f
 have a2:N30 (C e):=by rw [hf];exact k30 f
 have a3:N31 (C e):=by rw [hf];exact k31 f
 exact λq vc vo vm h h1 h2 h3 h4=>Gp tN (r10 _ _ (c26 e om) (c27 e om) (k28 e om) a1 a2 a3 (kNd e he) (λl c t hb=>⟨(Ui hb).1,(Ui hb).2.1⟩) (λt ht=>(Hi t ht).2) q vc vo vm h h1 h2 h3 h4)
end Go.Proofs
