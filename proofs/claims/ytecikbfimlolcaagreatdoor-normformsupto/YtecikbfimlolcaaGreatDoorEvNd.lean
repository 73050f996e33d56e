/- The table of what package norm's functions come to. The table of what package norm's functions come to: to the normal form of an expression. -/
import Derived.Test.YtecikbfimlolcaaGreatDoorEvNc
set_option maxRecDepth 100000
set_option linter.unusedSimpArgs false
set_option linter.unusedVariables false
namespace Go.Proofs
open Go Go.Ev Go.Nm
theorem ext_at (T:C7) (g g':FuncId) (S:List AV->Option AV) (args:List AV):T.ext g S g' args=if g'=g then S args else T g' args:=by
 by_cases hh:g'=g
 . rw [if_pos hh,hh,ext_same]
 . rw [if_neg hh,ext_other _ _ hh]
theorem A1 (T:C7) (g g':FuncId) (S:List AV->Option AV):T.ext g S g'=if g'=g then S else T g':=by
 funext args
 rw [ext_at]
 split<;>rfl
noncomputable abbrev T0:C7:=fun _ _=>none
theorem bo177:Ba PP 177=true:=by kernel_rfl
theorem bo178:Ba PP 178=true:=by kernel_rfl
theorem bo117:Ba PP 117=true:=by kernel_rfl
theorem bo118:Ba PP 118=true:=by kernel_rfl
theorem bo115:Ba PP 115=true:=by kernel_rfl
theorem bo350:Ba PP 350=true:=by kernel_rfl
theorem bo353:Ba PP 353=true:=by kernel_rfl
theorem bo355:Ba PP 355=true:=by kernel_rfl
theorem bo357:Ba PP 357=true:=by kernel_rfl
theorem bo109:Ba PP 109=true:=by kernel_rfl
theorem bo69:Ba PP 69=true:=by kernel_rfl
theorem bo110:Ba PP 110=true:=by kernel_rfl
theorem bo31:Ba PP 31=true:=by kernel_rfl
theorem bo175:Ba PP 175=true:=by kernel_rfl
theorem bo65:Ba PP 65=true:=by kernel_rfl
theorem bo174:Ba PP 174=true:=by kernel_rfl
theorem bo68:Ba PP 68=true:=by kernel_rfl
theorem bo30:Ba PP 30=true:=by kernel_rfl
theorem bo176:Ba PP 176=true:=by kernel_rfl
theorem bo111:Ba PP 111=true:=by kernel_rfl
theorem bo113:Ba PP 113=true:=by kernel_rfl
theorem bo66:Ba PP 66=true:=by kernel_rfl
theorem bo112:Ba PP 112=true:=by kernel_rfl
theorem bo67:Ba PP 67=true:=by kernel_rfl
theorem bo29:Ba PP 29=true:=by kernel_rfl
theorem bo64:Ba PP 64=true:=by kernel_rfl
theorem bo349:Ba PP 349=true:=by kernel_rfl
theorem bo352:Ba PP 352=true:=by kernel_rfl
theorem bo354:Ba PP 354=true:=by kernel_rfl
theorem bo356:Ba PP 356=true:=by kernel_rfl
noncomputable def T1:C7:=T0.ext 177 S177
noncomputable def T2:C7:=T1.ext 178 S178
noncomputable def T3:C7:=T2.ext 117 S117
noncomputable def T4:C7:=T3.ext 118 S118
noncomputable def T5:C7:=T4.ext 115 S115
noncomputable def T6:C7:=T5.ext 350 S350
noncomputable def T7:C7:=T6.ext 353 S353
noncomputable def T8:C7:=T7.ext 355 S355
noncomputable def T9:C7:=T8.ext 357 S357
noncomputable def T10:C7:=T9.ext 109 S109
noncomputable def T11:C7:=T10.ext 69 S69
noncomputable def T12:C7:=T11.ext 110 S110
noncomputable def T13:C7:=T12.ext 31 S31
noncomputable def T14:C7:=T13.ext 175 S175
noncomputable def T15:C7:=T14.ext 65 S65
noncomputable def T16:C7:=T15.ext 174 S174
noncomputable def T17:C7:=T16.ext 68 S68
noncomputable def T18:C7:=T17.ext 30 S30
noncomputable def T19:C7:=T18.ext 176 S176
noncomputable def T20:C7:=T19.ext 111 S111
noncomputable def T21:C7:=T20.ext 113 S113
noncomputable def T22:C7:=T21.ext 66 S66
noncomputable def T23:C7:=T22.ext 112 S112a
noncomputable def T24:C7:=T23.ext 112 S112
noncomputable def T25:C7:=T24.ext 67 S67
noncomputable def T26:C7:=T25.ext 29 S29
noncomputable def T27:C7:=T26.ext 64 S64
theorem cdS {T:C7} {d:Nat} {g:FuncId} {S:List AV->Option AV} {args:List AV} {v:AV} (hT:T g=S) (hs:S args=some v) (h:H):(cD PP T (d+1)).call g args h=.ok v h:=cD_some h (by rw [hT];exact hs)
theorem cdN {T:C7} {d:Nat} {g:FuncId} {args:List AV} (hT:T g=fun _=>none) (h:H):(cD PP T (d+1)).call g args h=Fc PP (cD PP T d) g args h:=cD_none h (by rw [hT])
theorem h177 {T:C7} {d:Nat} (hT:T 177=S177):H177 (cD PP T (d+1)):=fun n h=>cdS hT (B7 (enc:=fun n:Int=>[AV.int .i64 n]) (fun a b hh=>by simpa using hh) (a:=n) trivial) h
theorem h178 {T:C7} {d:Nat} (hT:T 178=S178):H178 (cD PP T (d+1)):=fun n h=>cdS hT (B7 (enc:=fun n:List Nat=>[AV.str n]) (fun a b hh=>by simpa using hh) (a:=n) trivial) h
theorem h117 {T:C7} {d:Nat} (hT:T 117=S117):H117 (cD PP T (d+1)):=fun a b h=>cdS hT (B7 (enc:=fun p:Int × Int=>[AV.int .i64 p.1,AV.int .i64 p.2]) (fun a b hh=>by simp at hh;exact Prod.ext hh.1 hh.2) (a:=(a,b)) trivial) h
theorem h118 {T:C7} {d:Nat} (hT:T 118=S118):H118 (cD PP T (d+1)):=fun a b h=>cdS hT (B7 (enc:=fun p:List Nat × List Nat=>[AV.str p.1,AV.str p.2]) (fun a b hh=>by simp at hh;exact Prod.ext hh.1 hh.2) (a:=(a,b)) trivial) h
theorem ndC_inj (x y:Nd) (hh:Bq x=Bq y):x=y:=by cases x;cases y;simpa using hh
theorem h115 {T:C7} {d:Nat} (hT:T 115=S115):H115 (cD PP T (d+1)):=fun a b h=>cdS hT (B7 (enc:=fun p:Nd × Nd=>[AV.agg (Bq p.1),AV.agg (Bq p.2)]) (fun a b hh=>by
 have h1:=List.cons.inj hh
 have h2:=List.cons.inj h1.2
 exact Prod.ext (ndC_inj _ _ (AV.agg.inj h1.1)) (ndC_inj _ _ (AV.agg.inj h2.1))) (a:=(a,b)) trivial) h
theorem plain1 {x:AV} (hx:Plain x):PlainL [x]:=.cons hx .nil
theorem plain2 {x y:AV} (hx:Plain x) (hy:Plain y):PlainL [x,y]:=.cons hx (.cons hy .nil)
theorem plain3 {x y z:AV} (hx:Plain x) (hy:Plain y) (hz:Plain z):PlainL [x,y,z]:=.cons hx (.cons hy (.cons hz .nil))
theorem Ff (n:Nat) (hn:n<=200000):h00.nx+n<=Bh:=by have:=h00_nx;rw [lim_val];omega
theorem t1:TOk PP T1:=Ed (q:=true) (n:=8) TOk.none bo177 (by omega) (fun a=>plain1 (.int _ _)) (fun a=>.bool _) fun a _=>⟨0,n177 _ _ a h00⟩
theorem t2:TOk PP T2:=Ed (q:=true) (n:=8) t1 bo178 (by omega) (fun a=>plain1 (.str _)) (fun a=>.bool _) fun a _=>⟨0,n178 _ _ a h00⟩
theorem t3:TOk PP T3:=Ed (q:=true) (n:=8) t2 bo117 (by omega) (fun a=>plain2 (.int _ _) (.int _ _)) (fun a=>.int _ _) fun a _=>⟨1,n117 _ _ (h177 (by simp [T1,T2,A1])) a.1 a.2 h00⟩
theorem t4:TOk PP T4:=Ed (q:=true) (n:=8) t3 bo118 (by omega) (fun a=>plain2 (.str _) (.str _)) (fun a=>.int _ _) fun a _=>⟨1,n118 _ _ (h178 (by simp [T1,T2,T3,A1])) a.1 a.2 h00⟩
theorem h116 {T:C7} {d:Nat} (hT:T 116=fun _=>none):H116 (cD PP T (d+1)):=fun l h v hv hl=>by
 rw [cdN hT]
 exact callX_callF (Nat.le_refl _) (n116 _ 1048576 l h v hv (by omega) (by omega))
theorem t5:TOk PP T5:=Ed (q:=true) (n:=8) t4 bo115 (by omega) (fun a=>plain2 (plain_nd _) (plain_nd _)) (fun a=>.int _ _) fun a _=>⟨1,n115 _ _ (h116 (by simp [T1,T2,T3,T4,A1])) (h117 (by simp [T1,T2,T3,T4,A1])) (h118 (by simp [T1,T2,T3,T4,A1])) a.1 a.2 h00 (Ff _ (by omega))⟩
theorem plain_agg2 (o:Int) (a:Tr):Plain (.agg [.int .i64 o,Ax a]):=.agg fun y hy=>by simp at hy;rcases hy with rfl|rfl;exact .int _ _;exact Bf a
theorem plain_agg3 (o:Int) (a b:Tr):Plain (.agg [.int .i64 o,Ax a,Ax b]):=.agg fun y hy=>by simp at hy;rcases hy with rfl|rfl|rfl;exact .int _ _;exact Bf a;exact Bf b
theorem plain_aggt (c a b:Tr):Plain (.agg [Ax c,Ax a,Ax b]):=.agg fun y hy=>by simp at hy;rcases hy with rfl|rfl|rfl;exact Bf c;exact Bf a;exact Bf b
theorem t6:TOk PP T6:=Ed (q:=true) (n:=8) t5 bo350 (by omega) (fun a=>plain1 (plain_agg2 _ _)) (fun a=>.int _ _) fun a _=>⟨0,n350 _ _ a.1 (Ax a.2) h00 (Ff _ (by omega))⟩
theorem t7:TOk PP T7:=Ed (q:=true) (n:=8) t6 bo353 (by omega) (fun a=>plain1 (plain_agg3 _ _ _)) (fun a=>.int _ _) fun a _=>⟨0,n353 _ _ a.1 (Ax a.2.1) (Ax a.2.2) h00 (Ff _ (by omega))⟩
theorem t8:TOk PP T8:=Ed (q:=true) (n:=8) t7 bo355 (by omega) (fun a=>plain1 (plain_aggt _ _ _)) (fun a=>.int _ _) fun a _=>⟨0,n355 _ _ (Ax a.1) (Ax a.2.1) (Ax a.2.2) h00 (Ff _ (by omega))⟩
theorem t9:TOk PP T9:=Ed (q:=true) (n:=8) t8 bo357 (by omega) (fun a=>plain1 (plain_nd _)) (fun a=>.int _ _) fun a _=>⟨0,n357 _ _ a h00 (Ff _ (by omega))⟩
theorem mop109:methOf PP 109 (mnm PP 109 1)=some 350:=by kernel_rfl
theorem mop111:methOf PP 111 (mnm PP 109 1)=some 353:=by kernel_rfl
theorem mop116:methOf PP 116 (mnm PP 109 1)=some 355:=by kernel_rfl
theorem mop170:methOf PP 170 (mnm PP 109 1)=some 357:=by kernel_rfl
theorem mnd109:methOf PP 109 (mnm PP 109 0)=some 349:=by kernel_rfl
theorem mnd111:methOf PP 111 (mnm PP 109 0)=some 352:=by kernel_rfl
theorem mnd116:methOf PP 116 (mnm PP 109 0)=some 354:=by kernel_rfl
theorem mnd170:methOf PP 170 (mnm PP 109 0)=some 356:=by kernel_rfl
theorem meth_of {ctx:Ae} {t:TypeId} {v:AV} {nm:String} {g:FuncId} (args:List AV) (h:H) (hm:methOf PP t nm=some g) (hb:Ba PP g=true):aMeth PP ctx (.ifc t v) nm args h=ctx.call g (v::args) h:=by
 show (match methOf PP t nm with|some f=>aCall PP ctx f (v::args) h|none=>.bad 109)=_
 rw [hm]
 show (Bool.rec (motive:=fun _=>OR) _ _ (Ba PP g):OR)=_
 rw [hb]
theorem C2 {T:C7} {d:Nat} (h350:T 350=S350) (h353:T 353=S353) (h355:T 355=S355) (h357:T 357=S357):HOp (cD PP T (d+1)):=by
 intro t h
 cases t with
 |leaf x=>exact (meth_of [] h mop170 bo357).trans (cdS h357 (B7 (enc:=fun x:Nd=>[AV.agg (Bq x)]) (fun a b hh=>ndC_inj _ _ (AV.agg.inj (List.cons.inj hh).1)) (a:=x) trivial) h)
 |one o a=>exact (meth_of [] h mop109 bo350).trans (cdS h350 (B7 (enc:=fun p:Int × Tr=>[AV.agg [.int .i64 p.1,Ax p.2]]) (fun a b hh=>by simp at hh;exact Prod.ext hh.1 (Fb _ _ hh.2)) (a:=(o,a)) trivial) h)
 |two o a b=>exact (meth_of [] h mop111 bo353).trans (cdS h353 (B7 (enc:=fun p:Int × Tr × Tr=>[AV.agg [.int .i64 p.1,Ax p.2.1,Ax p.2.2]]) (fun a b hh=>by simp at hh;exact Prod.ext hh.1 (Prod.ext (Fb _ _ hh.2.1) (Fb _ _ hh.2.2))) (a:=(o,a,b)) trivial) h)
 |three c a b=>exact (meth_of [] h mop116 bo355).trans (cdS h355 (B7 (enc:=fun p:Tr × Tr × Tr=>[AV.agg [Ax p.1,Ax p.2.1,Ax p.2.2]]) (fun a b hh=>by simp at hh;exact Prod.ext (Fb _ _ hh.1) (Prod.ext (Fb _ _ hh.2.1) (Fb _ _ hh.2.2))) (a:=(c,a,b)) trivial) h)
end Go.Proofs
namespace Go.Proofs
open Go Go.Ev Go.Nm
theorem ext_ext (T:C7) (g:FuncId) (S S':List AV->Option AV):(T.ext g S).ext g S'=T.ext g S':=by
 funext g' args
 rw [ext_at,ext_at,ext_at]
 split<;>rfl
theorem rec_fn {T:C7} (ht:TOk PP T) {g:FuncId} {α:Type} {enc:α->List AV} {out:α->AV} {dom:α->Prop} {q:Bool} {n:Nat} (hinj:∀ a b,enc a=enc b->a=b) (sz:α->Nat) (hpos:∀ a,1<=sz a) (hb:Ba PP g=true) (hn:n<=200000) (hpl:∀ a,PlainL (enc a)) (hpv:∀ a,Plain (out a))
 (hrun:∀ k a,dom a->sz a<=k+1->∃ d,Sx.Comes (An PP (cD PP (T.ext g (Di enc out (fun b=>dom b/\sz b<=k))) d) 1048576 q g (enc a) h00) (Sx.Out n h00 (out a))):TOk PP (T.ext g (Di enc out dom)):=by
 have key:∀ k,TOk PP (T.ext g (Di enc out (fun b=>dom b/\sz b<=k))):=by
  intro k
  induction k with
  |zero=>exact Ed (q:=q) ht hb hn hpl hpv fun a ha=>by have:=hpos a;omega
  |succ k ih=>
   rw [<- ext_ext T g (Di enc out (fun b=>dom b/\sz b<=k))]
   exact Ed (q:=q) ih hb hn hpl hpv fun a ha=>hrun k a ha.1 ha.2
 refine ⟨fun g' args v hv=>?_⟩
 rw [ext_at] at hv
 by_cases hg:g'=g
 . rw [if_pos hg] at hv
   obtain ⟨a,h1,rfl,rfl⟩:=graph_some hv
   refine (key (sz a)).ok g' _ _ ?_
   rw [ext_at,if_pos hg]
   exact B7 hinj (dom:=fun b=>dom b/\sz b<=sz a) ⟨h1,Nat.le_refl _⟩
 . rw [if_neg hg] at hv
   exact ht.ok g' args v hv
theorem inj_rep (a b:Tr) (hh:[Ax a]=[Ax b]):a=b:=Fb _ _ (List.cons.inj hh).1
theorem inj_rep2 (a b:Tr × Tr) (hh:[Ax a.1,Ax a.2]=[Ax b.1,Ax b.2]):a=b:=by simp at hh;exact Prod.ext (Fb _ _ hh.1) (Fb _ _ hh.2)
theorem inj_enc3 (a b:Int × Tr × Tr) (hh:enc3 a=enc3 b):a=b:=by simp at hh;exact Prod.ext hh.1 (Prod.ext (Fb _ _ hh.2.1) (Fb _ _ hh.2.2))
theorem inj_ti (a b:Tr × Int) (hh:[Ax a.1,AV.int .i64 a.2]=[Ax b.1,AV.int .i64 b.2]):a=b:=by simp at hh;exact Prod.ext (Fb _ _ hh.1) hh.2
theorem plain_tup2 {x y:AV} (hx:Plain x) (hy:Plain y):Plain (.Bl [x,y]):=.Bl fun z hz=>by simp at hz;rcases hz with rfl|rfl;exact hx;exact hy
theorem plain_repO (x:Option Tr):Plain (repO x):=plain_tup2 (by cases x;exact .Bx;exact Bf _) (.bool _)
theorem plain_enc3 (p:Int × Tr × Tr):PlainL (enc3 p):=plain3 (.int _ _) (Bf _) (Bf _)
theorem t10:TOk PP T10:=by
 refine rec_fn (q:=true) (n:=8) t9 inj_rep size size_pos bo109 (by omega) (fun a=>plain1 (Bf a)) (fun a=>plain_tup2 (.int _ _) (.bool _)) fun k t _ hk=>⟨1,?_⟩
 have hrec:∀ a,size a<=k->∀ h,(cD PP (T9.ext 109 (Di (fun t:Tr=>[Ax t]) (fun t=>.Bl [.int .i64 (value t).1,.bool (value t).2]) (fun b=>True/\size b<=k))) 1).call 109 [Ax a] h=.ok (.Bl [.int .i64 (value a).1,.bool (value a).2]) h:=fun a ha h=>
  cdS (S:=Di (fun t:Tr=>[Ax t]) (fun t=>.Bl [.int .i64 (value t).1,.bool (value t).2]) (fun b=>True/\size b<=k)) (by simp [A1]) (B7 inj_rep (dom:=fun b=>True/\size b<=k) ⟨trivial,ha⟩) h
 cases t with
 |leaf x=>exact n109leaf _ _ x h00 (Ff _ (by omega))
 |one o a=>exact n109one _ _ o a (C2 (by simp [T1,T2,T3,T4,T5,T6,T7,T8,T9,A1]) (by simp [T1,T2,T3,T4,T5,T6,T7,T8,T9,A1]) (by simp [T1,T2,T3,T4,T5,T6,T7,T8,T9,A1]) (by simp [T1,T2,T3,T4,T5,T6,T7,T8,T9,A1])) (hrec a (by simp [size] at hk;omega)) h00 (Ff _ (by omega))
 |two o a b=>exact n109two _ _ o a b h00 (Ff _ (by omega))
 |three c a b=>exact n109three _ _ c a b h00 (Ff _ (by omega))
theorem h109 {T:C7} {d:Nat} (hT:T 109=S109):H109 (cD PP T (d+1)):=fun t h=>cdS hT (B7 inj_rep (a:=t) trivial) h
theorem h69 {T:C7} {d:Nat} (hT:T 69=S69):H69 (cD PP T (d+1)):=fun n h=>cdS hT (B7 (enc:=fun n:Int=>[AV.int .i64 n]) (fun a b hh=>by simpa using hh) (a:=n) trivial) h
theorem h110 {T:C7} {d:Nat} (hT:T 110=S110):H110 (cD PP T (d+1)):=fun n h h1 h2=>cdS hT (B7 (enc:=fun n:Int=>[AV.int .i64 n]) (fun a b hh=>by simpa using hh) (a:=n) ⟨h1,h2⟩) h
theorem h31 {T:C7} {d:Nat} (hT:T 31=S31):H31 (cD PP T (d+1)):=fun n h=>cdS hT (B7 (enc:=fun n:Bool=>[AV.bool n]) (fun a b hh=>by simpa using hh) (a:=n) trivial) h
theorem h175 {T:C7} {d:Nat} (hT:T 175=S175):H175 (cD PP T (d+1)):=fun t n h=>cdS hT (B7 inj_ti (a:=(t,n)) trivial) h
theorem h65 {T:C7} {d:Nat} (hT:T 65=S65):H65 (cD PP T (d+1)):=fun t h=>cdS hT (B7 inj_rep (a:=t) trivial) h
theorem h174 {T:C7} {d:Nat} (hT:T 174=S174):H174 (cD PP T (d+1)):=fun o a b h ho=>cdS hT (B7 inj_enc3 (a:=(o,a,b)) ho) h
theorem h68 {T:C7} {d:Nat} (hT:T 68=S68):H68 (cD PP T (d+1)):=fun a b h ha hb=>cdS hT (B7 inj_rep2 (a:=(a,b)) ⟨ha,hb⟩) h
theorem h30 {T:C7} {d:Nat} (hT:T 30=S30):H30 (cD PP T (d+1)):=fun a b h ha hb=>cdS hT (B7 inj_rep2 (a:=(a,b)) ⟨ha,hb⟩) h
theorem h176 {T:C7} {d:Nat} (hT:T 176=S176):H176 (cD PP T (d+1)):=fun o a b h ha hb=>cdS hT (B7 inj_enc3 (a:=(o,a,b)) ⟨ha,hb⟩) h
theorem h111 {T:C7} {d:Nat} (hT:T 111=S111):H111 (cD PP T (d+1)):=fun o a b h ho ha hb=>cdS hT (B7 inj_enc3 (a:=(o,a,b)) ⟨ho,ha,hb⟩) h
theorem h113 {T:C7} {d:Nat} (hT:T 113=S113):H113 (cD PP T (d+1)):=fun o a b h ho ha hb=>cdS hT (B7 inj_enc3 (a:=(o,a,b)) ⟨ho,ha,hb⟩) h
theorem h66 {T:C7} {d:Nat} (hT:T 66=S66):H66 (cD PP T (d+1)):=fun t h ht=>cdS hT (B7 inj_rep (a:=t) ht) h
theorem h112a {T:C7} {d:Nat} (hT:T 112=S112a):H112a (cD PP T (d+1)):=fun o a b h ho ha hb=>cdS hT (B7 inj_enc3 (a:=(o,a,b)) ⟨ho,ha,hb⟩) h
theorem h112 {T:C7} {d:Nat} (hT:T 112=S112):H112 (cD PP T (d+1)):=fun o a b h ho ha hb=>cdS hT (B7 inj_enc3 (a:=(o,a,b)) ⟨ho,ha,hb⟩) h
theorem h67 {T:C7} {d:Nat} (hT:T 67=S67):H67 (cD PP T (d+1)):=fun h=>cdS hT (B7 (enc:=fun _:Unit=>([]:List AV)) (fun a b _=>rfl) (a:=()) trivial) h
theorem t11:TOk PP T11:=Ed (q:=true) (n:=8) t10 bo69 (by omega) (fun a=>plain1 (.int _ _)) (fun a=>Bf _) fun n _=>⟨0,n69 _ _ n h00 (Ff _ (by omega))⟩
theorem t12:TOk PP T12:=Ed (q:=true) (n:=8) t11 bo110 (by omega) (fun a=>plain1 (.int _ _)) (fun a=>plain_repO _) fun n hn=>⟨1,n110 _ _ (h69 (by simp [T1,T2,T3,T4,T5,T6,T7,T8,T9,T10,T11,A1])) n hn.1 hn.2 h00 (Ff _ (by omega))⟩
theorem t13:TOk PP T13:=Ed (q:=true) (n:=8) t12 bo31 (by omega) (fun a=>plain1 (.bool _)) (fun a=>Bf _) fun b _=>⟨1,n31 _ _ (h69 (by simp [T1,T2,T3,T4,T5,T6,T7,T8,T9,T10,T11,T12,A1])) b h00 (Ff _ (by omega))⟩
theorem t14:TOk PP T14:=Ed (q:=true) (n:=8) t13 bo175 (by omega) (fun a=>plain2 (Bf _) (.int _ _)) (fun a=>.bool _) fun p _=>⟨1,n175 _ _ (h109 (by simp [T1,T2,T3,T4,T5,T6,T7,T8,T9,T10,T11,T12,T13,A1])) p.1 p.2 h00 (Ff _ (by omega))⟩
theorem t15:TOk PP T15:=Ed (q:=true) (n:=8) t14 bo65 (by omega) (fun a=>plain1 (Bf _)) (fun a=>Bf _) fun t _=>⟨1,n65 _ _ (h109 (by simp [T1,T2,T3,T4,T5,T6,T7,T8,T9,T10,T11,T12,T13,T14,A1])) (h110 (by simp [T1,T2,T3,T4,T5,T6,T7,T8,T9,T10,T11,T12,T13,T14,A1])) t h00 (Ff _ (by omega))⟩
theorem t16:TOk PP T16:=Ed (q:=true) (n:=8) t15 bo174 (by omega) plain_enc3 (fun a=>plain_repO _) fun p hp=>⟨1,n174 _ _ (h109 (by simp [T1,T2,T3,T4,T5,T6,T7,T8,T9,T10,T11,T12,T13,T14,T15,A1])) (h110 (by simp [T1,T2,T3,T4,T5,T6,T7,T8,T9,T10,T11,T12,T13,T14,T15,A1])) p.1 hp p.2.1 p.2.2 h00 (Ff _ (by omega))⟩
theorem hnodes [Lim] {T:C7} (h351:T 351=fun _=>none) (h349:T 349=fun _=>none) (h352:T 352=fun _=>none) (h354:T 354=fun _=>none) (h356:T 356=fun _=>none):∀ (t:Tr) (d:Nat),2 * size t<=d->HNodes (cD PP T d) t:=by
 have hjoin:∀ (o:Int) (ts:List Tr) (d:Nat),ts.length<=10->(∀ t∈ts,HNodes (cD PP T d) t)->HJoin (cD PP T (d+1)) o ts:=by
  intro o ts d hlen hts h v hv hr hs
  rw [cdN h351]
  exact gets_callF (n351 _ 1048576 o ts (by omega) hts h v hv hr hs)
 intro t
 induction t with
 |leaf x=>
  intro d hd h hr hs
  obtain ⟨e,rfl⟩:∃ e,d=e+2:=⟨d - 2,by simp [size] at hd;omega⟩
  rw [show Ax (.leaf x)=.ifc 170 (.agg (Bq x)) from rfl,meth_of [] h mnd170 bo356,cdN h356]
  simp only [size] at hr
  exact (gets_callF (n356 _ 1048576 x h (by omega))).mono (by simp [size]) fun v h q=>q
 |one o a iha=>
  intro d hd h hr hs
  simp only [size] at hd
  obtain ⟨e,rfl⟩:∃ e,d=e+2:=⟨d - 2,by omega⟩
  rw [show Ax (.one o a)=.ifc 109 (.agg [.int .i64 o,Ax a]) from rfl,meth_of [] h mnd109 bo349,cdN h349]
  exact gets_callF (n349 _ 1048576 o a (hjoin o [a] e (by simp) (by simp;exact iha e (by omega))) h hr hs)
 |two o a b iha ihb=>
  intro d hd h hr hs
  simp only [size] at hd
  obtain ⟨e,rfl⟩:∃ e,d=e+2:=⟨d - 2,by omega⟩
  rw [show Ax (.two o a b)=.ifc 111 (.agg [.int .i64 o,Ax a,Ax b]) from rfl,meth_of [] h mnd111 bo352,cdN h352]
  exact gets_callF (n352 _ 1048576 o a b (hjoin o [a,b] e (by simp) (by simp;exact ⟨iha e (by omega),ihb e (by omega)⟩)) h hr hs)
 |three c a b ihc iha ihb=>
  intro d hd h hr hs
  simp only [size] at hd
  obtain ⟨e,rfl⟩:∃ e,d=e+2:=⟨d - 2,by omega⟩
  rw [show Ax (.three c a b)=.ifc 116 (.agg [Ax c,Ax a,Ax b]) from rfl,meth_of [] h mnd116 bo354,cdN h354]
  exact gets_callF (n354 _ 1048576 c a b (hjoin 8 [c,a,b] e (by simp) (by simp;exact ⟨ihc e (by omega),iha e (by omega),ihb e (by omega)⟩)) h hr hs)
theorem h114 {T:C7} {d:Nat} (hT:T 114=fun _=>none) (h115':T 115=S115):H114 (cD PP T (d+2)):=fun l m h v w hv hw hr hl=>by
 rw [cdN hT]
 exact gets_callF (n114 _ 1048576 (h115 h115') bo115 l m h v w hv hw hr (by omega) hl)
theorem t17:TOk PP T17:=Ed (q:=true) (n:=30000) t16 bo68 (by omega) (fun a=>plain2 (Bf _) (Bf _)) (fun a=>.int _ _) fun p hp=>⟨2000+2,gets_out (n68 _ _ p.1 p.2 (hnodes (by simp [T1,T2,T3,T4,T5,T6,T7,T8,T9,T10,T11,T12,T13,T14,T15,T16,A1]) (by simp [T1,T2,T3,T4,T5,T6,T7,T8,T9,T10,T11,T12,T13,T14,T15,T16,A1]) (by simp [T1,T2,T3,T4,T5,T6,T7,T8,T9,T10,T11,T12,T13,T14,T15,T16,A1]) (by simp [T1,T2,T3,T4,T5,T6,T7,T8,T9,T10,T11,T12,T13,T14,T15,T16,A1]) (by simp [T1,T2,T3,T4,T5,T6,T7,T8,T9,T10,T11,T12,T13,T14,T15,T16,A1]) p.1 _ (by omega)) (hnodes (by simp [T1,T2,T3,T4,T5,T6,T7,T8,T9,T10,T11,T12,T13,T14,T15,T16,A1]) (by simp [T1,T2,T3,T4,T5,T6,T7,T8,T9,T10,T11,T12,T13,T14,T15,T16,A1]) (by simp [T1,T2,T3,T4,T5,T6,T7,T8,T9,T10,T11,T12,T13,T14,T15,T16,A1]) (by simp [T1,T2,T3,T4,T5,T6,T7,T8,T9,T10,T11,T12,T13,T14,T15,T16,A1]) (by simp [T1,T2,T3,T4,T5,T6,T7,T8,T9,T10,T11,T12,T13,T14,T15,T16,A1]) p.2 _ (by omega)) (h114 (by simp [T1,T2,T3,T4,T5,T6,T7,T8,T9,T10,T11,T12,T13,T14,T15,T16,A1]) (by simp [T1,T2,T3,T4,T5,T6,T7,T8,T9,T10,T11,T12,T13,T14,T15,T16,A1])) hp.1 hp.2 h00 (Ff _ (by omega)))⟩
theorem t18:TOk PP T18:=Ed (q:=true) (n:=8) t17 bo30 (by omega) (fun a=>plain2 (Bf _) (Bf _)) (fun a=>.bool _) fun p hp=>⟨1,n30 _ _ (h68 (by simp [T1,T2,T3,T4,T5,T6,T7,T8,T9,T10,T11,T12,T13,T14,T15,T16,T17,A1])) p.1 p.2 hp.1 hp.2 h00 (Ff _ (by omega))⟩
theorem t19:TOk PP T19:=Ed (q:=true) (n:=8) t18 bo176 (by omega) plain_enc3 (fun a=>Bf _) fun p hp=>⟨1,n176 _ _ (h68 (by simp [T1,T2,T3,T4,T5,T6,T7,T8,T9,T10,T11,T12,T13,T14,T15,T16,T17,T18,A1])) p.1 p.2.1 p.2.2 hp.1 hp.2 h00 (Ff _ (by omega))⟩
theorem t20:TOk PP T20:=Ed (q:=true) (n:=8) t19 bo111 (by omega) plain_enc3 (fun a=>Bf _) fun p hp=>⟨1,n111 _ _ (h30 (by simp [T1,T2,T3,T4,T5,T6,T7,T8,T9,T10,T11,T12,T13,T14,T15,T16,T17,T18,T19,A1])) (h65 (by simp [T1,T2,T3,T4,T5,T6,T7,T8,T9,T10,T11,T12,T13,T14,T15,T16,T17,T18,T19,A1])) (h69 (by simp [T1,T2,T3,T4,T5,T6,T7,T8,T9,T10,T11,T12,T13,T14,T15,T16,T17,T18,T19,A1])) (h174 (by simp [T1,T2,T3,T4,T5,T6,T7,T8,T9,T10,T11,T12,T13,T14,T15,T16,T17,T18,T19,A1])) (h175 (by simp [T1,T2,T3,T4,T5,T6,T7,T8,T9,T10,T11,T12,T13,T14,T15,T16,T17,T18,T19,A1])) (h176 (by simp [T1,T2,T3,T4,T5,T6,T7,T8,T9,T10,T11,T12,T13,T14,T15,T16,T17,T18,T19,A1])) p.1 hp.1 p.2.1 p.2.2 hp.2.1 hp.2.2 h00 (Ff _ (by omega))⟩
theorem t21:TOk PP T21:=Ed (q:=true) (n:=8) t20 bo113 (by omega) plain_enc3 (fun a=>Bf _) fun p hp=>⟨1,n113 _ _ (h30 (by simp [T1,T2,T3,T4,T5,T6,T7,T8,T9,T10,T11,T12,T13,T14,T15,T16,T17,T18,T19,T20,A1])) (h31 (by simp [T1,T2,T3,T4,T5,T6,T7,T8,T9,T10,T11,T12,T13,T14,T15,T16,T17,T18,T19,T20,A1])) (h176 (by simp [T1,T2,T3,T4,T5,T6,T7,T8,T9,T10,T11,T12,T13,T14,T15,T16,T17,T18,T19,T20,A1])) p.1 hp.1 p.2.1 p.2.2 hp.2.1 hp.2.2 h00 (Ff _ (by omega))⟩
theorem t22:TOk PP T22:=Ed (q:=true) (n:=8) t21 bo66 (by omega) (fun a=>plain1 (Bf _)) (fun a=>Bf _) fun t ht=>⟨1,n66 _ _ (h30 (by simp [T1,T2,T3,T4,T5,T6,T7,T8,T9,T10,T11,T12,T13,T14,T15,T16,T17,T18,T19,T20,T21,A1])) (h31 (by simp [T1,T2,T3,T4,T5,T6,T7,T8,T9,T10,T11,T12,T13,T14,T15,T16,T17,T18,T19,T20,T21,A1])) t ht h00 (Ff _ (by omega))⟩
theorem t23:TOk PP T23:=Ed (q:=true) (n:=8) t22 bo112 (by omega) plain_enc3 (fun a=>Bf _) fun p hp=>⟨1,n112a _ _ (C2 (by simp [T1,T2,T3,T4,T5,T6,T7,T8,T9,T10,T11,T12,T13,T14,T15,T16,T17,T18,T19,T20,T21,T22,A1]) (by simp [T1,T2,T3,T4,T5,T6,T7,T8,T9,T10,T11,T12,T13,T14,T15,T16,T17,T18,T19,T20,T21,T22,A1]) (by simp [T1,T2,T3,T4,T5,T6,T7,T8,T9,T10,T11,T12,T13,T14,T15,T16,T17,T18,T19,T20,T21,T22,A1]) (by simp [T1,T2,T3,T4,T5,T6,T7,T8,T9,T10,T11,T12,T13,T14,T15,T16,T17,T18,T19,T20,T21,T22,A1])) (h109 (by simp [T1,T2,T3,T4,T5,T6,T7,T8,T9,T10,T11,T12,T13,T14,T15,T16,T17,T18,T19,T20,T21,T22,A1])) (h30 (by simp [T1,T2,T3,T4,T5,T6,T7,T8,T9,T10,T11,T12,T13,T14,T15,T16,T17,T18,T19,T20,T21,T22,A1])) (h31 (by simp [T1,T2,T3,T4,T5,T6,T7,T8,T9,T10,T11,T12,T13,T14,T15,T16,T17,T18,T19,T20,T21,T22,A1])) (h176 (by simp [T1,T2,T3,T4,T5,T6,T7,T8,T9,T10,T11,T12,T13,T14,T15,T16,T17,T18,T19,T20,T21,T22,A1])) p.1 (by have:=hp.1;omega) p.2.1 p.2.2 hp.2.1 hp.2.2 h00 (Ff _ (by omega))⟩
theorem comp12 (o:Int) (a b:Tr) (h1:o<=12):Ea o a b=Dq o a b:=by
 unfold Ea
 rw [if_neg (by omega),if_neg (by omega)]
theorem t24:TOk PP T24:=by
 unfold T24
 have h23:TOk PP (T23.ext 112 S112):=by
  refine Ed (q:=true) (n:=8) t23 bo112 (by omega) plain_enc3 (fun a=>Bf _) fun p hp=>?_
  by_cases hq:p.1<=12
  . rw [comp12 _ _ _ hq]
    exact ⟨1,n112a _ _ (C2 (by simp [T1,T2,T3,T4,T5,T6,T7,T8,T9,T10,T11,T12,T13,T14,T15,T16,T17,T18,T19,T20,T21,T22,T23,A1]) (by simp [T1,T2,T3,T4,T5,T6,T7,T8,T9,T10,T11,T12,T13,T14,T15,T16,T17,T18,T19,T20,T21,T22,T23,A1]) (by simp [T1,T2,T3,T4,T5,T6,T7,T8,T9,T10,T11,T12,T13,T14,T15,T16,T17,T18,T19,T20,T21,T22,T23,A1]) (by simp [T1,T2,T3,T4,T5,T6,T7,T8,T9,T10,T11,T12,T13,T14,T15,T16,T17,T18,T19,T20,T21,T22,T23,A1])) (h109 (by simp [T1,T2,T3,T4,T5,T6,T7,T8,T9,T10,T11,T12,T13,T14,T15,T16,T17,T18,T19,T20,T21,T22,T23,A1])) (h30 (by simp [T1,T2,T3,T4,T5,T6,T7,T8,T9,T10,T11,T12,T13,T14,T15,T16,T17,T18,T19,T20,T21,T22,T23,A1])) (h31 (by simp [T1,T2,T3,T4,T5,T6,T7,T8,T9,T10,T11,T12,T13,T14,T15,T16,T17,T18,T19,T20,T21,T22,T23,A1])) (h176 (by simp [T1,T2,T3,T4,T5,T6,T7,T8,T9,T10,T11,T12,T13,T14,T15,T16,T17,T18,T19,T20,T21,T22,T23,A1])) p.1 (by have:=hp.1;omega) p.2.1 p.2.2 hp.2.1 hp.2.2 h00 (Ff _ (by omega))⟩
  . exact ⟨1,n112b _ _ (h112a (by simp [T1,T2,T3,T4,T5,T6,T7,T8,T9,T10,T11,T12,T13,T14,T15,T16,T17,T18,T19,T20,T21,T22,T23,A1])) p.1 (by have:=hp.1;omega) p.2.1 p.2.2 hp.2.1 hp.2.2 h00 (Ff _ (by omega))⟩
 exact h23
theorem plain_rules:Plain (.agg rulesA):=.agg fun x hx=>by
 have hf:∀ g,Plain (fnA g):=fun g=>.fn (fun l h=>by cases h) (fun y hy=>by cases hy) (fun y hy=>by cases hy)
 simp [rulesA] at hx
 rcases hx with rfl|rfl|rfl|rfl|rfl|rfl
 all_goals first|exact .nfn|exact hf _
theorem t25:TOk PP T25:=Ed (q:=true) (n:=8) t24 bo67 (by omega) (fun _=>.nil) (fun _=>plain_rules) fun _ _=>⟨0,n67 _ _ h00 (Ff _ (by omega))⟩
theorem t26:TOk PP T26:=by
 refine rec_fn (q:=true) (n:=8) t25 inj_rep size size_pos bo29 (by omega) (fun a=>plain1 (Bf a)) (fun a=>Bf _) fun k t ht hk=>⟨1,?_⟩
 have hrec:∀ a,Wf a->size a<=k->size a<=1000->H29 (cD PP (T25.ext 29 (Di (fun t:Tr=>[Ax t]) (fun t=>Ax (normal t)) (fun b=>(Wf b/\size b<=1000)/\size b<=k))) 1) a:=fun a hw ha hs h=>
  cdS (S:=Di (fun t:Tr=>[Ax t]) (fun t=>Ax (normal t)) (fun b=>(Wf b/\size b<=1000)/\size b<=k)) (by simp [A1]) (B7 inj_rep (dom:=fun b=>(Wf b/\size b<=1000)/\size b<=k) ⟨⟨hw,hs⟩,ha⟩) h
 obtain ⟨hw,hs⟩:=ht
 cases t with
 |leaf x=>exact n29leaf _ _ x h00 (Ff _ (by omega))
 |one o a=>
  simp only [size] at hk hs
  have:=Dw a
  exact n29one _ _ (h65 (by simp [T1,T2,T3,T4,T5,T6,T7,T8,T9,T10,T11,T12,T13,T14,T15,T16,T17,T18,T19,T20,T21,T22,T23,T24,T25,A1])) (h66 (by simp [T1,T2,T3,T4,T5,T6,T7,T8,T9,T10,T11,T12,T13,T14,T15,T16,T17,T18,T19,T20,T21,T22,T23,T24,T25,A1])) o a (by omega) (hrec a hw (by omega) (by omega)) h00 (Ff _ (by omega))
 |two o a b=>
  simp only [size] at hk hs
  have:=Dw a
  have:=Dw b
  exact n29two _ _ (h67 (by simp [T1,T2,T3,T4,T5,T6,T7,T8,T9,T10,T11,T12,T13,T14,T15,T16,T17,T18,T19,T20,T21,T22,T23,T24,T25,A1])) (h111 (by simp [T1,T2,T3,T4,T5,T6,T7,T8,T9,T10,T11,T12,T13,T14,T15,T16,T17,T18,T19,T20,T21,T22,T23,T24,T25,A1])) (h112 (by simp [T1,T2,T3,T4,T5,T6,T7,T8,T9,T10,T11,T12,T13,T14,T15,T16,T17,T18,T19,T20,T21,T22,T23,T24,T25,A1])) (h113 (by simp [T1,T2,T3,T4,T5,T6,T7,T8,T9,T10,T11,T12,T13,T14,T15,T16,T17,T18,T19,T20,T21,T22,T23,T24,T25,A1])) o a b hw (by omega) (by omega) (hrec a hw.2.1 (by omega) (by omega)) (hrec b hw.2.2 (by omega) (by omega)) h00 (Ff _ (by omega))
 |three c a b=>
  simp only [size] at hk hs
  have:=Dw a
  have:=Dw b
  have:=Dw c
  exact n29three _ _ (h30 (by simp [T1,T2,T3,T4,T5,T6,T7,T8,T9,T10,T11,T12,T13,T14,T15,T16,T17,T18,T19,T20,T21,T22,T23,T24,T25,A1])) (h31 (by simp [T1,T2,T3,T4,T5,T6,T7,T8,T9,T10,T11,T12,T13,T14,T15,T16,T17,T18,T19,T20,T21,T22,T23,T24,T25,A1])) c a b (by omega) (by omega) (by omega) (hrec c hw.1 (by omega) (by omega)) (hrec a hw.2.1 (by omega) (by omega)) (hrec b hw.2.2 (by omega) (by omega)) h00 (Ff _ (by omega))
theorem t27:TOk PP T27:=Ed (q:=true) (n:=8) t26 bo64 (by omega) (fun a=>plain1 (Bf _)) (fun a=>.bool _) fun t _=>⟨1,n64 _ _ (C2 (by simp [T1,T2,T3,T4,T5,T6,T7,T8,T9,T10,T11,T12,T13,T14,T15,T16,T17,T18,T19,T20,T21,T22,T23,T24,T25,T26,A1]) (by simp [T1,T2,T3,T4,T5,T6,T7,T8,T9,T10,T11,T12,T13,T14,T15,T16,T17,T18,T19,T20,T21,T22,T23,T24,T25,T26,A1]) (by simp [T1,T2,T3,T4,T5,T6,T7,T8,T9,T10,T11,T12,T13,T14,T15,T16,T17,T18,T19,T20,T21,T22,T23,T24,T25,T26,A1]) (by simp [T1,T2,T3,T4,T5,T6,T7,T8,T9,T10,T11,T12,T13,T14,T15,T16,T17,T18,T19,T20,T21,T22,T23,T24,T25,T26,A1])) t h00 (Ff _ (by omega))⟩
end Go.Proofs
