/- The table of what package norm's functions come to, so far as package norm's comparing goes. -/
import Derived.Test.YtecikbfimlolcaaGreatDoorEvNa
import Derived.Test.YtecikbfimlolcaaGreatDoorEvNb
set_option maxRecDepth 100000
set_option linter.unusedSimpArgs false
set_option linter.unusedVariables false
noncomputable section
namespace Go.Proofs
open Go Go.Ev Go.Nm
noncomputable abbrev PP:Program:=Tryz.prog
theorem Fk:∀a b:Tr,A3 a=A3 b->a=b
 |.leaf x,.leaf y,h=>by
  cases x;cases y
  simpa [A3] using h
 |.one o a,.one p b,h=>by
  simp [A3] at h
  rw [h.1,Fk a b h.2]
 |.two o a b,.two p c d,h=>by
  simp [A3] at h
  rw [h.1,Fk a c h.2.1,Fk b d h.2.2]
 |.three a b c,.three d e f,h=>by
  simp [A3] at h
  rw [Fk a d h.1,Fk b e h.2.1,Fk c f h.2.2]
 |.leaf _,.one _ _,h=>by simp [A3] at h
 |.leaf _,.two _ _ _,h=>by simp [A3] at h
 |.leaf _,.three _ _ _,h=>by simp [A3] at h
 |.one _ _,.leaf _,h=>by simp [A3] at h
 |.one _ _,.two _ _ _,h=>by simp [A3] at h
 |.one _ _,.three _ _ _,h=>by simp [A3] at h
 |.two _ _ _,.leaf _,h=>by simp [A3] at h
 |.two _ _ _,.one _ _,h=>by simp [A3] at h
 |.two _ _ _,.three _ _ _,h=>by simp [A3] at h
 |.three _ _ _,.leaf _,h=>by simp [A3] at h
 |.three _ _ _,.one _ _,h=>by simp [A3] at h
 |.three _ _ _,.two _ _ _,h=>by simp [A3] at h
theorem Yq (x:Nd):Plain (.agg (Bw x)):=.agg λy hy=>by simp [Bw] at hy;rcases hy with rfl|rfl|rfl;exact .int _ _;exact .int _ _;exact .str _
theorem Bp:∀t:Tr,Plain (A3 t)
 |.leaf x=>.I6 (Yq x)
 |.one o a=>.I6 (.agg λy hy=>by simp at hy;rcases hy with rfl|rfl;exact .int _ _;exact Bp a)
 |.two o a b=>.I6 (.agg λy hy=>by simp at hy;rcases hy with rfl|rfl|rfl;exact .int _ _;exact Bp a;exact Bp b)
 |.three c a b=>.I6 (.agg λy hy=>by simp at hy;rcases hy with rfl|rfl|rfl;exact Bp c;exact Bp a;exact Bp b)
open Classical in
noncomputable def Dv {α:Type} (enc:α->List AV) (out:α->AV) (dom:α->Prop):List AV->Option AV:=λargs=>if hx:∃a,dom a/\enc a=args then some (out hx.choose) else none
theorem Cd {α:Type} {enc:α->List AV} {out:α->AV} {dom:α->Prop} (AyB:∀a b,enc a=enc b->a=b) {a:α} (hd:dom a):Dv enc out dom (enc a)=some (out a):=by
 have hx:∃b,dom b/\enc b=enc a:=⟨a,hd,rfl⟩
 unfold Dv
 rw [dif_pos hx,AyB _ _ hx.choose_spec.2]
theorem Acu {α:Type} {enc:α->List AV} {out:α->AV} {dom:α->Prop} {args:List AV} {v:AV} (h:Dv enc out dom args=some v):∃a,dom a/\enc a=args/\v=out a:=by
 unfold Dv at h
 split at h
 . rename_i hx
   cases h
   exact ⟨_,hx.choose_spec.1,hx.choose_spec.2,rfl⟩
 . cases h
theorem mixed:PP.follows .mixedOrders=true:=by kernel_rfl
theorem pok:Mv PP=true:=by kernel_rfl
theorem gsz:PP.globals.size<=100:=of_decide_eq_true (by kernel_rfl)
noncomputable abbrev Ql:H:=glH [] PP.globals.size
theorem Aqd:Ql.nx<=100:=gsz
theorem AfK:Bq=1000000000000000000:=rfl
theorem Ji {ctx:Ac} {q:Bool} {g:FuncId} {args:List AV} {h:H} {n:Nat} {Q:AV->H->Prop} (hc:Sx.Cb n h Q (Ay PP ctx 1048576 q g args h)):Sx.Cb n h Q (Fy PP ctx g args h):=by
 obtain ⟨v,h1,h2,h3⟩:=hc
 exact ⟨v,h1,Jn (Nat.le_refl _) h2,h3⟩
theorem Eo {T:Df} (ht:P3 PP T) {g:FuncId} {α:Type} {enc:α->List AV} {out:α->AV} {dom:α->Prop} {q:Bool} {n:Nat} (hb:Bg PP g=true) (hn:n<=200000) (Z1:∀a,I7 (enc a)) (hpv:∀a,Plain (out a))
 (Du:∀a,dom a->∃d,Sx.Comes (Ay PP (cD PP T d) 1048576 q g (enc a) Ql) (Sx.Out n Ql (out a))):P3 PP (T.ext g (Dv enc out dom)):=by
 refine P3.ext mixed pok (by have:=gsz;rw [AfK];omega) ht hb λargs v hs=>?_
 obtain ⟨a,h1,rfl,rfl⟩:=Acu hs
 obtain ⟨d,v,h2,h3,rfl,h4⟩:=Du a h1
 refine ⟨Z1 a,hpv a,d,h2,Jn (Nat.le_refl _) h3,?_,λx hx=>?_⟩
 . have:=h4.nx.2
   have:=Aqd
   rw [AfK]
   omega
 . rcases h4.lg x hx with h5|h5
   . cases h5
   . exact h5
theorem ApX {n:Nat} {h:H} {u:AV} {r:OR} (hg:Sx.Cb n h (λv _=>v=u) r):Sx.Comes r (Sx.Out n h u):=by
 obtain ⟨v,h1,h2,h3,h4⟩:=hg
 exact ⟨v,h1,h2,h4,h3.small⟩
noncomputable def A14:=Dv (λn:Int=>[.int .i64 n]) (λ_=>.bool false) (λ_=>True)
noncomputable def A15:=Dv (λs:List Nat=>[.str s]) (λ_=>.bool false) (λ_=>True)
noncomputable def A1z:=Dv (λp:Int × Int=>[.int .i64 p.1,.int .i64 p.2]) (λp=>.int .i64 (V5 p.1 p.2)) (λ_=>True)
noncomputable def A10:=Dv (λp:List Nat × List Nat=>[.str p.1,.str p.2]) (λp=>.int .i64 (Abg p.1 p.2)) (λ_=>True)
noncomputable def Axf:=Dv (λp:Nd × Nd=>[.agg (Bw p.1),.agg (Bw p.2)]) (λp=>.int .i64 (V6 p.1 p.2)) (λ_=>True)
noncomputable def A16:=Dv (λp:Int × Tr=>[.agg [.int .i64 p.1,A3 p.2]]) (λp=>.int .i64 p.1) (λ_=>True)
noncomputable def A17:=Dv (λp:Int × Tr × Tr=>[.agg [.int .i64 p.1,A3 p.2.1,A3 p.2.2]]) (λp=>.int .i64 p.1) (λ_=>True)
noncomputable def A18:=Dv (λp:Tr × Tr × Tr=>[.agg [A3 p.1,A3 p.2.1,A3 p.2.2]]) (λp=>.int .i64 8) (λ_=>True)
noncomputable def A19:=Dv (λx:Nd=>[.agg (Bw x)]) (λx=>.int .i64 x.op) (λ_=>True)
noncomputable def A1v:=Dv (λt:Tr=>[A3 t]) (λt=>.Bj [.int .i64 (value t).1,.bool (value t).2]) (λ_=>True)
noncomputable def S69:=Dv (λn:Int=>[.int .i64 n]) (λn=>A3 (num n)) (λ_=>True)
noncomputable def A1w:=Dv (λn:Int=>[.int .i64 n]) (λn=>Yy (constant n)) (λn=>-9223372036854775808<n/\n<=9223372036854775807)
noncomputable def S31:=Dv (λb:Bool=>[.bool b]) (λb=>A3 (fixed b)) (λ_=>True)
noncomputable def A12:=Dv (λp:Tr × Int=>[A3 p.1,.int .i64 p.2]) (λp=>.bool (isV p.1 p.2)) (λ_=>True)
noncomputable def S65:=Dv (λt:Tr=>[A3 t]) (λt=>A3 (neg t)) (λ_=>True)
noncomputable def A11:=Dv (λp:Int × Tr × Tr=>[.int .i64 p.1,A3 p.2.1,A3 p.2.2]) (λp=>Yy (arith p.1 p.2.1 p.2.2)) (λp=>p.1=4\/p.1=5\/p.1=6)
noncomputable def S68:=Dv (λp:Tr × Tr=>[A3 p.1,A3 p.2]) (λp=>.int .i64 (Nm.compare p.1 p.2)) (λp=>size p.1<=1000/\size p.2<=1000)
noncomputable def S30:=Dv (λp:Tr × Tr=>[A3 p.1,A3 p.2]) (λp=>.bool (same p.1 p.2)) (λp=>size p.1<=1000/\size p.2<=1000)
noncomputable abbrev Ahq (p:Int × Tr × Tr):List AV:=[.int .i64 p.1,A3 p.2.1,A3 p.2.2]
noncomputable def A13:=Dv Ahq (λp=>A3 (ordered p.1 p.2.1 p.2.2)) (λp=>size p.2.1<=1000/\size p.2.2<=1000)
noncomputable def A1x:=Dv Ahq (λp=>A3 (Mw p.1 p.2.1 p.2.2)) (λp=>(p.1=4\/p.1=5\/p.1=6)/\size p.2.1<=1000/\size p.2.2<=1000)
noncomputable def A1y:=Dv Ahq (λp=>A3 (Kg p.1 p.2.1 p.2.2)) (λp=>(p.1=15\/p.1=16)/\size p.2.1<=1000/\size p.2.2<=1000)
noncomputable def S66:=Dv (λt:Tr=>[A3 t]) (λt=>A3 (Jl t)) (λt=>size t<=1000)
noncomputable def Avh:=Dv Ahq (λp=>A3 (Dg p.1 p.2.1 p.2.2)) (λp=>(9<=p.1/\p.1<=12)/\size p.2.1<=1000/\size p.2.2<=1000)
noncomputable def Axe:=Dv Ahq (λp=>A3 (Ek p.1 p.2.1 p.2.2)) (λp=>(9<=p.1/\p.1<=14)/\size p.2.1<=1000/\size p.2.2<=1000)
noncomputable def S67:=Dv (λ_:Unit=>[]) (λ_=>.agg Of) (λ_=>True)
noncomputable def S29:=Dv (λt:Tr=>[A3 t]) (λt=>A3 (normal t)) (λt=>Wf t/\size t<=1000)
noncomputable def S64:=Dv (λt:Tr=>[A3 t]) (λt=>.bool (decide (9<=t.op))) (λ_=>True)
end Go.Proofs
