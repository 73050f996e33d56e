/- The table of what package norm's functions come to, so far as package norm's comparing goes. -/
import Derived.Test.YtecikbfimlolcaaGreatDoorEvNa
import Derived.Test.YtecikbfimlolcaaGreatDoorEvNb
set_option maxRecDepth 100000
set_option linter.unusedSimpArgs false
set_option linter.unusedVariables false
namespace Go.Proofs
open Go Go.Ev Go.Nm
noncomputable abbrev PP:Program:=Tryz.prog
theorem Fb:∀ a b:Tr,Ax a=Ax b->a=b
 |.leaf x,.leaf y,h=>by
  cases x;cases y
  simpa [Ax] using h
 |.one o a,.one p b,h=>by
  simp [Ax] at h
  rw [h.1,Fb a b h.2]
 |.two o a b,.two p c d,h=>by
  simp [Ax] at h
  rw [h.1,Fb a c h.2.1,Fb b d h.2.2]
 |.three a b c,.three d e f,h=>by
  simp [Ax] at h
  rw [Fb a d h.1,Fb b e h.2.1,Fb c f h.2.2]
 |.leaf _,.one _ _,h=>by simp [Ax] at h
 |.leaf _,.two _ _ _,h=>by simp [Ax] at h
 |.leaf _,.three _ _ _,h=>by simp [Ax] at h
 |.one _ _,.leaf _,h=>by simp [Ax] at h
 |.one _ _,.two _ _ _,h=>by simp [Ax] at h
 |.one _ _,.three _ _ _,h=>by simp [Ax] at h
 |.two _ _ _,.leaf _,h=>by simp [Ax] at h
 |.two _ _ _,.one _ _,h=>by simp [Ax] at h
 |.two _ _ _,.three _ _ _,h=>by simp [Ax] at h
 |.three _ _ _,.leaf _,h=>by simp [Ax] at h
 |.three _ _ _,.one _ _,h=>by simp [Ax] at h
 |.three _ _ _,.two _ _ _,h=>by simp [Ax] at h
theorem plain_nd (x:Nd):Plain (.agg (Bq x)):=.agg fun y hy=>by simp [Bq] at hy;rcases hy with rfl|rfl|rfl;exact .int _ _;exact .int _ _;exact .str _
theorem Bf:∀ t:Tr,Plain (Ax t)
 |.leaf x=>.ifc (plain_nd x)
 |.one o a=>.ifc (.agg fun y hy=>by simp at hy;rcases hy with rfl|rfl;exact .int _ _;exact Bf a)
 |.two o a b=>.ifc (.agg fun y hy=>by simp at hy;rcases hy with rfl|rfl|rfl;exact .int _ _;exact Bf a;exact Bf b)
 |.three c a b=>.ifc (.agg fun y hy=>by simp at hy;rcases hy with rfl|rfl|rfl;exact Bf c;exact Bf a;exact Bf b)
open Classical in
noncomputable def Di {α:Type} (enc:α->List AV) (out:α->AV) (dom:α->Prop):List AV->Option AV:=fun args=>if hx:∃ a,dom a/\enc a=args then some (out hx.choose) else none
theorem B7 {α:Type} {enc:α->List AV} {out:α->AV} {dom:α->Prop} (hinj:∀ a b,enc a=enc b->a=b) {a:α} (hd:dom a):Di enc out dom (enc a)=some (out a):=by
 have hx:∃ b,dom b/\enc b=enc a:=⟨a,hd,rfl⟩
 unfold Di
 rw [dif_pos hx,hinj _ _ hx.choose_spec.2]
theorem graph_some {α:Type} {enc:α->List AV} {out:α->AV} {dom:α->Prop} {args:List AV} {v:AV} (h:Di enc out dom args=some v):∃ a,dom a/\enc a=args/\v=out a:=by
 unfold Di at h
 split at h
 . rename_i hx
   cases h
   exact ⟨_,hx.choose_spec.1,hx.choose_spec.2,rfl⟩
 . cases h
theorem mixed:PP.follows .mixedOrders=true:=by kernel_rfl
theorem pok:progOk PP=true:=by kernel_rfl
theorem gsz:PP.globals.size<=100:=of_decide_eq_true (by kernel_rfl)
noncomputable abbrev h00:H:=glH [] PP.globals.size
theorem h00_nx:h00.nx<=100:=gsz
theorem lim_val:Bh=1000000000000000000:=rfl
theorem gets_callF {ctx:Ae} {q:Bool} {g:FuncId} {args:List AV} {h:H} {n:Nat} {Q:AV->H->Prop} (hc:Sx.B3 n h Q (An PP ctx 1048576 q g args h)):Sx.B3 n h Q (Fc PP ctx g args h):=by
 obtain ⟨v,h1,h2,h3⟩:=hc
 exact ⟨v,h1,callX_callF (Nat.le_refl _) h2,h3⟩
theorem Ed {T:C7} (ht:TOk PP T) {g:FuncId} {α:Type} {enc:α->List AV} {out:α->AV} {dom:α->Prop} {q:Bool} {n:Nat} (hb:Ba PP g=true) (hn:n<=200000) (hpl:∀ a,PlainL (enc a)) (hpv:∀ a,Plain (out a))
 (hrun:∀ a,dom a->∃ d,Sx.Comes (An PP (cD PP T d) 1048576 q g (enc a) h00) (Sx.Out n h00 (out a))):TOk PP (T.ext g (Di enc out dom)):=by
 refine TOk.ext mixed pok (by have:=gsz;rw [lim_val];omega) ht hb fun args v hs=>?_
 obtain ⟨a,h1,rfl,rfl⟩:=graph_some hs
 obtain ⟨d,v,h2,h3,rfl,h4⟩:=hrun a h1
 refine ⟨hpl a,hpv a,d,h2,callX_callF (Nat.le_refl _) h3,?_,fun x hx=>?_⟩
 . have:=h4.nx.2
   have:=h00_nx
   rw [lim_val]
   omega
 . rcases h4.lg x hx with h5|h5
   . cases h5
   . exact h5
theorem gets_out {n:Nat} {h:H} {u:AV} {r:OR} (hg:Sx.B3 n h (fun v _=>v=u) r):Sx.Comes r (Sx.Out n h u):=by
 obtain ⟨v,h1,h2,h3,h4⟩:=hg
 exact ⟨v,h1,h2,h4,h3.small⟩
noncomputable def S177:=Di (fun n:Int=>[.int .i64 n]) (fun _=>.bool false) (fun _=>True)
noncomputable def S178:=Di (fun s:List Nat=>[.str s]) (fun _=>.bool false) (fun _=>True)
noncomputable def S117:=Di (fun p:Int × Int=>[.int .i64 p.1,.int .i64 p.2]) (fun p=>.int .i64 (cmpI p.1 p.2)) (fun _=>True)
noncomputable def S118:=Di (fun p:List Nat × List Nat=>[.str p.1,.str p.2]) (fun p=>.int .i64 (cmpS p.1 p.2)) (fun _=>True)
noncomputable def S115:=Di (fun p:Nd × Nd=>[.agg (Bq p.1),.agg (Bq p.2)]) (fun p=>.int .i64 (cmpN p.1 p.2)) (fun _=>True)
noncomputable def S350:=Di (fun p:Int × Tr=>[.agg [.int .i64 p.1,Ax p.2]]) (fun p=>.int .i64 p.1) (fun _=>True)
noncomputable def S353:=Di (fun p:Int × Tr × Tr=>[.agg [.int .i64 p.1,Ax p.2.1,Ax p.2.2]]) (fun p=>.int .i64 p.1) (fun _=>True)
noncomputable def S355:=Di (fun p:Tr × Tr × Tr=>[.agg [Ax p.1,Ax p.2.1,Ax p.2.2]]) (fun p=>.int .i64 8) (fun _=>True)
noncomputable def S357:=Di (fun x:Nd=>[.agg (Bq x)]) (fun x=>.int .i64 x.op) (fun _=>True)
noncomputable def S109:=Di (fun t:Tr=>[Ax t]) (fun t=>.Bl [.int .i64 (value t).1,.bool (value t).2]) (fun _=>True)
noncomputable def S69:=Di (fun n:Int=>[.int .i64 n]) (fun n=>Ax (num n)) (fun _=>True)
noncomputable def S110:=Di (fun n:Int=>[.int .i64 n]) (fun n=>repO (constant n)) (fun n=>-9223372036854775808<n/\n<=9223372036854775807)
noncomputable def S31:=Di (fun b:Bool=>[.bool b]) (fun b=>Ax (fixed b)) (fun _=>True)
noncomputable def S175:=Di (fun p:Tr × Int=>[Ax p.1,.int .i64 p.2]) (fun p=>.bool (isV p.1 p.2)) (fun _=>True)
noncomputable def S65:=Di (fun t:Tr=>[Ax t]) (fun t=>Ax (neg t)) (fun _=>True)
noncomputable def S174:=Di (fun p:Int × Tr × Tr=>[.int .i64 p.1,Ax p.2.1,Ax p.2.2]) (fun p=>repO (arith p.1 p.2.1 p.2.2)) (fun p=>p.1=4\/p.1=5\/p.1=6)
noncomputable def S68:=Di (fun p:Tr × Tr=>[Ax p.1,Ax p.2]) (fun p=>.int .i64 (Nm.compare p.1 p.2)) (fun p=>size p.1<=1000/\size p.2<=1000)
noncomputable def S30:=Di (fun p:Tr × Tr=>[Ax p.1,Ax p.2]) (fun p=>.bool (same p.1 p.2)) (fun p=>size p.1<=1000/\size p.2<=1000)
noncomputable abbrev enc3 (p:Int × Tr × Tr):List AV:=[.int .i64 p.1,Ax p.2.1,Ax p.2.2]
noncomputable def S176:=Di enc3 (fun p=>Ax (ordered p.1 p.2.1 p.2.2)) (fun p=>size p.2.1<=1000/\size p.2.2<=1000)
noncomputable def S111:=Di enc3 (fun p=>Ax (sums p.1 p.2.1 p.2.2)) (fun p=>(p.1=4\/p.1=5\/p.1=6)/\size p.2.1<=1000/\size p.2.2<=1000)
noncomputable def S113:=Di enc3 (fun p=>Ax (joins p.1 p.2.1 p.2.2)) (fun p=>(p.1=15\/p.1=16)/\size p.2.1<=1000/\size p.2.2<=1000)
noncomputable def S66:=Di (fun t:Tr=>[Ax t]) (fun t=>Ax (nott t)) (fun t=>size t<=1000)
noncomputable def S112a:=Di enc3 (fun p=>Ax (Dq p.1 p.2.1 p.2.2)) (fun p=>(9<=p.1/\p.1<=12)/\size p.2.1<=1000/\size p.2.2<=1000)
noncomputable def S112:=Di enc3 (fun p=>Ax (Ea p.1 p.2.1 p.2.2)) (fun p=>(9<=p.1/\p.1<=14)/\size p.2.1<=1000/\size p.2.2<=1000)
noncomputable def S67:=Di (fun _:Unit=>[]) (fun _=>.agg rulesA) (fun _=>True)
noncomputable def S29:=Di (fun t:Tr=>[Ax t]) (fun t=>Ax (normal t)) (fun t=>Wf t/\size t<=1000)
noncomputable def S64:=Di (fun t:Tr=>[Ax t]) (fun t=>.bool (decide (9<=t.op))) (fun _=>True)
end Go.Proofs
