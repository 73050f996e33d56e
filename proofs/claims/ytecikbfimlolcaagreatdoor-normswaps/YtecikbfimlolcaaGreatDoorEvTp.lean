/- Lists of numbers of the caller's: what the row says of them, as the evaluator sees them. -/
import Derived.Test.YtecikbfimlolcaaGreatDoorEvTo
import Derived.Test.YtecikbfimlolcaaGreatDoorEvRM
set_option maxRecDepth 100000
set_option linter.unusedSimpArgs false
set_option linter.unusedVariables false
noncomputable section
namespace Go.Proofs
open Go Go.Ev Go.Nm
theorem Xy {h h1:H} (g:Sx.Ai h h1):∀(gl:List GE),(∀e∈gl,e.g<h.nx)->Hj gl h=true->Hj gl h1=true
 |[],_,_=>rfl
 |e::gl,B6,ho=>by
  have hg:=g.Cf e.g (B6 e (List.mem_cons_self ..))
  unfold Hj at ho ⊢
  rw [hg]
  revert ho
  cases h.m.get e.g with
  |cells l t k=>
   cases k with
   |exact=>
    intro ho
    dsimp only at ho ⊢
    rcases Bool.eq_false_or_eq_true (Sh l e.l) with a1|a1
    . rw [a1] at ho ⊢
      rcases Bool.eq_false_or_eq_true (Nat.beq t e.t) with a2|a2
      . rw [a2] at ho ⊢
        exact Xy g gl (λe he=>B6 e (List.mem_cons_of_mem _ he)) ho
      . rw [a2] at ho;cases ho
    . rw [a1] at ho;cases ho
   |fz c=>intro ho;cases ho
   |Gt c=>intro ho;cases ho
   |Cf c st=>intro ho;cases ho
  |_=>intro ho;cases ho
def AeV:Tab:=⟨8192,[⟨13,[],.bool true⟩]⟩
abbrev CK (gl:List GE) (d:Nat):Ac:=ApJ gl AeV (C d)
theorem Sj {gl:List GE} {d:Nat} {g:FuncId} (hg:Nat.beq (Nat.land 8192 (Nat.pow 2 g)) 0=true) (args:List AV) (h:H):(CK gl d).call g args h=(C d).call g args h:=by
 have e:Hl AeV g args=none:=by
  unfold Hl
  rw [show AeV.Azg=8192 from rfl,hg]
 show (Option.rec (motive:=λ_=>OR) ((C d).call g args h) (λv=>Abq gl v h) (Hl AeV g args):OR)=_
 rw [e]
theorem ApD {gl:List GE} {d:Nat} {h:H} (ho:Hj gl h=true):(CK gl d).call 13 [] h=.ok (.bool true) h:=by
 have e:Hl AeV 13 []=some (.bool true):=rfl
 show (Option.rec (motive:=λ_=>OR) ((C d).call 13 [] h) (λv=>Abq gl v h) (Hl AeV 13 []):OR)=_
 rw [e]
 show Abq gl (.bool true) h=_
 unfold Abq
 rw [ho]
theorem Aoj (gl:List GE) (d:Nat) (hd:2001<=d) (va vb vc:AV) (La Lb Lc:List Int) (h:H) (hgl:∀e∈gl,e.g<h.nx) (ho:Hj gl h=true) (ha:Lf h va La) (hb:Lf h vb Lb) (hc:Lf h vc Lc) (la:(La.length:Int)<=9223372036854775807) (lb:(Lb.length:Int)<=9223372036854775807) (lc:(Lc.length:Int)<=9223372036854775807):
 Sx.Ah h (λr _=>r=.bool true) (Fy PP (CK gl d) 5 [va,vb,vc] h):=by
 refine Ah0 (r5 (CK gl d) 1048576 ?_ ?_ ?_ ?_ ?_ va vb vc La Lb Lc h ?_ ha hb hc la lb lc)
 . intro vl sv L ss h h1 h2 h3
   rw [Sj rfl]
   exact c14 d (by omega) vl sv L ss h h1 h2 h3
 . intro vl L h h1 h2
   rw [Sj rfl]
   exact c15 d (by omega) vl L h h1 h2
 . intro tk vl L h lv t k h1 h2 h3 h4 h5
   rw [Sj rfl]
   exact c17 d (by omega) tk vl L h lv t k h1 h2 h3 h4 h5
 . intro q vc vo vm h h1 h2 h3 h4
   rw [Sj rfl]
   exact c10 d (by omega) q vc vo vm h h1 h2 h3 h4
 . intro q vc vo vm wc wo wm h h1 h2 h3 h4 h5
   rw [Sj rfl]
   exact W0 d (by omega) q vc vo vm wc wo wm h h1 h2 h3 h4 h5
 . intro h1 g
   rw [ApD (Xy g gl hgl ho)]
   exact Sx.Lo (Sx.Ai.refl h1) rfl
end Go.Proofs
namespace Go.Proofs
open Go Go.Ev Go.Nm
open Go.Proofs.YtecikbfimlolcaaGreatDoor (Um AhM mixed Nk Jq)
theorem bo5:Bg PP 5=true:=by kernel_rfl
theorem Aou {σ:Dx} {v:Value} (h:Au σ (.bool true) v):v=.bool true:=by cases h;rfl
theorem AkH (va vb vc:AV) (La Lb Lc:List Int) {An:Array Value} {h:H} {σ:Dx} {w:World}
 (hgl:∀e∈Um,e.g<h.nx) (ho:Hj Um h=true) (ha:Lf h va La) (hb:Lf h vb Lb) (hc:Lf h vc Lc) (la:(La.length:Int)<=9223372036854775807) (lb:(Lb.length:Int)<=9223372036854775807) (lc:(Lc.length:Int)<=9223372036854775807)
 (hlg:h.lg=[]) (hσ:∀b,h.nx<=b->σ b=none) (Ow:Bk σ [va,vb,vc] An.toList) (hms:∀i:Ii,h.nx<=@Bq i->@Ms i PP.globals.size σ h w) (hg:Vm PP.globals.size σ):
 Calls PP 5 An w λe w'=>e=.returned (.bool true)/\Kept w w':=by
 have Du:=Aoj Um 2001 (Nat.le_refl _) va vb vc La Lb Lc h hgl ho ha hb hc la lb lc
 have X3:∀i:Ii,@Bd i PP PP.globals.size (CK Um 2001):=λi=>Ahj (Xh mixed Nk t27 2001) Jq (λo ho=>by
  rcases List.mem_singleton.1 ho with rfl
  exact AhM)
 refine (AgZ mixed Nk X3 bo5 Du hlg hσ Ow hms hg).mono λe w' hh=>?_
 obtain ⟨v,v',σ',rfl,⟨h',rfl⟩,hv,hk⟩:=hh
 rw [Aou hv]
 exact ⟨rfl,hk⟩
end Go.Proofs
namespace Go.Proofs
open Go Go.Ev Go.Nm
section
variable {H:Type} {enc:TypeId × Value->H} {W:World} {gl:List GE} {B:List Nat}
theorem ce3:PP.cellsOf 3=1:=by kernel_rfl
def Vn:Value->List Nat
 |.slice (some a) _ _=>[a.block]
 |_=>[]
def Kin (gl:List GE) (B:List Nat) (v:Value):Prop:=∀b∈Vn v,b∈B\/∃e∈gl,e.g=b
theorem AfE (hw:WOk PP gl W) (Ga:P8 PP.globals.size gl=true) (hB:Qn gl W B) {v:Value} {d:DataW H} {p:List MemPlace} (hk:Kin gl B v) {base:Nat} (S7:Value.okWide PP W .any base 34 v)
 (h:DataW.Trod enc PP W 0 (λ_=>true) true 34 v d p):
 ∃(u:AV) (L:List Int),Lf (Adk gl W B) u L/\Au (Pn PP.globals.size W B) u v/\(L.length:Int)<=9223372036854775807:=by
 have hc:Cell.okWide PP W .any base 34 v:=by
  unfold Value.okWide at S7
  rw [Tryz.underlying34] at S7
  exact S7
 have hld:∀a len cap,v=.slice (some a) len cap->Ams W a:=λa len cap hv=>Yl (hv ▸ hc)
 have AjJ:v.cells.toList=[v]:=by
  cases v with
  |agg l=>
   unfold Cell.okWide at hc
   rw [Tryz.underlying34] at hc
   unfold Cell.ok at hc
   rw [Tryz.underlying34] at hc
   exact hc.elim
  |_=>rfl
 obtain ⟨Me,h⟩:=h
 rw [AjJ] at h
 have h':=h
 rcases Deep.open_slice Tryz.underlying34 h' with ⟨h1,_⟩|⟨a,len,cap,m,n,D,Pl,h1,_,hle,Ah8,hm,_,hx⟩
 . simp only [List.cons.injEq,and_true] at h1
   subst h1
   exact ⟨.Bv,[],.inl ⟨rfl,rfl,rfl⟩,.Bv,by simp⟩
 . simp only [List.cons.injEq,and_true] at h1
   subst h1
   have hmc:m=cap:=by simpa using hm
   subst hmc
   rw [ce3] at hx
   obtain ⟨L,hl,h2,h3⟩:=Aon (α:=Int) (f:=λn:Int=>[AV.int .i64 n]) (s:=1) (by omega) hw Ga hB (hld a len m rfl) (hk a.block (by simp [Vn])) hle (λi hi=>by
    obtain ⟨cs,q1,q2⟩:=hx i hi
    obtain ⟨n0,e0,_,_⟩:=DataW.trod_int Tryz.underlying3 q2
    exact ⟨n0,cs,q1,by rw [e0];rfl⟩)
   refine ⟨_,L,h2,h3,?_⟩
   have:maxLen=9223372036854775807:=rfl
   omega
end
end Go.Proofs
