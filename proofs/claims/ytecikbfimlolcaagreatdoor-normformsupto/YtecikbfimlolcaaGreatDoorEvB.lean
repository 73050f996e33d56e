/- Operations that read no memory: what they do in the model. Operations that read no memory, continued: arithmetic, comparisons, strings. Operations that read no memory, the last of them: slicing, lengths, literals. Literals of structs, arrays and slices; lengths. Reading and writing blocks: the abstract heap and the model's. Writing into a block, and making one: each step keeps the two heaps alike. Making blocks. A new array whose capacity is open; a new version of one. -/
import Derived.Test.YtecikbfimlolcaaGreatDoorEvA
import Derived.Laws.Sem
import Derived.Laws.Entries
import Derived.Laws.Strings
import Derived.Laws.StructEq
import Derived.ChangeKeysEq
import Derived.Laws.Cells
set_option linter.unusedSimpArgs false
set_option linter.unusedVariables false
set_option linter.unusedSectionVars false
namespace Go.Ev
variable [Lim]
variable {P:Program} {G:Nat} {σ:Dj} {nt:Nat} {f:L2} {a:Act} {h h':H} {w:World} {v:AV} {ctx:Ae}
theorem Ee {a b:Nat} (h:Nat.blt a b=true):a<b:=by simpa [Nat.blt_eq] using h
theorem ble_le {a b:Nat} (h:Nat.ble a b=true):a<=b:=by simpa using h
theorem Cf {a b:Nat} (h:Nat.beq a b=true):a=b:=by simpa using h
theorem blt_ge {a b:Nat} (h:Nat.blt a b=false):b<=a:=by
 have:¬ Nat.blt a b=true:=by simp [h]
 simpa [Nat.blt_eq] using this
theorem ble_gt {a b:Nat} (h:Nat.ble a b=false):b<a:=by
 have:¬ Nat.ble a b=true:=by simp [h]
 simp at this
 omega
theorem beq_neN {a b:Nat} (h:Nat.beq a b=false):a≠b:=by
 intro e;subst e;simp at h
theorem absN_rel (σ:Dj):∀ (d:Nat) (v:Value),Aq σ (absN d v) v:=by
 intro d
 induction d with
 |zero=>intro v;exact .top v
 |succ d ih=>
  intro v
  unfold absN
  split
  all_goals first|exact .bool _|exact .int _ _|exact .str _|exact .nptr|exact .Cb|exact .nmap|exact .nfn|exact .Bx|exact .ifc _ _ _ (ih _)|exact .top _|skip
  rename_i cs
  refine .agg _ _ (by simp) fun i x y hx hy=>?_
  rw [List.getElem?_map,hy] at hx
  injection hx with hx
  subst hx
  exact ih y
theorem Ce (hf:FRel σ nt f a) (hg:GOk G σ) (x:Operand) (hx:Ej G x=true):Aq σ (ev x f) (a.eval x):=by
 cases x with
 |tmp t=>exact hf.slot t (Ee hx)
 |const v=>exact absN_rel σ 5 v
 |global g=>
  obtain ⟨e,h1,h2⟩:=hg g (Ee hx)
  have:=Aq.ptr (σ:=σ) g 0 e h1
  rw [h2] at this
  exact this
 |func g=>exact .fn (.func g) [] [] #[] #[] (fun l=>by simp) rfl (fun i x y hx _=>by simp at hx) rfl (fun i x y hx _=>by simp at hx)
theorem evs_rel (hf:FRel σ nt f a) (hg:GOk G σ) (l:List Operand) (hl:l.all (Ej G)=true):Bd σ (evs l f) (l.map a.eval):=by
 induction l with
 |nil=>exact Bd.nil σ
 |cons x l ih=>
  simp only [List.all_cons,Bool.and_eq_true] at hl
  exact .cons (Ce hf hg x hl.1) (ih hl.2)
theorem vB_yes {x:AV} {b:Bool} (h:vB x=.yes b):x=.bool b:=by cases x<;>cases h;rfl
theorem vI_yes {x:AV} {k:IntKind} {n:Int} (h:vI x=.yes k n):x=.int k n:=by cases x<;>cases h;rfl
theorem vS_yes {x:AV} {s:List Nat} (h:vS x=.yes s):x=.str s:=by cases x<;>cases h;rfl
theorem vP_yes {x:AV} {b o:Nat} (h:vP x=.yes b o):x=.ptr b o:=by cases x<;>cases h;rfl
theorem vP_nil {x:AV} (h:vP x=.nil):x=.nptr:=by cases x<;>cases h;rfl
theorem vL_yes {x:AV} {b o l c z:Nat} {e:Bool} (h:vL x=.yes b o l c z e):x=.sl b o l c z e:=by cases x<;>cases h;rfl
theorem vL_nil {x:AV} (h:vL x=.nil):x=.Cb:=by cases x<;>cases h;rfl
theorem vA_yes {x:AV} {cs:List AV} (h:vA x=.yes cs):x=.agg cs:=by cases x<;>cases h;rfl
theorem vT_yes {x:AV} {cs:List AV} (h:vT x=.yes cs):x=.Bl cs:=by cases x<;>cases h;rfl
theorem vM_yes {x:AV} {r:Nat} (h:vM x=.yes r):x=.map r:=by cases x<;>cases h;rfl
theorem vM_nil {x:AV} (h:vM x=.nil):x=.nmap:=by cases x<;>cases h;rfl
theorem vF_yes {x:AV} {g:Fn} {a c:List AV} (h:vF x=.yes g a c):x=.fn g a c:=by cases x<;>cases h;rfl
theorem vIf_yes {x:AV} {t:TypeId} {v:AV} (h:vIf x=.yes t v):x=.ifc t v:=by cases x<;>cases h;rfl
theorem vIf_nil {x:AV} (h:vIf x=.nil):x=.Bx:=by cases x<;>cases h;rfl
theorem cellsOf_rel {x:AV} {y:Value} {cs:List AV} (h:cellsOf x=some cs) (hv:Aq σ x y):Bd σ cs y.cells.toList:=by
 cases hv with
 |top v=>cases h
 |Bl cs cs' hl hh=>cases h
 |agg cs cs' hl hh=>cases h;exact ⟨hl,hh⟩
 |_=>cases h;exact .cons (by constructor<;>assumption) (.nil σ)
theorem oneB_rel {x:AV} {y:Value} (h:oneB x=true) (hv:Aq σ x y):y.oneCell'=true:=by
 cases hv<;>first|rfl|cases h
def Ran (P:Program) (s:Sem Next) (w:World) (v':Value) (w':World):Prop:=
 s.run P w=.ok (.value v') w'\/(s.run P w=.ok .skip w'/\v'=undef)
def C5 (w:World) (o:Obj):World:={ w with heap:=w.heap.push o }
inductive Eff1 (σ:Dj) (h:H) (w:World):AV->Value->H->World->Prop where
 |quiet (v:AV) (v':Value) (hv:Aq σ v v'):Eff1 σ h w v v' h w
 |ptr (cs:List AV) (cs':Array Value) (t:TypeId) (hc:Bd σ cs cs'.toList):
  Eff1 σ h w (.ptr h.nx 0) (.pointer (some ⟨w.heap.size,0,none⟩)) (h.new (.cells cs t .exact)) (C5 w (.cells cs' t))
 |sl (cs:List AV) (cs':Array Value) (t:TypeId) (len cap sz:Nat) (hle:len<=cap) (hc:Bd σ cs cs'.toList):
  Eff1 σ h w (.sl h.nx 0 len cap sz true) (.slice (some ⟨w.heap.size,0,none⟩) len cap) (h.new (.cells cs t .exact)) (C5 w (.cells cs' t))
def Good1 (P:Program) (G:Nat) (o:Oper):Prop:=∀ (σ:Dj) (nt:Nat) (f:L2) (a:Act) (h h':H) (w:World) (v:AV) (ctx:Ae),
 opD o.op o.type P ctx f h=.ok v h'->o.op.operands.toList.all (Ej G)=true->FRel σ nt f a->GOk G σ ->
 ∃ v' w',Ran P (execOp a.eval o) w v' w'/\Eff1 σ h w v v' h' w'
section ops
variable {dst:Option Tmp} {ty:TypeId} {pos:String} {af:Array Edge} {gd:Option (Nat × Bool)}
theorem By {v v':AV} {h h':H} (e:OR.ok v h=.ok v' h'):v=v'/\h=h':=by cases e;exact ⟨rfl,rfl⟩
theorem good_move (x:Operand):Good1 P G ⟨dst,.move x,ty,pos,af,gd⟩:=by
 intro σ nt f a h h' w v ctx he C2 hf hg
 obtain ⟨rfl,rfl⟩:=By he
 exact ⟨_,w,.inl rfl,.quiet _ _ (Ce hf hg x (by simpa [Op.operands] using C2))⟩
theorem good_assign (x:Operand):Good1 P G ⟨dst,.assign x,ty,pos,af,gd⟩:=by
 intro σ nt f a h h' w v ctx he C2 hf hg
 obtain ⟨rfl,rfl⟩:=By he
 exact ⟨_,w,.inl rfl,.quiet _ _ (Ce hf hg x (by simpa [Op.operands] using C2))⟩
theorem pickV_ok {x y z:AV} {h:H} (he:Av x y z h=.ok v h'):∃ b,x=.bool b/\v=(if b then y else z)/\h'=h:=by
 cases x<;>first|(cases he;done)|skip
 rename_i b
 cases b<;>cases he<;>exact ⟨_,rfl,rfl,rfl⟩
theorem good_pick (c x y:Operand):Good1 P G ⟨dst,.pick c x y,ty,pos,af,gd⟩:=by
 intro σ nt f a h h' w v ctx he C2 hf hg
 simp [Op.operands] at C2
 obtain ⟨b,hb,rfl,rfl⟩:=pickV_ok he
 have hc:=Ce hf hg c C2.1
 rw [hb] at hc
 generalize hcv:a.eval c=cv at hc
 cases hc
 refine ⟨if b then a.eval x else a.eval y,w,.inl (by simp [execOp,hcv,asBool]),.quiet _ _ ?_⟩
 cases b
 . exact Ce hf hg y C2.2.2
 . exact Ce hf hg x C2.2.1
theorem zeroInfo_rel {t:TypeId} {cs:List AV} (σ:Dj) (h:zeroInfo P t=some cs):∃ i z,P.info? t=some i/\i.zero=some z/\Bd σ cs z.cells.toList:=by
 unfold zeroInfo zeroVal at h
 cases hi:P.info? t with
 |none=>simp [hi] at h
 |some i=>
  cases hz:i.zero with
  |none=>simp [hi,hz] at h
  |some z=>
   simp [hi,hz] at h
   exact ⟨i,z,rfl,hz,cellsOf_rel h (absN_rel σ 5 z)⟩
theorem newC_ok {cs:Option (List AV)} {e:TypeId} (he:newC cs e h=.ok v h'):∃ c,cs=some c/\v=.ptr h.nx 0/\h'=h.new (.cells c e .exact):=by
 cases cs<;>cases he
 exact ⟨_,rfl,rfl,rfl⟩
theorem good_alloc (e:TypeId):Good1 P G ⟨dst,.alloc e,ty,pos,af,gd⟩:=by
 intro σ nt f a h h' w v ctx he C2 hf hg
 obtain ⟨c,hc,rfl,rfl⟩:=newC_ok he
 obtain ⟨i,z,hi,hz,hr⟩:=zeroInfo_rel σ hc
 refine ⟨_,_,.inl ?_,.ptr c z.cells e hr⟩
 simp [execOp,Instr.alloc,zeroValue,typeInfo,hi,hz,newVar,newRow,C5]
theorem good_box (e:TypeId) (x:Operand):Good1 P G ⟨dst,.box e x,ty,pos,af,gd⟩:=by
 intro σ nt f a h h' w v ctx he C2 hf hg
 obtain ⟨c,hc,rfl,rfl⟩:=newC_ok he
 have hr:=cellsOf_rel hc (Ce hf hg x (by simpa [Op.operands] using C2))
 refine ⟨_,_,.inl ?_,.ptr c (a.eval x).cells e hr⟩
 simp [execOp,Instr.box,newVar,newRow,C5]
theorem res1_ok {x:Option AV} (he:res1 x h=.ok v h'):x=some v/\h'=h:=by
 cases x<;>cases he;exact ⟨rfl,rfl⟩
theorem resAgg_ok {x:Option (List AV)} (he:resAgg x h=.ok v h'):∃ cs,x=some cs/\v=.agg cs/\h'=h:=by
 cases x<;>cases he;exact ⟨_,rfl,rfl,rfl⟩
theorem Be {c:Bool} {x y:OR} {r:OR} (he:Bool.rec (motive:=fun _=>OR) y x c=r):(c=true/\x=r)\/(c=false/\y=r):=by
 cases c
 . exact .inr ⟨rfl,he⟩
 . exact .inl ⟨rfl,he⟩
theorem bad_ne {n:Nat} (he:OR.bad n=.ok v h'):False:=by cases he
theorem good_nilCheck (x:Operand):Good1 P G ⟨dst,.nilCheck x,ty,pos,af,gd⟩:=by
 intro σ nt f a h h' w v ctx he C2 hf hg
 have hx:=Ce hf hg x (by simpa [Op.operands] using C2)
 rcases Be he with ⟨hn,he⟩|⟨_,he⟩
 . obtain ⟨rfl,rfl⟩:=By he
   refine ⟨_,w,.inl ?_,.quiet _ _ hx⟩
   simp only [execOp]
   generalize ev x f=u at *
   generalize a.eval x=y at *
   cases hx with
   |fn g as cs as' cs' hf' _ _ _ _=>cases g<;>first|rfl|(cases hn;done)
   |_=>first|rfl|(cases hn;done)
 . exact (bad_ne he).elim
theorem good_extract (x:Operand) (i:Nat):Good1 P G ⟨dst,.extract x i,ty,pos,af,gd⟩:=by
 intro σ nt f a h h' w v ctx he C2 hf hg
 have hx:=Ce hf hg x (by simpa [Op.operands] using C2)
 have he':exV (ev x f) i h=.ok v h':=he
 generalize ev x f=u at *
 generalize hy:a.eval x=y at *
 cases hx<;>first|(cases he';done)|skip
 rename_i cs cs' hl hh
 obtain ⟨h1,rfl⟩:=res1_ok (show res1 (lget cs i) h=.ok v h' from he')
 rw [lget_eq] at h1
 obtain ⟨y,hy',hr⟩:=Bd.get (σ:=σ) (a:=cs'.toList) ⟨hl,hh⟩ h1
 refine ⟨y,w,.inl ?_,.quiet _ _ hr⟩
 have:cs'[i]?=some y:=by simpa using hy'
 simp [execOp,hy,Instr.extract,this]
theorem good_makeIface (t:TypeId) (x:Operand):Good1 P G ⟨dst,.makeInterface t x,ty,pos,af,gd⟩:=by
 intro σ nt f a h h' w v ctx he C2 hf hg
 have hx:=Ce hf hg x (by simpa [Op.operands] using C2)
 rcases Be he with ⟨hn,he⟩|⟨_,he⟩
 . obtain ⟨rfl,rfl⟩:=By he
   refine ⟨_,w,.inl ?_,.quiet _ _ (.ifc t _ _ hx)⟩
   unfold mkIfOk at hn
   cases hu:P.underlying t with
   |none=>simp [hu] at hn
   |some d=>
    rw [hu] at hn
    cases d<;>first|(cases hn;done)|simp [execOp,Instr.makeInterface,underlying,hu]
 . exact (bad_ne he).elim
theorem good_makeFunc (fn:Fn) (x y:Array Operand):Good1 P G ⟨dst,.makeFunc fn x y,ty,pos,af,gd⟩:=by
 intro σ nt f a h h' w v ctx he C2 hf hg
 simp only [Op.operands,Array.toList_append,List.all_append,Bool.and_eq_true] at C2
 have hx:=evs_rel hf hg x.toList C2.1
 have hy:=evs_rel hf hg y.toList C2.2
 have key:(∀ l,fn≠.yield l)/\v=.fn fn (evs x.toList f) (evs y.toList f)/\h=h':=by
  have he':oMakeFunc fn x y ty P ctx f h=.ok v h':=he
  unfold oMakeFunc at he'
  cases fn<;>first|(cases he';done)|(cases he';exact ⟨fun l=>by simp,rfl,rfl⟩)
 obtain ⟨hk,rfl,rfl⟩:=key
 refine ⟨.func fn (x.map a.eval) (y.map a.eval),w,.inl (by simp [execOp,Instr.makeFunc]),.quiet _ _ (.fn fn _ _ _ _ hk ?_ ?_ ?_ ?_)⟩
 . simpa using hx.1
 . intro i u v hu hv;exact hx.2 i u v hu (by simpa using hv)
 . simpa using hy.1
 . intro i u v hu hv;exact hy.2 i u v hu (by simpa using hv)
theorem Fs {t:TypeId} {n:Nat} (h:Fx P t=some n):∃ i,P.info? t=some i/\i.size=n:=by
 unfold Fx at h
 cases hi:P.info? t with
 |none=>simp [hi] at h
 |some i=>simp [hi] at h;exact ⟨i,rfl,h⟩
theorem fldInfo_some {t u:TypeId} {i o:Nat} (h:fldInfo P t i=some (u,o)):∃ fs fd,P.underlying t=some (.struct fs)/\fs[i]?=some fd/\fd.type=u/\fd.offset=o:=by
 unfold fldInfo at h
 split at h
 . rename_i fs hu
   split at h
   . rename_i fd hf
     cases h
     exact ⟨fs,fd,hu,hf,rfl,rfl⟩
   . cases h
 . cases h
theorem fldOff_some {t:TypeId} {i o:Nat} (h:fldOff P t i=some o):∃ fs fd inf,P.underlying t=some (.struct fs)/\fs[i]?=some fd/\P.info? fd.type=some inf/\inf.size≠0/\fd.offset=o:=by
 unfold fldOff at h
 split at h
 . rename_i u o' hf
   split at h
   . rename_i n hs
     cases h
     obtain ⟨fs,fd,h1,h2,h3,h4⟩:=fldInfo_some hf
     obtain ⟨inf,h5,h6⟩:=Fs hs
     exact ⟨fs,fd,inf,h1,h2,by rw [h3];exact h5,by omega,h4⟩
   . cases h
 . cases h
theorem Gp (c off n:Nat):(⟨c,off,none⟩:Addr).add n=⟨c,off+n,none⟩:=by
 unfold Addr.add;split<;>simp_all
theorem good_fieldAddr (t:TypeId) (x:Operand) (i:Nat):Good1 P G ⟨dst,.fieldAddr t x i,ty,pos,af,gd⟩:=by
 intro σ nt f a h h' w v ctx he C2 hf hg
 have hx:=Ce hf hg x (by simpa [Op.operands] using C2)
 have he':Option.rec (motive:=fun _=>AV->H->OR) (fun _ _=>.bad 85) (fun d x h=>Bg x d h) (fldOff P t i) (ev x f) h=.ok v h':=he
 cases ho:fldOff P t i with
 |none=>rw [ho] at he';cases he'
 |some d=>
  rw [ho] at he'
  obtain ⟨fs,fd,inf,h1,h2,h3,h4,rfl⟩:=fldOff_some ho
  have he2:Bg (ev x f) fd.offset h=.ok v h':=he'
  generalize ev x f=u at *
  generalize hy:a.eval x=y at *
  cases hx<;>first|(cases he2;done)|skip
  rename_i b off e hs
  cases he2
  refine ⟨.pointer (some ⟨e.c,off+fd.offset,none⟩),w,.inl ?_,.quiet _ _ (.ptr b _ e hs)⟩
  simp [execOp,hy,Instr.fieldAt,underlying,h1,h2,Instr.sureAddr,fieldPlace,sizeOf,typeInfo,h3,h4,Gp]
theorem ldInfo_one {t:TypeId} (h:Fh P t=some none):∃ d i,P.underlying t=some d/\P.info? t=some i/\(∀ fs,d≠.struct fs)/\(∀ n e,d≠.array n e):=by
 unfold Fh at h
 split at h<;>first|(cases h;done)|skip
 rename_i d i hs ha hu hi
 exact ⟨d,i,hu,hi,fun fs e=>hs fs e,fun n e e'=>ha n e e'⟩
theorem ldInfo_many {t:TypeId} {n:Nat} (h:Fh P t=some (some n)):∃ d i,P.underlying t=some d/\P.info? t=some i/\i.size=n/\((∃ fs,d=.struct fs)\/(∃ k e,d=.array k e)):=by
 unfold Fh at h
 split at h<;>first|(cases h;done)|skip
 . rename_i fs i hu hi;cases h;exact ⟨_,i,hu,hi,rfl,.inl ⟨fs,rfl⟩⟩
 . rename_i k e i hu hi;cases h;exact ⟨_,i,hu,hi,rfl,.inr ⟨k,e,rfl⟩⟩
theorem run_isAgg_one {t:TypeId} (h:Fh P t=some none) (w:World):(isAgg t).run P w=.ok false w:=by
 obtain ⟨d,i,hu,hi,h1,h2⟩:=ldInfo_one h
 simp only [isAgg,Sem.run_bind,run_underlying hu,Result.andThen_ok]
 cases d<;>first|rfl|(exact absurd rfl (h1 _))|(exact absurd rfl (h2 _ _))
theorem run_isAgg_many {t:TypeId} {n:Nat} (h:Fh P t=some (some n)) (w:World):(isAgg t).run P w=.ok true w/\(sizeOf t).run P w=.ok n w:=by
 obtain ⟨d,i,hu,hi,rfl,h1⟩:=ldInfo_many h
 constructor
 . simp only [isAgg,Sem.run_bind,run_underlying hu,Result.andThen_ok]
   rcases h1 with ⟨fs,rfl⟩|⟨k,e,rfl⟩<;>rfl
 . simp [sizeOf,typeInfo,hi]
theorem run_part {t:TypeId} {cs:List AV} {off:Nat} {v:AV} {cs':Array Value} (hp:partA P t cs off=some v) (hc:Bd σ cs cs'.toList) (w:World):
 ∃ v',(part t cs' off).run P w=.ok v' w/\Aq σ v v':=by
 unfold partA partI at hp
 split at hp
 . rename_i hl
   rw [lget_eq] at hp
   obtain ⟨y,hy,hr⟩:=hc.get hp
   refine ⟨y,?_,hr⟩
   have:cs'[off]?=some y:=by simpa using hy
   simp [part,run_isAgg_one hl,this]
 . rename_i n hl
   cases hcut:lcut cs off n with
   |none=>simp [hcut] at hp
   |some r=>
    simp [hcut] at hp
    subst hp
    obtain ⟨h1,rfl,_⟩:=lcut_some hcut
    refine ⟨.agg (cs'.extract off (off+n)),?_,?_⟩
    . simp [part,(run_isAgg_many hl w).1,(run_isAgg_many hl w).2]
    . have:=(hc.drop off).take n
      refine .agg _ _ ?_ ?_
      . rw [this.1];simp
      . intro i x y hx hy
        refine this.2 i x y hx ?_
        rw [<- hy]
        simp [List.take_drop]
 . cases hp
theorem good_field (t:TypeId) (x:Operand) (i:Nat):Good1 P G ⟨dst,.field t x i,ty,pos,af,gd⟩:=by
 intro σ nt f a h h' w v ctx he C2 hf hg
 have hx:=Ce hf hg x (by simpa [Op.operands] using C2)
 have he':oField t x i ty P ctx f h=.ok v h':=he
 unfold oField at he'
 split at he'
 . rename_i cs inf o hva hfp
   obtain ⟨h1,rfl⟩:=res1_ok he'
   rw [vA_yes hva] at hx
   generalize hy:a.eval x=y at *
   cases hx
   rename_i cs' hl hh
   unfold fldPart at hfp
   cases hfi:fldInfo P t i with
   |none=>simp [hfi] at hfp
   |some p=>
    obtain ⟨u,o'⟩:=p
    simp [hfi] at hfp
    obtain ⟨rfl,rfl⟩:=hfp
    obtain ⟨fs,fd,k1,k2,rfl,rfl⟩:=fldInfo_some hfi
    obtain ⟨v',hr,hv⟩:=run_part (P:=P) (σ:=σ) (t:=fd.type) (off:=fd.offset) h1 (cs':=cs') ⟨hl,hh⟩ w
    refine ⟨v',w,.inl ?_,.quiet _ _ hv⟩
    simp [execOp,hy,Instr.field,underlying,k1,k2,asAgg,hr]
 . exact (bad_ne he').elim
theorem nat0_some {x:AV} {n:Nat} (h:nat0 x=some n):∃ k,x=.int k (.ofNat n):=by
 cases x<;>first|(cases h;done)|skip
 rename_i k m
 cases m<;>cases h
 exact ⟨k,rfl⟩
theorem natI_some {m:Int} {n:Nat} (h:natI m=some n):m=.ofNat n:=by
 cases m<;>cases h;rfl
theorem xInfo_sl {t:TypeId} {i:SI} (h:Gn P t=.sl i):∃ inf,P.underlying t=some (.slice i.e)/\P.info? i.e=some inf/\inf.size=i.s/\inf.bytes=i.bytes:=by
 unfold Gn at h
 split at h<;>first|(cases h;done)|skip
 . split at h
   . rename_i e hu _ inf hi
     cases hz:Nat.blt 0 inf.size with
     |false=>rw [hz] at h;cases h
     |true=>rw [hz] at h;cases h;exact ⟨inf,hu,hi,rfl,rfl⟩
   . cases h
 . split at h<;>cases h
theorem xInfo_pos {t:TypeId} {i:SI} (h:Gn P t=.sl i):0<i.s:=by
 unfold Gn at h
 split at h<;>first|(cases h;done)|skip
 . split at h
   . rename_i e hu _ inf hi
     cases hz:Nat.blt 0 inf.size with
     |false=>rw [hz] at h;cases h
     |true=>rw [hz] at h;cases h;exact Ee hz
   . cases h
 . split at h<;>cases h
theorem xInfo_arr {t:TypeId} {n:Nat} {i:SI} (h:Gn P t=.arr n i):∃ inf,P.underlying t=some (.array n i.e)/\P.info? i.e=some inf/\inf.size=i.s/\inf.bytes=i.bytes:=by
 unfold Gn at h
 cases hu:P.underlying t with
 |none=>rw [hu] at h;cases h
 |some d=>
  rw [hu] at h
  cases d with
  |array k e=>
   dsimp only at h
   cases hi:P.info? e with
   |none=>rw [hi] at h;cases h
   |some inf=>rw [hi] at h;cases h;exact ⟨inf,rfl,hi,rfl,rfl⟩
  |slice e=>
   dsimp only at h
   cases hi:P.info? e with
   |none=>rw [hi] at h;cases h
   |some inf=>
    rw [hi] at h
    dsimp only at h
    cases hz:Nat.blt 0 inf.size with
    |false=>rw [hz] at h;cases h
    |true=>rw [hz] at h;cases h
  |_=>cases h
theorem xInfo_str {t:TypeId} (h:Gn P t=.str):P.underlying t=some .string:=by
 unfold Gn at h
 split at h<;>first|(cases h;done)|skip
 . assumption
 . split at h
   . rename_i inf _
     cases hz:Nat.blt 0 inf.size with
     |false=>rw [hz] at h;cases h
     |true=>rw [hz] at h;cases h
   . cases h
 . split at h<;>cases h
theorem good_indexAddr (t:TypeId) (x i:Operand):Good1 P G ⟨dst,.indexAddr t x i,ty,pos,af,gd⟩:=by
 intro σ nt f a h h' w v ctx he C2 hf hg
 simp [Op.operands] at C2
 have hx:=Ce hf hg x C2.1
 have hi:=Ce hf hg i C2.2
 have he':iaX (Gn P t) (ev x f) (nat0 (ev i f)) h=.ok v h':=he
 generalize hy:a.eval x=y at *
 generalize hj:a.eval i=j at *
 cases hn:nat0 (ev i f) with
 |none=>rw [hn] at he';cases hxi:Gn P t<;>rw [hxi] at he'<;>cases he'
 |some n=>
  rw [hn] at he'
  obtain ⟨k,hk⟩:=nat0_some hn
  rw [hk] at hi
  cases hi
  generalize ev x f=u at *
  cases hxi:Gn P t with
  |bad=>rw [hxi] at he';cases he'
  |str=>rw [hxi] at he';cases he'
  |sl si=>
   rw [hxi] at he'
   obtain ⟨inf,k1,k2,k3,k4⟩:=xInfo_sl hxi
   have he2:iaS u n si.s h=.ok v h':=he'
   cases hx<;>first|(cases he2;done)|skip
   rename_i b off len cap sz ex e cc hs g1 g2 g3 g4
   rcases Be (show Bool.rec (motive:=fun _=>OR) (.bad 88) (.ok (.ptr b (Nat.add off (Nat.mul n si.s))) h) (Nat.blt n len)=.ok v h' from he2) with ⟨hb,he3⟩|⟨_,he3⟩
   . obtain ⟨rfl,rfl⟩:=By he3
     have hlt:=Ee hb
     refine ⟨.pointer (some ⟨e.c,off+n * si.s,none⟩),w,.inl ?_,.quiet _ _ (.ptr b _ e hs)⟩
     have h0:(0:Int)<=Int.ofNat n:=Int.natCast_nonneg n
     have h1:(Int.ofNat n)<(len:Int):=by simpa using hlt
     simp [execOp,hy,hj,Instr.indexAt,asIntOf,underlying,k1,hlt,sizeOf,typeInfo,k2,k3,Gp]
   . exact (bad_ne he3).elim
  |arr len si=>
   rw [hxi] at he'
   obtain ⟨inf,k1,k2,k3,k4⟩:=xInfo_arr hxi
   have he2:iaA u len n si.s h=.ok v h':=he'
   cases hx<;>first|(cases he2;done)|skip
   rename_i b off e hs
   rcases Be (show Bool.rec (motive:=fun _=>OR) (.bad 90) (.ok (.ptr b (Nat.add off (Nat.mul n si.s))) h) (Nat.blt n len)=.ok v h' from he2) with ⟨hb,he3⟩|⟨_,he3⟩
   . obtain ⟨rfl,rfl⟩:=By he3
     have hlt:=Ee hb
     refine ⟨.pointer (some ⟨e.c,off+n * si.s,none⟩),w,.inl ?_,.quiet _ _ (.ptr b _ e hs)⟩
     simp [execOp,hy,hj,Instr.indexAt,asIntOf,underlying,k1,hlt,sizeOf,typeInfo,k2,k3,Gp,Instr.sureAddr]
   . exact (bad_ne he3).elim
theorem str_rel {s:List Nat} {y:Value} (h:Aq σ (.str s) y):∃ bs,y=.string bs/\s=bytesOf bs:=by
 cases h;exact ⟨_,rfl,rfl⟩
theorem bytesOf_get (s:ByteArray) (n:Nat):(bytesOf s)[n]?=(s[n]?).map UInt8.toNat:=by
 unfold bytesOf
 rw [List.getElem?_map]
 congr 1
 simp only [Array.getElem?_toList]
 by_cases h:n<s.size
 . have h':n<s.data.size:=h
   rw [Array.getElem?_eq_getElem h',getElem?_pos s n h]
   rfl
 . have h':¬ n<s.data.size:=h
   rw [Array.getElem?_eq_none (by omega),getElem?_neg s n h]
theorem Fl (s:ByteArray):(bytesOf s).length=s.size:=by
 unfold bytesOf
 simp
theorem resByte_ok {x:Option Nat} (he:resByte x h=.ok v h'):∃ n,x=some n/\v=.int .u8 (.ofNat n)/\h'=h:=by
 cases x<;>cases he;exact ⟨_,rfl,rfl,rfl⟩
theorem good_index (t:TypeId) (x i:Operand):Good1 P G ⟨dst,.index t x i,ty,pos,af,gd⟩:=by
 intro σ nt f a h h' w v ctx he C2 hf hg
 simp [Op.operands] at C2
 have hx:=Ce hf hg x C2.1
 have hi:=Ce hf hg i C2.2
 have he':oIndex t x i ty P ctx f h=.ok v h':=he
 unfold oIndex at he'
 generalize hy:a.eval x=y at *
 generalize hj:a.eval i=j at *
 split at he'
 . rename_i n hxi hn
   obtain ⟨k,hk⟩:=nat0_some hn
   rw [hk] at hi
   cases hi
   generalize ev x f=u at *
   cases hx<;>first|(cases he';done)|skip
   rename_i s
   obtain ⟨m,h1,rfl,rfl⟩:=resByte_ok (show resByte (sget (bytesOf s) n) h=.ok v h' from he')
   rw [sget_eq,bytesOf_get] at h1
   cases hb:s[n]? with
   |none=>simp [hb] at h1
   |some b=>
    simp [hb] at h1
    subst h1
    refine ⟨.int .u8 b.toNat,w,.inl ?_,.quiet _ _ (.int .u8 _)⟩
    simp [execOp,hy,hj,Instr.index,asIntOf,underlying,xInfo_str hxi,hb]
 . rename_i len si n hxi hn
   obtain ⟨k,hk⟩:=nat0_some hn
   rw [hk] at hi
   cases hi
   split at he'
   . rename_i cs hva
     rw [vA_yes hva] at hx
     cases hx
     rename_i cs' hl hh
     obtain ⟨inf,k1,k2,k3,k4⟩:=xInfo_arr hxi
     rcases Be he' with ⟨hb,he3⟩|⟨_,he3⟩
     . obtain ⟨hp,rfl⟩:=res1_ok he3
       obtain ⟨v',hr,hv⟩:=run_part (P:=P) (σ:=σ) hp (cs':=cs') ⟨hl,hh⟩ w
       have hlt:=Ee hb
       refine ⟨v',w,.inl ?_,.quiet _ _ hv⟩
       simp [execOp,hy,hj,Instr.index,asIntOf,underlying,k1,hlt,sizeOf,typeInfo,k2,k3,hr]
     . exact (bad_ne he3).elim
   . exact (bad_ne he').elim
 . exact (bad_ne he').elim
theorem zeroVal_rel {t:TypeId} {z:AV} (σ:Dj) (h:zeroVal P t=some z):∃ i z',P.info? t=some i/\i.zero=some z'/\Aq σ z z':=by
 unfold zeroVal at h
 cases hi:P.info? t with
 |none=>simp [hi] at h
 |some i=>
  cases hz:i.zero with
  |none=>simp [hi,hz] at h
  |some z'=>
   simp [hi,hz] at h
   subst h
   exact ⟨i,z',rfl,hz,absN_rel σ 5 z'⟩
theorem tup2 {x y:AV} {x' y':Value} (h:Aq σ x x') (h':Aq σ y y'):Aq σ (.Bl [x,y]) (.tuple #[x',y']):=by
 have:=Bd.cons h (Bd.cons h' (Bd.nil σ))
 exact .Bl _ _ this.1 this.2
theorem taInfo_some {t:TypeId} {z:AV} (h:taInfo P t=some z):∃ d,P.underlying t=some d/\(∀ m,d≠.interface m)/\zeroVal P t=some z:=by
 unfold taInfo at h
 cases hu:P.underlying t with
 |none=>rw [hu] at h;cases h
 |some d=>
  rw [hu] at h
  cases d<;>first|(cases h;done)|exact ⟨_,rfl,fun _=>by simp,h⟩
theorem good_typeAssert (x:Operand) (xt t:TypeId) (ok:Bool):Good1 P G ⟨dst,.typeAssert x xt t ok,ty,pos,af,gd⟩:=by
 intro σ nt f a h h' w v ctx he C2 hf hg
 have hx:=Ce hf hg x (by simpa [Op.operands] using C2)
 have he':Gk x xt t ok ty P ctx f h=.ok v h':=he
 unfold Gk at he'
 generalize hy:a.eval x=y at *
 split at he'
 . rename_i z hz hv
   rw [vIf_nil hv] at hx
   cases hx
   obtain ⟨d,hu,hd,hz⟩:=taInfo_some hz
   obtain ⟨i,z',hi,hzz,hr⟩:=zeroVal_rel σ hz
   cases ok
   . exact (bad_ne he').elim
   . obtain ⟨rfl,rfl⟩:=By he'
     refine ⟨_,w,.inl ?_,.quiet _ _ (tup2 hr (.bool false))⟩
     cases d<;>first|(exact absurd rfl (hd _))|simp [execOp,hy,Instr.typeAssert,underlying,hu,zeroValue,typeInfo,hi,hzz]
 . rename_i z u vv hz hv
   rw [vIf_yes hv] at hx
   cases hx
   rename_i v0 hvv
   obtain ⟨d,hu,hd,hz⟩:=taInfo_some hz
   obtain ⟨i,z',hi,hzz,hr⟩:=zeroVal_rel σ hz
   rcases Be he' with ⟨hb,he3⟩|⟨hb,he3⟩
   . obtain ⟨rfl,rfl⟩:=By he3
     have:=Cf hb
     subst this
     cases ok
     . refine ⟨v0,w,.inl ?_,.quiet _ _ hvv⟩
       cases d<;>first|(exact absurd rfl (hd _))|simp [execOp,hy,Instr.typeAssert,underlying,hu]
     . refine ⟨_,w,.inl ?_,.quiet _ _ (tup2 hvv (.bool true))⟩
       cases d<;>first|(exact absurd rfl (hd _))|simp [execOp,hy,Instr.typeAssert,underlying,hu]
   . have hne:=beq_neN hb
     cases ok
     . exact (bad_ne he3).elim
     . obtain ⟨rfl,rfl⟩:=By he3
       refine ⟨_,w,.inl ?_,.quiet _ _ (tup2 hr (.bool false))⟩
       cases d<;>first|(exact absurd rfl (hd _))|simp [execOp,hy,Instr.typeAssert,underlying,hu,zeroValue,typeInfo,hi,hzz,hne]
 . exact (bad_ne he').elim
theorem good_unOp (op:UnOp) (t:TypeId) (x:Operand):Good1 P G ⟨dst,.unOp op t x,ty,pos,af,gd⟩:=by
 intro σ nt f a h h' w v ctx he C2 hf hg
 have hx:=Ce hf hg x (by simpa [Op.operands] using C2)
 have he':oUnOp op t x ty P ctx f h=.ok v h':=he
 unfold oUnOp at he'
 generalize hy:a.eval x=y at *
 cases op with
 |not=>
  dsimp only at he'
  cases hv:vB (ev x f) with
  |no=>rw [hv] at he';cases he'
  |yes b=>
   rw [hv] at he'
   rw [vB_yes hv] at hx
   cases hx
   obtain ⟨rfl,rfl⟩:=By he'
   refine ⟨.bool (!b),w,.inl (by simp [execOp,hy,Op.unary]),.quiet _ _ ?_⟩
   rw [bnot_eq];exact .bool _
 |neg=>
  dsimp only at he'
  cases hv:vI (ev x f) with
  |no=>rw [hv] at he';cases he'
  |yes k n=>
   rw [hv] at he'
   rw [vI_yes hv] at hx
   cases hx
   obtain ⟨rfl,rfl⟩:=By he'
   refine ⟨.int k (k.wrap (0 - n)),w,.inl (by simp [execOp,hy,Op.unary,Op.intArith]),.quiet _ _ ?_⟩
   rw [wrapF_eq];exact .int _ _
 |_=>cases he'
end ops
end Go.Ev
namespace Go.Ev
variable [Lim]
variable {P:Program} {G:Nat} {σ:Dj} {h h':H} {w:World} {v:AV}
section ops
variable {dst:Option Tmp} {ty:TypeId} {pos:String} {af:Array Edge} {gd:Option (Nat × Bool)}
theorem toNat_inj {a b:UInt8}:a.toNat=b.toNat ↔ a=b:=UInt8.toNat_inj
theorem map_beq (l m:List UInt8):(l.map UInt8.toNat == m.map UInt8.toNat)=(l == m):=by
 rw [Bool.eq_iff_iff]
 simp only [beq_iff_eq]
 constructor
 . intro e
   induction l generalizing m with
   |nil=>cases m with
    |nil=>rfl
    |cons b m=>simp at e
   |cons a l ih=>cases m with
    |nil=>simp at e
    |cons b m=>
     simp only [List.map_cons,List.cons.injEq] at e
     rw [toNat_inj.1 e.1,ih m e.2]
 . rintro rfl;rfl
theorem strLt_cons (x y:Nat) (a b:List Nat):F9 (x::a) (y::b)=(decide (x<y)||(x == y&&F9 a b)):=by
 have:F9 (x::a) (y::b)=Bool.rec (motive:=fun _=>Bool) (Bool.rec (motive:=fun _=>Bool) false (F9 a b) (Nat.beq x y)) true (Nat.blt x y):=rfl
 rw [this]
 have e1:Nat.blt x y=decide (x<y):=by rw [Bool.eq_iff_iff];simp [Nat.blt_eq]
 have e2:Nat.beq x y=(x == y):=by rw [Bool.eq_iff_iff];simp
 rw [e1,e2]
 cases decide (x<y)<;>cases (x == y)<;>rfl
theorem strLt_bytes:∀ l m:List UInt8,F9 (l.map UInt8.toNat) (m.map UInt8.toNat)=Op.bytesLess l m
 |[],[]=>rfl
 |[],_::_=>rfl
 |_::_,[]=>rfl
 |a::l,b::m=>by
  simp only [List.map_cons,strLt_cons,Op.bytesLess,strLt_bytes l m]
  congr 1
  congr 1
  rw [Bool.eq_iff_iff]
  simp only [beq_iff_eq]
  exact toNat_inj
theorem strLt_total:∀ l m:List Nat,(!F9 m l)=(F9 l m||l == m)
 |[],[]=>rfl
 |[],_::_=>rfl
 |_::_,[]=>rfl
 |x::l,y::m=>by
  rw [strLt_cons,strLt_cons,List.cons_beq_cons]
  have ih:=strLt_total l m
  rcases Nat.lt_trichotomy x y with h|h|h
  . have h1:¬ y<x:=by omega
    have h2:(y == x)=false:=by simp;omega
    simp [h,h1,h2]
  . subst h
    simp only [Nat.lt_irrefl,decide_false,beq_self_eq_true,Bool.true_and,Bool.false_or]
    exact ih
  . have h1:¬ x<y:=by omega
    have h2:(x == y)=false:=by simp;omega
    simp [h,h1,h2]
theorem strEq_b (a b:ByteArray):strEq (bytesOf a) (bytesOf b)=(a.toList == b.toList):=by
 rw [strEq_eq,ByteArray.toList_eq,ByteArray.toList_eq]
 exact map_beq _ _
theorem strLt_b (a b:ByteArray):F9 (bytesOf a) (bytesOf b)=Op.bytesLess a.toList b.toList:=by
 rw [ByteArray.toList_eq,ByteArray.toList_eq]
 exact strLt_bytes _ _
theorem bytesOf_append (a b:ByteArray):bytesOf (a++b)=bytesOf a++bytesOf b:=by
 unfold bytesOf
 simp [ByteArray.data_append]
theorem eqGuard_ints (op:BinOp) (t:TypeId) (x y:Operand) (k k':IntKind) (m n:Int) (w:World):(eqGuard op t x y (.int k m) (.int k' n)).run P w=.ok () w:=by
 unfold eqGuard
 split<;>rfl
theorem eqGuard_strs (op:BinOp) (t:TypeId) (x y:Operand) (m n:ByteArray) (w:World):(eqGuard op t x y (.string m) (.string n)).run P w=.ok () w:=by
 unfold eqGuard
 split<;>rfl
theorem not_lt_dec (a b:Int):(!decide (a<b))=decide (b<=a):=by rw [<- decide_not];congr 1;rw [Int.not_lt]
theorem iAr_ok {g:Int->Int->Int} {k k':IntKind} {m n:Int} (he:iAr g k m k' n h=.ok v h'):k=k'/\v=.int k (k.wrap (g m n))/\h'=h:=by
 rcases Be he with ⟨hk,he⟩|⟨_,he⟩
 . obtain ⟨rfl,rfl⟩:=By he
   exact ⟨(kEq_eq k k').1 hk,by rw [wrapF_eq],rfl⟩
 . cases he
theorem iCmp_ok {g:Int->Int->Bool} {k k':IntKind} {m n:Int} (he:iCmp g k m k' n h=.ok v h'):k=k'/\v=.bool (g m n)/\h'=h:=by
 rcases Be he with ⟨hk,he⟩|⟨_,he⟩
 . obtain ⟨rfl,rfl⟩:=By he
   exact ⟨(kEq_eq k k').1 hk,rfl,rfl⟩
 . cases he
theorem iQuo_ok {k k':IntKind} {m n:Int} (he:iQuo k m k' n h=.ok v h'):k=k'/\n≠0/\v=.int k (k.wrap (m.tdiv n))/\h'=h:=by
 rcases Be he with ⟨hk,he⟩|⟨_,he⟩
 . rcases Be he with ⟨_,he⟩|⟨hz,he⟩
   . cases he
   . obtain ⟨rfl,rfl⟩:=By he
     rw [ieq_eq] at hz
     exact ⟨(kEq_eq k k').1 hk,by simpa using hz,by rw [wrapF_eq],rfl⟩
 . cases he
theorem iRem_ok {k k':IntKind} {m n:Int} (he:iRem k m k' n h=.ok v h'):k=k'/\n≠0/\v=.int k (m.tmod n)/\h'=h:=by
 rcases Be he with ⟨hk,he⟩|⟨_,he⟩
 . rcases Be he with ⟨_,he⟩|⟨hz,he⟩
   . cases he
   . obtain ⟨rfl,rfl⟩:=By he
     rw [ieq_eq] at hz
     exact ⟨(kEq_eq k k').1 hk,by simpa using hz,rfl,rfl⟩
 . cases he
theorem iBit_ok {g:Nat->Nat->Nat} {k k':IntKind} {m n:Int} (he:iBit g k m k' n h=.ok v h'):
 ∃ a b:Nat,k=k'/\m=a/\n=b/\(a:Int)<=k.max/\(b:Int)<=k.max/\v=.int k (g a b:Nat)/\h'=h:=by
 unfold iBit at he
 split at he
 . rename_i a b ha hb
   rcases Be he with ⟨hk,he⟩|⟨_,he⟩
   . rcases Be he with ⟨h1,he⟩|⟨_,he⟩
     . rcases Be he with ⟨h2,he⟩|⟨_,he⟩
       . obtain ⟨rfl,rfl⟩:=By he
         have e1:=natI_some ha
         have e2:=natI_some hb
         subst e1
         subst e2
         exact ⟨a,b,(kEq_eq k k').1 hk,rfl,rfl,(fits_spec h1).2,(fits_spec h2).2,rfl,rfl⟩
       . cases he
     . cases he
   . cases he
 . cases he
theorem max_lt (k:IntKind) (a:Nat) (h:(a:Int)<=k.max):a<2 ^ k.bits:=by
 cases k<;>simp [IntKind.max,IntKind.bits,IntKind.signed] at *<;>omega
theorem ofInt_toNat (k:IntKind) (a:Nat) (h:(a:Int)<=k.max):(BitVec.ofInt k.bits a).toNat=a:=by
 have:=max_lt k a h
 simp
 exact Nat.mod_eq_of_lt this
theorem wrap_nat (k:IntKind) (a:Nat) (h:(a:Int)<=k.max):k.wrap a=a:=by
 apply wrap_in
 refine ⟨?_,h⟩
 cases k<;>simp [IntKind.min,IntKind.bits,IntKind.signed]<;>omega
theorem pow_max (k:IntKind) (a:Nat) (h:(a:Int)<=k.max):a<2 ^ (if k.signed then k.bits - 1 else k.bits):=by
 cases k<;>simp [IntKind.max,IntKind.bits,IntKind.signed] at *<;>omega
theorem max_pow (k:IntKind) (a:Nat) (h:a<2 ^ (if k.signed then k.bits - 1 else k.bits)):(a:Int)<=k.max:=by
 cases k<;>simp [IntKind.max,IntKind.bits,IntKind.signed] at *<;>omega
theorem run_binII (op:BinOp) (t:TypeId) (k k':IntKind) (m n:Int) (w:World) (he:iTab op k m k' n h=.ok v h'):
 ∃ v',(binOp op t (.int k m) (.int k' n)).run P w=.ok v' w/\Aq σ v v'/\h'=h:=by
 cases op with
 |add=>obtain ⟨rfl,rfl,rfl⟩:=iAr_ok he;exact ⟨.int k (k.wrap (m+n)),by simp [binOp,Op.intArith],.int _ _,rfl⟩
 |sub=>obtain ⟨rfl,rfl,rfl⟩:=iAr_ok he;exact ⟨.int k (k.wrap (m - n)),by simp [binOp,Op.intArith],.int _ _,rfl⟩
 |mul=>obtain ⟨rfl,rfl,rfl⟩:=iAr_ok he;exact ⟨.int k (k.wrap (m * n)),by simp [binOp,Op.intArith],.int _ _,rfl⟩
 |quo=>obtain ⟨rfl,hz,rfl,rfl⟩:=iQuo_ok he;exact ⟨.int k (k.wrap (m.tdiv n)),by simp [binOp,Op.intDiv,hz],.int _ _,rfl⟩
 |rem=>obtain ⟨rfl,hz,rfl,rfl⟩:=iRem_ok he;exact ⟨.int k (m.tmod n),by simp [binOp,Op.intDiv,hz],.int _ _,rfl⟩
 |eql=>obtain ⟨rfl,rfl,rfl⟩:=iCmp_ok he;exact ⟨.bool (m == n),by simp [binOp,Op.intCmp],by rw [ieq_eq];exact .bool _,rfl⟩
 |neq=>obtain ⟨rfl,rfl,rfl⟩:=iCmp_ok (g:=fun a b=>bnot (ieq a b)) he;exact ⟨.bool (m != n),by simp [binOp,Op.intCmp],by rw [bnot_eq,ieq_eq];exact .bool _,rfl⟩
 |lss=>obtain ⟨rfl,rfl,rfl⟩:=iCmp_ok he;exact ⟨.bool (decide (m<n)),by simp [binOp,Op.intCmp],by rw [ilt_eq];exact .bool _,rfl⟩
 |leq=>obtain ⟨rfl,rfl,rfl⟩:=iCmp_ok (g:=fun a b=>bnot (ilt b a)) he;exact ⟨.bool (decide (m<=n)),by simp [binOp,Op.intCmp],by rw [bnot_eq,ilt_eq,not_lt_dec];exact .bool _,rfl⟩
 |gtr=>obtain ⟨rfl,rfl,rfl⟩:=iCmp_ok (g:=fun a b=>ilt b a) he;exact ⟨.bool (decide (m > n)),by simp [binOp,Op.intCmp],by rw [ilt_eq];exact .bool _,rfl⟩
 |geq=>obtain ⟨rfl,rfl,rfl⟩:=iCmp_ok (g:=fun a b=>bnot (ilt a b)) he;exact ⟨.bool (decide (m ≥ n)),by simp [binOp,Op.intCmp],by rw [bnot_eq,ilt_eq,not_lt_dec];exact .bool _,rfl⟩
 |andNot=>cases he
 |and=>
  obtain ⟨a,b,rfl,rfl,rfl,ha,hb,rfl,rfl⟩:=iBit_ok he
  refine ⟨.int k (a &&& b:Nat),?_,.int _ _,rfl⟩
  have hle:((a &&& b:Nat):Int)<=k.max:=max_pow k _ (Nat.and_lt_two_pow _ (pow_max k b hb))
  have e:=wrap_nat k _ hle
  simp only [binOp,Op.intBits,ne_eq,not_true_eq_false,if_false,BitVec.toNat_and,ofInt_toNat k a ha,ofInt_toNat k b hb,e]
  rfl
 |or=>
  obtain ⟨a,b,rfl,rfl,rfl,ha,hb,rfl,rfl⟩:=iBit_ok he
  refine ⟨.int k (a ||| b:Nat),?_,.int _ _,rfl⟩
  have hle:((a ||| b:Nat):Int)<=k.max:=max_pow k _ (Nat.or_lt_two_pow (pow_max k a ha) (pow_max k b hb))
  have e:=wrap_nat k _ hle
  simp only [binOp,Op.intBits,ne_eq,not_true_eq_false,if_false,BitVec.toNat_or,ofInt_toNat k a ha,ofInt_toNat k b hb,e]
  rfl
 |xor=>
  obtain ⟨a,b,rfl,rfl,rfl,ha,hb,rfl,rfl⟩:=iBit_ok he
  refine ⟨.int k (a ^^^ b:Nat),?_,.int _ _,rfl⟩
  have hle:((a ^^^ b:Nat):Int)<=k.max:=max_pow k _ (Nat.xor_lt_two_pow (pow_max k a ha) (pow_max k b hb))
  have e:=wrap_nat k _ hle
  simp only [binOp,Op.intBits,ne_eq,not_true_eq_false,if_false,BitVec.toNat_xor,ofInt_toNat k a ha,ofInt_toNat k b hb,e]
  rfl
 |shl=>
  have he':iShl k m k' n h=.ok v h':=he
  unfold iShl at he'
  split at he'
  . rename_i b hb
    obtain ⟨rfl,rfl⟩:=By he'
    have e:=natI_some hb
    subst e
    refine ⟨.int k (k.wrap (m * 2 ^ (min b k.bits))),?_,?_,rfl⟩
    . simp [binOp,Op.shift]
      intro hlt
      omega
    . rw [wrapF_eq]
      have:Int.mul m (.ofNat (Nat.pow 2 (Nat.min b k.bits)))=m * 2 ^ (min b k.bits):=by
       show m * ((2 ^ (min b k.bits):Nat):Int)=_
       simp
      rw [this]
      exact .int _ _
  . cases he'
 |shr=>
  have he':iShr k m k' n h=.ok v h':=he
  unfold iShr at he'
  split at he'
  . rename_i a b ha hb
    obtain ⟨rfl,rfl⟩:=By he'
    have e:=natI_some ha
    subst e
    have e:=natI_some hb
    subst e
    refine ⟨.int k ((a:Int).fdiv (2 ^ (min b k.bits))),?_,?_,rfl⟩
    . simp [binOp,Op.shift]
      intro hlt
      omega
    . have:(Int.ofNat (Nat.div a (Nat.pow 2 (Nat.min b k.bits))))=(a:Int).fdiv (2 ^ (min b k.bits)):=by
       show ((a / 2 ^ (min b k.bits):Nat):Int)=_
       rw [Int.fdiv_eq_ediv_of_nonneg _ (by exact_mod_cast Nat.zero_le _)]
       simp
      rw [this]
      exact .int _ _
  . cases he'
theorem run_binSS (op:BinOp) (t:TypeId) (m n:ByteArray) (w:World) (he:sTab op (bytesOf m) (bytesOf n) h=.ok v h'):
 ∃ v',(binOp op t (.string m) (.string n)).run P w=.ok v' w/\Aq σ v v'/\h'=h:=by
 cases op with
 |add=>
  rcases Be he with ⟨hs,he⟩|⟨_,he⟩
  . obtain ⟨rfl,rfl⟩:=By he
    have hlt:=Ee hs
    simp only [slen_eq,Fl] at hlt
    refine ⟨.string (m++n),?_,?_,rfl⟩
    . have hn:¬ (((m.size+n.size:Nat):Int) > IntKind.i64.max):=by
       have:IntKind.i64.max=9223372036854775807:=by decide
       rw [this]
       have:Nat.add m.size n.size=m.size+n.size:=rfl
       omega
      have:binOp .add t (.string m) (.string n)=Op.stringOp .add m n:=by simp [binOp]
      rw [this]
      simp only [Op.stringOp,if_neg hn]
      rfl
    . rw [sapp_eq,<- bytesOf_append];exact .str _
  . cases he
 |eql=>cases he;exact ⟨.bool (m.toList == n.toList),by simp [binOp,Op.stringOp],by rw [strEq_b];exact .bool _,rfl⟩
 |neq=>cases he;exact ⟨.bool (!(m.toList == n.toList)),by simp [binOp,Op.stringOp],by simp only [bnot_eq,strEq_b];exact .bool _,rfl⟩
 |lss=>cases he;exact ⟨.bool (Op.bytesLess m.toList n.toList),by simp [binOp,Op.stringOp],by rw [strLt_b];exact .bool _,rfl⟩
 |leq=>cases he;exact ⟨.bool (Op.bytesLess m.toList n.toList||m.toList == n.toList),by simp [binOp,Op.stringOp],by simp only [bnot_eq,strLt_total];rw [strLt_b,<- strEq_eq,strEq_b];exact .bool _,rfl⟩
 |gtr=>cases he;exact ⟨.bool (!(Op.bytesLess m.toList n.toList||m.toList == n.toList)),by simp [binOp,Op.stringOp],by
  have:=strLt_total (bytesOf m) (bytesOf n)
  rw [strLt_b m n,<- strEq_eq,strEq_b] at this
  rw [<- this,Bool.not_not];exact .bool _,rfl⟩
 |geq=>cases he;exact ⟨.bool (!Op.bytesLess m.toList n.toList),by simp [binOp,Op.stringOp],by simp only [bnot_eq,strLt_b];exact .bool _,rfl⟩
 |_=>cases he
def TKsays (P:Program) (t:TypeId):TK->Prop
 |.bad=>True
 |.bool=>P.underlying t=some .bool
 |.int=>∃ i,P.underlying t=some (.int i)
 |.string=>P.underlying t=some .string
 |.ptr=>∃ e inf,P.underlying t=some (.pointer e)/\P.info? e=some inf/\inf.size≠0
 |.iface=>∃ m,P.underlying t=some (.interface m)
 |.struct fs=>∃ l,P.underlying t=some (.struct l)/\P.stoodInHeld t=false/\fs=((l.toList.filter fun f=>f.name != "_").map fun f=>(f.type,f.offset))
 |.array n e s=>∃ inf,P.underlying t=some (.array n e)/\P.info? e=some inf/\inf.size=s
 |.slice=>∃ e,P.underlying t=some (.slice e)
 |.map=>∃ x e,P.underlying t=some (.map x e)
 |.func=>∃ x y z,P.underlying t=some (.func x y z)
theorem tk_says (P:Program) (t:TypeId):TKsays P t (tk P t):=by
 unfold tk
 cases hu:P.underlying t with
 |none=>trivial
 |some d=>
  cases d with
  |pointer e=>
   dsimp only
   cases hs:Fx P e with
   |none=>trivial
   |some n=>
    obtain ⟨inf,h1,h2⟩:=Fs hs
    cases n with
    |zero=>trivial
    |succ n=>exact ⟨e,inf,hu,h1,by omega⟩
  |struct l=>
   dsimp only
   cases hs:P.stoodInHeld t
   . simp only [Bool.false_eq_true,if_false];exact ⟨l,hu,hs,rfl⟩
   . simp only [if_true];trivial
  |array n e=>
   dsimp only
   cases hs:Fx P e with
   |none=>trivial
   |some s=>
    obtain ⟨inf,h1,h2⟩:=Fs hs
    exact ⟨inf,hu,h1,h2⟩
  |bool=>exact hu
  |int i=>exact ⟨i,hu⟩
  |string=>exact hu
  |interface m=>exact ⟨m,hu⟩
  |slice e=>exact ⟨e,hu⟩
  |map x e=>exact ⟨x,e,hu⟩
  |func x y z=>exact ⟨x,y,z,hu⟩
  |_=>trivial
def EqSound (P:Program) (σ:Dj) (d:Nat) (eq:EqT):Prop:=
 ∀ t x y b x' y',eq t x y=some b->Aq σ x x'->Aq σ y y'->∀ (D:Nat) (w:World),d<=D->(Op.equalIn D t x' y').run P w=.ok b w
theorem aeqF_sound {d:Nat} {eq:EqT} (hs:EqSound P σ d eq) (D:Nat) (hD:d<=D) (xs ys:List AV) (xs' ys':Array Value) (hx:Bd σ xs xs'.toList) (hy:Bd σ ys ys'.toList) (w:World):
 ∀ (fs:List Field) (b:Bool),aeqF P eq ((fs.filter fun f=>f.name != "_").map fun f=>(f.type,f.offset)) xs ys=some b->(Op.eqFields D xs' ys' fs).run P w=.ok b w:=by
 intro fs
 induction fs with
 |nil=>intro b hb;cases hb;rfl
 |cons f fs ih=>
  intro b hb
  by_cases hn:f.name = "_"
  . have:(f.name != "_")=false:=by simp [hn]
    rw [List.filter_cons_of_neg (by simp [hn])] at hb
    simp only [Op.eqFields,hn,ne_eq,not_true_eq_false,if_false]
    exact ih b hb
  . rw [List.filter_cons_of_pos (by simp [hn])] at hb
    simp only [List.map_cons,aeqF] at hb
    split at hb
    . rename_i u v hu hv
      obtain ⟨u',hu',ru⟩:=run_part (P:=P) (σ:=σ) hu (cs':=xs') hx w
      obtain ⟨v',hv',rv⟩:=run_part (P:=P) (σ:=σ) hv (cs':=ys') hy w
      split at hb
      . rename_i he
        have:=hs _ _ _ _ _ _ he ru rv D w hD
        simp only [Op.eqFields,ne_eq,hn,not_false_eq_true,if_true,Sem.run_bind,hu',hv',this,Result.andThen_ok,Bool.not_true,Bool.false_eq_true,if_false]
        exact ih b hb
      . rename_i he
        cases hb
        have:=hs _ _ _ _ _ _ he ru rv D w hD
        simp [Op.eqFields,hn,hu',hv',this]
      . cases hb
    . cases hb
theorem aeqA_sound {d:Nat} {eq:EqT} (hs:EqSound P σ d eq) (D:Nat) (hD:d<=D) (e:TypeId) (s:Nat) (xs ys:List AV) (xs' ys':Array Value) (hx:Bd σ xs xs'.toList) (hy:Bd σ ys ys'.toList) (w:World):
 ∀ (n i:Nat) (b:Bool),aeqA P eq e s n i xs ys=some b->(Op.eqItems D e s xs' ys' (List.range' i n)).run P w=.ok b w:=by
 intro n
 induction n with
 |zero=>intro i b hb;cases hb;simp [Op.eqItems]
 |succ n ih=>
  intro i b hb
  simp only [aeqA] at hb
  split at hb
  . rename_i u v hu hv
    obtain ⟨u',hu',ru⟩:=run_part (P:=P) (σ:=σ) hu (cs':=xs') hx w
    obtain ⟨v',hv',rv⟩:=run_part (P:=P) (σ:=σ) hv (cs':=ys') hy w
    split at hb
    . rename_i he
      have:=hs _ _ _ _ _ _ he ru rv D w hD
      simp only [List.range'_succ,Op.eqItems,Sem.run_bind,hu',hv',this,Result.andThen_ok,Bool.not_true,Bool.false_eq_true,if_false]
      exact ih (i+1) b hb
    . rename_i he
      cases hb
      have:=hs _ _ _ _ _ _ he ru rv D w hD
      simp [List.range'_succ,Op.eqItems,hu',hv',this]
    . cases hb
  . cases hb
theorem addr_beq (c o o':Nat):((⟨c,o,none⟩:Addr) == ⟨c,o',none⟩)=(o == o'):=by
 rw [Bool.eq_iff_iff]
 simp [Addr.mk.injEq]
set_option maxHeartbeats 2000000 in
theorem aeq_sound (P:Program) (σ:Dj):∀ d,EqSound P σ d (aeq P d):=by
 intro d
 induction d with
 |zero=>intro t x y b x' y' h;cases h
 |succ d ih=>
  intro t x y b x' y' he hx hy D w hD
  obtain ⟨D,rfl⟩:∃ k,D=k+1:=⟨D - 1,by omega⟩
  have he':Dm P (aeq P d) t x y=some b:=he
  unfold Dm at he'
  have hk:=tk_says P t
  split at he'<;>rename_i hc<;>rw [hc] at hk
  . cases he'
  . split at he'
    . rename_i a1 b1 h1 h2
      rw [vB_yes h1] at hx;rw [vB_yes h2] at hy
      cases hx;cases hy;cases he'
      have hu:P.underlying t=some .bool:=hk
      exact run_equalIn_bool w D t _ _ hu
    . cases he'
  . obtain ⟨i,hu⟩:=hk
    split at he'
    . rename_i k a1 k' b1 h1 h2
      rw [vI_yes h1] at hx;rw [vI_yes h2] at hy
      cases hx;cases hy
      cases hq:kEq k k' with
      |false=>rw [hq] at he';cases he'
      |true=>
       rw [hq] at he';cases he'
       have:=(kEq_eq k k').1 hq
       subst this
       rw [ieq_eq]
       exact run_equalIn_int w D t k i _ _ hu
    . cases he'
  . split at he'
    . rename_i a1 b1 h1 h2
      rw [vS_yes h1] at hx;rw [vS_yes h2] at hy
      cases hx;cases hy;cases he'
      rw [strEq_b]
      exact run_equalIn_string w D t _ _ hk
    . cases he'
  . obtain ⟨e,inf,hu,hi,hs⟩:=hk
    split at he'
    . rename_i h1 h2
      rw [vP_nil h1] at hx;rw [vP_nil h2] at hy
      cases hx;cases hy;cases he'
      simp [Op.equalIn,run_underlying hu]
    . rename_i b0 o0 h1 h2
      rw [vP_nil h1] at hx;rw [vP_yes h2] at hy
      cases hx;cases hy;cases he'
      simp [Op.equalIn,run_underlying hu]
    . rename_i b0 o0 h1 h2
      rw [vP_yes h1] at hx;rw [vP_nil h2] at hy
      cases hx;cases hy;cases he'
      simp [Op.equalIn,run_underlying hu]
    . rename_i b0 o0 b1 o1 h1 h2
      rw [vP_yes h1] at hx;rw [vP_yes h2] at hy
      cases hx;cases hy
      rename_i e0 s0 e1 s1
      cases hq:Nat.beq b0 b1 with
      |false=>rw [hq] at he';cases he'
      |true=>
       rw [hq] at he';cases he'
       have:=Cf hq
       subst this
       rw [s0] at s1
       cases s1
       have e2:Nat.beq o0 o1=(o0 == o1):=by rw [Bool.eq_iff_iff];simp
       rw [e2]
       simp [Op.equalIn,run_underlying hu,sizeOf,typeInfo,hi,hs,sameAddr,addr_beq]
    . cases he'
  . obtain ⟨m,hu⟩:=hk
    split at he'
    . rename_i h1 h2
      rw [vIf_nil h1] at hx;rw [vIf_nil h2] at hy
      cases hx;cases hy;cases he'
      simp [Op.equalIn,run_underlying hu]
    . rename_i t0 v0 h1 h2
      rw [vIf_nil h1] at hx;rw [vIf_yes h2] at hy
      cases hx;cases hy;cases he'
      simp [Op.equalIn,run_underlying hu]
    . rename_i t0 v0 h1 h2
      rw [vIf_yes h1] at hx;rw [vIf_nil h2] at hy
      cases hx;cases hy;cases he'
      simp [Op.equalIn,run_underlying hu]
    . rename_i t0 v0 t1 v1 h1 h2
      rw [vIf_yes h1] at hx;rw [vIf_yes h2] at hy
      cases hx;cases hy
      rename_i u0 r0 u1 r1
      cases hq:Nat.beq t0 t1 with
      |false=>
       rw [hq] at he';cases he'
       have hne:=beq_neN hq
       simp [Op.equalIn,run_underlying hu,hne]
      |true=>
       rw [hq] at he'
       have:=Cf hq
       subst this
       cases hcmp:(P.info? t0).any (·.comparable) with
       |false=>simp only [hcmp] at he';cases he'
       |true=>
        simp only [hcmp] at he'
        have he2:aeq P d t0 v0 v1=some b:=he'
        cases hi:P.info? t0 with
        |none=>simp [hi] at hcmp
        |some inf=>
         simp [hi] at hcmp
         have:=ih t0 v0 v1 b _ _ he2 r0 r1 D w (by omega)
         simp [Op.equalIn,run_underlying hu,typeInfo,hi,hcmp,this]
    . cases he'
  . rename_i fs
    obtain ⟨l,hu,hs,rfl⟩:=hk
    split at he'
    . rename_i a1 b1 h1 h2
      rw [vA_yes h1] at hx;rw [vA_yes h2] at hy
      cases hx;cases hy
      rename_i c1 l1 r1 c2 l2 r2
      have hfo:P.fieldsOf t=l:=by simp [Program.fieldsOf,hu]
      rw [run_equalIn_struct w D t c1 c2 (by rw [hfo];exact hu) hs,hfo]
      exact aeqF_sound ih D (by omega) a1 b1 c1 c2 ⟨l1,r1⟩ ⟨l2,r2⟩ w l.toList b he'
    . cases he'
  . rename_i n e s
    obtain ⟨inf,hu,hi,hs⟩:=hk
    split at he'
    . rename_i a1 b1 h1 h2
      rw [vA_yes h1] at hx;rw [vA_yes h2] at hy
      cases hx;cases hy
      rename_i c1 l1 r1 c2 l2 r2
      rw [run_equalIn_array w D c1 c2 hu hi]
      have hc:P.cellsOf e=s:=by simp [Program.cellsOf,hi,hs]
      rw [hc,List.range_eq_range']
      exact aeqA_sound ih D (by omega) e s a1 b1 c1 c2 ⟨l1,r1⟩ ⟨l2,r2⟩ w n 0 b he'
    . cases he'
  . obtain ⟨e,hu⟩:=hk
    split at he'
    . rename_i h1 h2
      rw [vL_nil h1] at hx;rw [vL_nil h2] at hy
      cases hx;cases hy;cases he'
      simp [Op.equalIn,run_underlying hu]
    . rename_i h1 h2
      rw [vL_nil h1] at hx;rw [vL_yes h2] at hy
      cases hx;cases he'
      cases hy<;>simp [Op.equalIn,run_underlying hu]
    . rename_i h1 h2
      rw [vL_yes h1] at hx;rw [vL_nil h2] at hy
      cases hy;cases he'
      cases hx<;>simp [Op.equalIn,run_underlying hu]
    . cases he'
  . obtain ⟨x0,e,hu⟩:=hk
    split at he'
    . rename_i h1 h2
      rw [vM_nil h1] at hx;rw [vM_nil h2] at hy
      cases hx;cases hy;cases he'
      simp [Op.equalIn,run_underlying hu]
    . rename_i h1 h2
      rw [vM_nil h1] at hx;rw [vM_yes h2] at hy
      cases hx;cases hy;cases he'
      simp [Op.equalIn,run_underlying hu]
    . rename_i h1 h2
      rw [vM_yes h1] at hx;rw [vM_nil h2] at hy
      cases hx;cases hy;cases he'
      simp [Op.equalIn,run_underlying hu]
    . cases he'
  . obtain ⟨x0,y0,z0,hu⟩:=hk
    split at he'
    . rename_i h1 h2
      have e1:x=.nfn:=by cases x<;>cases h1;rfl
      have e2:y=.nfn:=by cases y<;>cases h2;rfl
      subst e1;subst e2
      cases hx;cases hy;cases he'
      simp [Op.equalIn,run_underlying hu]
    . rename_i h1 h2
      have e1:x=.nfn:=by cases x<;>cases h1;rfl
      subst e1
      rw [vF_yes h2] at hy
      cases hx;cases he'
      cases hy<;>simp [Op.equalIn,run_underlying hu]
    . rename_i h1 h2
      have e1:y=.nfn:=by cases y<;>cases h2;rfl
      subst e1
      rw [vF_yes h1] at hx
      cases hy;cases he'
      cases hx<;>simp [Op.equalIn,run_underlying hu]
    . cases he'
theorem run_eqGuard_ok (neg:Bool) (t:TypeId) (x y:Operand) {u v:AV} {u' v':Value} (hu:Aq σ u u') (hv:Aq σ v v') (cst:Bool)
 (hc:cst=true->isConst x=true\/isConst y=true) (ha:eqAsk P t cst (eqCls u) (eqCls v)=true) (w:World):(eqGuard (if neg then .neq else .eql) t x y u' v').run P w=.ok () w:=by
 generalize (if neg then BinOp.neq else BinOp.eql)=op
 cases hu<;>cases hv<;>first
  |(exfalso;revert ha;simp [eqAsk,eqCls];done)
  |(cases op<;>rfl)
  |skip
 . have:cst=true:=by simpa [eqAsk,eqCls] using ha
   rcases hc this with h1|h1
   . cases x<;>first|(cases h1;done)|(cases op<;>simp [eqGuard])
   . cases y<;>first|(cases h1;done)|(cases op<;>simp [eqGuard])
 . have hg:eqGuardOk P t=true:=by simpa [eqAsk,eqCls] using ha
   unfold eqGuardOk at hg
   rw [bnot_eq] at hg
   exact run_eqGuard_agg w op t x y _ _ (by simpa using hg)
theorem binEq_ok {neg:Bool} {t:TypeId} {x y:AV} {cst:Bool} (he:binEq neg P t x y cst h=.ok v h'):
 eqAsk P t cst (eqCls x) (eqCls y)=true/\∃ b,aeq P 20 t x y=some b/\v=.bool (neg != b)/\h'=h:=by
 rcases Be he with ⟨hk,he⟩|⟨_,he⟩
 . cases hq:aeq P 20 t x y with
   |none=>rw [hq] at he;cases he
   |some b=>rw [hq] at he;cases he;exact ⟨hk,b,rfl,rfl,rfl⟩
 . cases he
theorem run_binOp_eq (t:TypeId) {u v:AV} {u' v':Value} (hu:Aq σ u u') (hv:Aq σ v v') (cst:Bool) (ha:eqAsk P t cst (eqCls u) (eqCls v)=true) (w:World) (b:Bool)
 (hb:(Op.equal t u' v').run P w=.ok b w):(binOp .eql t u' v').run P w=.ok (.bool b) w/\(binOp .neq t u' v').run P w=.ok (.bool (!b)) w:=by
 cases hu<;>cases hv<;>first
  |(exfalso;revert ha;simp [eqAsk,eqCls];done)
  |(constructor<;>simp [binOp,hb])
theorem binI2_ok {y:AV} {k:IntKind} {n:Int} {op:BinOp} (he:binI2 y k n op h=.ok v h'):∃ k' m,y=.int k' m/\iTab op k n k' m h=.ok v h':=by
 cases y<;>first|(cases he;done)|exact ⟨_,_,rfl,he⟩
theorem binS2_ok {y:AV} {s:List Nat} {op:BinOp} (he:binS2 y s op h=.ok v h'):∃ s',y=.str s'/\sTab op s s' h=.ok v h':=by
 cases y<;>first|(cases he;done)|exact ⟨_,rfl,he⟩
theorem good_binOp (op:BinOp) (t:TypeId) (x y:Operand) (yt:TypeId):Good1 P G ⟨dst,.binOp op t x y yt,ty,pos,af,gd⟩:=by
 intro σ nt f a h h' w v ctx he C2 hf hg
 simp [Op.operands] at C2
 have hx:=Ce hf hg x C2.1
 have hy:=Ce hf hg y C2.2
 have he':binD (ev x f) (ev x f) (ev y f) op t (Bool.rec (motive:=fun _=>Bool) (isConst y) true (isConst x)) P h=.ok v h':=he
 have hcst:(Bool.rec (motive:=fun _=>Bool) (isConst y) true (isConst x))=true->isConst x=true\/isConst y=true:=by
  intro hh
  cases hc:isConst x
  . rw [hc] at hh;exact .inr hh
  . exact .inl rfl
 generalize (Bool.rec (motive:=fun _=>Bool) (isConst y) true (isConst x):Bool)=cst at *
 generalize ev x f=u at *
 generalize ev y f=u2 at *
 have gen:binGen u u2 op t cst P h=.ok v h'->∃ v' w',Ran P (execOp a.eval ⟨dst,.binOp op t x y yt,ty,pos,af,gd⟩) w v' w'/\Eff1 σ h w v v' h' w':=by
  intro hb
  have hb':(op=.eql/\binEq false P t u u2 cst h=.ok v h')\/(op=.neq/\binEq true P t u u2 cst h=.ok v h'):=by
   cases op<;>first|(cases hb;done)|exact .inl ⟨rfl,hb⟩|exact .inr ⟨rfl,hb⟩
  rcases hb' with ⟨rfl,hb⟩|⟨rfl,hb⟩
  . obtain ⟨ha,b,hq,rfl,rfl⟩:=binEq_ok hb
    have h1:=run_eqGuard_ok (P:=P) false t x y hx hy cst hcst ha w
    have h2:=run_binOp_eq (P:=P) t hx hy cst ha w b (aeq_sound P σ 20 t u u2 b _ _ hq hx hy Op.maxDepth w (by decide))
    refine ⟨.bool b,w,.inl ?_,.quiet _ _ ?_⟩
    . simp only [Bool.false_eq_true,if_false] at h1
      simp [execOp,h1,h2.1]
    . cases b<;>exact .bool _
  . obtain ⟨ha,b,hq,rfl,rfl⟩:=binEq_ok hb
    have h1:=run_eqGuard_ok (P:=P) true t x y hx hy cst hcst ha w
    have h2:=run_binOp_eq (P:=P) t hx hy cst ha w b (aeq_sound P σ 20 t u u2 b _ _ hq hx hy Op.maxDepth w (by decide))
    refine ⟨.bool (!b),w,.inl ?_,.quiet _ _ ?_⟩
    . simp only [if_true] at h1
      simp [execOp,h1,h2.2]
    . cases b<;>exact .bool _
 cases u with
 |int k n=>
  obtain ⟨k',m,rfl,hi⟩:=binI2_ok (show binI2 u2 k n op h=.ok v h' from he')
  generalize hxx:a.eval x=xx at *
  generalize hyy:a.eval y=yy at *
  cases hx;cases hy
  obtain ⟨v',hr,hv,rfl⟩:=run_binII (P:=P) (σ:=σ) op t k k' n m w hi
  exact ⟨v',w,.inl (by simp [execOp,hxx,hyy,eqGuard_ints,hr]),.quiet _ _ hv⟩
 |str s=>
  obtain ⟨s',rfl,hi⟩:=binS2_ok (show binS2 u2 s op h=.ok v h' from he')
  generalize hxx:a.eval x=xx at *
  generalize hyy:a.eval y=yy at *
  cases hx;cases hy
  obtain ⟨v',hr,hv,rfl⟩:=run_binSS (P:=P) (σ:=σ) op t _ _ w hi
  exact ⟨v',w,.inl (by simp [execOp,hxx,hyy,eqGuard_strs,hr]),.quiet _ _ hv⟩
 |top=>cases he'
 |_=>exact gen he'
end ops
end Go.Ev
namespace Go.Ev
variable [Lim]
variable {P:Program} {G:Nat} {σ:Dj} {h h':H} {w:World} {v:AV} {nt:Nat} {f:L2} {a:Act}
section ops
variable {dst:Option Tmp} {ty:TypeId} {pos:String} {af:Array Edge} {gd:Option (Nat × Bool)}
theorem run_bound (hf:FRel σ nt f a) (hg:GOk G σ) {x:Operand} (hx:Ej G x=true) {n y:Nat} (hn:nat0 (ev x f)=some n) (hle:n<=y) (code:BoundsCode) (w:World):
 (Instr.sliceBound (a.eval x) y code).run P w=.ok n w:=by
 obtain ⟨k,hk⟩:=nat0_some hn
 have hr:=Ce hf hg x hx
 rw [hk] at hr
 generalize a.eval x=u at *
 cases hr
 simp [Instr.sliceBound,asIntOf,hle]
theorem run_bounds (hf:FRel σ nt f a) (hg:GOk G σ) {lo hi mx:Option Operand} (h1:∀ x,lo=some x->Ej G x=true) (h2:∀ x,hi=some x->Ej G x=true) (h3:∀ x,mx=some x->Ej G x=true)
 {l u m len cap:Nat} (hm:bnd f mx cap=some m) (hl:bnd f lo 0=some l) (hu:bnd f hi len=some u) (hlu:l<=u) (hum:u<=m) (hmc:m<=cap) (hmx:mx≠none->hi≠none) (is:Bool) (w:World):
 (Instr.sliceBounds is len cap (lo.map a.eval) (hi.map a.eval) (mx.map a.eval)).run P w=.ok (l,u,m) w:=by
 cases mx with
 |none=>
  have e:m=cap:=by cases hm;rfl
  subst e
  cases hi with
  |none=>
   have e:u=len:=by cases hu;rfl
   subst e
   cases lo with
   |none=>
    have e:l=0:=by cases hl;rfl
    subst e
    simp [Instr.sliceBounds]
   |some x=>simp [Instr.sliceBounds,run_bound hf hg (h1 x rfl) hl hlu]
  |some y=>
   have r2:=fun c w=>run_bound (P:=P) hf hg (h2 y rfl) hu hum c w
   cases lo with
   |none=>
    have e:l=0:=by cases hl;rfl
    subst e
    cases is<;>simp [Instr.sliceBounds,r2]
   |some x=>
    have r1:=fun c w=>run_bound (P:=P) hf hg (h1 x rfl) hl hlu c w
    cases is<;>simp [Instr.sliceBounds,r1,r2]
 |some z=>
  have r3:=fun c w=>run_bound (P:=P) hf hg (h3 z rfl) hm hmc c w
  cases hi with
  |none=>exact absurd rfl (hmx (by simp))
  |some y=>
   have r2:=fun c w=>run_bound (P:=P) hf hg (h2 y rfl) hu hum c w
   cases lo with
   |none=>
    have e:l=0:=by cases hl;rfl
    subst e
    cases is<;>simp [Instr.sliceBounds,r2,r3]
   |some x=>
    have r1:=fun c w=>run_bound (P:=P) hf hg (h1 x rfl) hl hlu c w
    cases is<;>simp [Instr.sliceBounds,r1,r2,r3]
theorem bytesOf_extract (s:ByteArray) (l u:Nat):bytesOf (s.extract l u)=((bytesOf s).drop l).take (u - l):=by
 unfold bytesOf
 rw [ByteArray.data_extract,Array.toList_extract]
 simp [List.map_take,List.map_drop]
theorem slStr_ok {s:List Nat} {l u:Option Nat} (he:slStr s l u h=.ok v h'):
 ∃ l' u',l=some l'/\u=some u'/\l'<=u'/\u'<=s.length/\v=.str ((s.drop l').take (u' - l'))/\h'=h:=by
 unfold slStr at he
 split at he
 . rename_i l' u'
   rcases Be he with ⟨h1,he⟩|⟨_,he⟩
   . rcases Be he with ⟨h2,he⟩|⟨_,he⟩
     . obtain ⟨rfl,rfl⟩:=By he
       rw [slen_eq] at h2
       refine ⟨l',u',rfl,rfl,ble_le h1,ble_le h2,?_,rfl⟩
       rw [stake_eq,sdrop_eq];rfl
     . cases he
   . cases he
 . cases he
theorem slSl_ok {b off cap sz:Nat} {ex:Bool} {l u:Nat} (he:slSl b off cap sz ex l u h=.ok v h'):l<=u/\u<=cap/\h'=h /\
 ((l<cap/\v=.sl b (off+l * sz) (u - l) (cap - l) sz ex)\/(l=cap/\ex=true/\v=.sl b off 0 0 sz true)\/(l=cap/\l=0/\v=.sl b off 0 0 sz ex)\/(l=cap/\l≠0/\ex=false/\v=.sl b (off+1) 0 0 0 false)):=by
 rcases Be he with ⟨h1,he⟩|⟨_,he⟩
 . rcases Be he with ⟨h2,he⟩|⟨_,he⟩
   . have g1:=ble_le h1
     have g2:=ble_le h2
     rcases Be he with ⟨h3,he⟩|⟨h3,he⟩
     . obtain ⟨rfl,rfl⟩:=By he
       exact ⟨g1,g2,rfl,.inl ⟨Ee h3,rfl⟩⟩
     . have g3:=blt_ge h3
       rcases Be he with ⟨h4,he⟩|⟨h4,he⟩
       . obtain ⟨rfl,rfl⟩:=By he
         exact ⟨g1,g2,rfl,.inr (.inl ⟨by omega,h4,rfl⟩)⟩
       . rcases Be he with ⟨h5,he⟩|⟨h5,he⟩
         . obtain ⟨rfl,rfl⟩:=By he
           exact ⟨g1,g2,rfl,.inr (.inr (.inl ⟨by omega,Cf h5,rfl⟩))⟩
         . obtain ⟨rfl,rfl⟩:=By he
           refine ⟨g1,g2,rfl,.inr (.inr (.inr ⟨by omega,beq_neN h5,?_,rfl⟩))⟩
           cases ex with
           |false=>rfl
           |true=>cases h4
   . cases he
 . cases he
theorem slSl3_ok {b off cap sz l u c:Nat} (he:slSl3 b off cap sz l u c h=.ok v h'):l<=u/\u<=c/\c<=cap/\h'=h /\
 v=.sl b (if c=l then off else off+l * sz) (u - l) (c - l) sz true:=by
 rcases Be he with ⟨h1,he⟩|⟨_,he⟩
 . rcases Be he with ⟨h2,he⟩|⟨_,he⟩
   . rcases Be he with ⟨h3,he⟩|⟨_,he⟩
     . obtain ⟨rfl,rfl⟩:=By he
       refine ⟨ble_le h1,ble_le h2,ble_le h3,rfl,?_⟩
       cases hq:Nat.beq c l with
       |false=>rw [if_neg (beq_neN hq)];rfl
       |true=>rw [if_pos (Cf hq)];rfl
     . cases he
   . cases he
 . cases he
theorem all_opt {G:Nat} {lo hi mx:Option Operand} {x:Operand} (h:(Op.slice ty x lo hi mx).operands.toList.all (Ej G)=true):
 Ej G x=true/\(∀ y,lo=some y->Ej G y=true)/\(∀ y,hi=some y->Ej G y=true)/\(∀ y,mx=some y->Ej G y=true):=by
 simp only [Op.operands,Array.toList_append,List.all_append,Bool.and_eq_true] at h
 obtain ⟨⟨⟨h1,h2⟩,h3⟩,h4⟩:=h
 refine ⟨by simpa using h1,?_,?_,?_⟩
 . rintro y rfl;simpa using h2
 . rintro y rfl;simpa using h3
 . rintro y rfl;simpa using h4
theorem good_slice (t:TypeId) (x:Operand) (lo hi mx:Option Operand):Good1 P G ⟨dst,.slice t x lo hi mx,ty,pos,af,gd⟩:=by
 intro σ nt f a h h' w v ctx he C2 hf hg
 obtain ⟨ox,o1,o2,o3⟩:=all_opt C2
 have hx:=Ce hf hg x ox
 have he':E2 t x lo hi mx ty P ctx f h=.ok v h'/\hmOk hi mx=true:=by
  rcases Be he with ⟨h1,he⟩|⟨_,he⟩
  . exact ⟨he,h1⟩
  . cases he
 obtain ⟨he',hmo⟩:=he'
 have hmx:mx≠none->hi≠none:=by
  intro h1 h2
  cases mx with
  |none=>exact h1 rfl
  |some m=>subst h2;cases hmo
 unfold E2 at he'
 generalize hy:a.eval x=y at *
 split at he'
 . rename_i hxi
   split at he'
   . rename_i s hvs
     rw [vS_yes hvs] at hx
     cases hx
     rename_i bs
     obtain ⟨l,u,hl,hu,hlu,hus,rfl,rfl⟩:=slStr_ok he'
     rw [Fl] at hus
     have hu':bnd f hi bs.size=some u:=by rw [<- Fl,<- slen_eq];exact hu
     have hb:=run_bounds (P:=P) hf hg o1 o2 o3 (cap:=bs.size) (len:=bs.size) (m:=bs.size) rfl hl hu' hlu hus (Nat.le_refl _) (fun hh=>absurd rfl hh) false w
     refine ⟨.string (bs.extract l u),w,.inl ?_,.quiet _ _ ?_⟩
     . have hun:=xInfo_str hxi
       simp only [Option.map_none] at hb
       simp [execOp,hy,Instr.sliceAt,Instr.slice,run_underlying hun,hb]
     . rw [<- bytesOf_extract];exact .str _
   . cases he'
 . rename_i i hxi
   obtain ⟨inf,k1,k2,k3,k4⟩:=xInfo_sl hxi
   split at he'
   . rename_i hvl
     rw [vL_nil hvl] at hx
     cases hx
     split at he'
     . rename_i e1 e2 e3
       obtain ⟨rfl,rfl⟩:=By he'
       have hb:=run_bounds (P:=P) hf hg o1 o2 o3 (cap:=0) (len:=0) e3 e1 e2 (Nat.le_refl _) (Nat.le_refl _) (Nat.le_refl _) hmx true w
       refine ⟨.slice none 0 0,w,.inl ?_,.quiet _ _ .Cb⟩
       simp [execOp,hy,Instr.sliceAt,Instr.slice,run_underlying k1,hb,sizeOf,typeInfo,k2]
     . cases he'
   . rename_i b off len cap sz ex hvl
     rw [vL_yes hvl] at hx
     have hpos:=xInfo_pos hxi
     cases hx
     rotate_left
     . exfalso
       split at he'
       . rcases Be he' with ⟨hz,_⟩|⟨_,he'⟩
         . have:=Cf hz
           omega
         . cases he'
       . split at he'
         . rcases Be he' with ⟨hz,_⟩|⟨_,he'⟩
           . have:=Cf hz
             omega
           . cases he'
         . cases he'
       . cases he'
     rename_i e cc hs g1 g2 g3 g4
     split at he'
     . rename_i l u e1 e2
       rcases Be he' with ⟨hz,he'⟩|⟨_,he'⟩
       . have hz':=Cf hz
         obtain ⟨q1,q2,rfl,hcase⟩:=slSl_ok he'
         have hb:=run_bounds (P:=P) hf hg o1 o2 o3 (cap:=cc) (len:=len) (m:=cc) rfl e1 e2 q1 (by omega) (Nat.le_refl _) (fun hh=>absurd rfl hh) true w
         simp only [Option.map_none] at hb
         have run:(execOp a.eval ⟨dst,.slice t x lo hi none,ty,pos,af,gd⟩).run P w=.ok (.value (.slice (if cc=l then some ⟨e.c,off,none⟩ else some ((⟨e.c,off,none⟩:Addr).add (l * i.s))) (u - l) (cc - l))) w:=by
          simp [execOp,hy,Instr.sliceAt,Instr.slice,run_underlying k1,hb,sizeOf,typeInfo,k2,k3]
         rcases hcase with ⟨q3,rfl⟩|⟨q3,rfl,rfl⟩|⟨q3,q4,rfl⟩|⟨q3,q4,rfl,rfl⟩
         . refine ⟨_,w,.inl run,.quiet _ _ ?_⟩
           rw [if_neg (by omega),Gp,<- hz']
           refine .sl b _ _ _ _ _ e _ hs (by omega) (by omega) (fun hh=>by rw [g3 hh]) (fun hh=>?_)
           have:=g4 hh
           have e3:l * sz+(cc - l) * sz=cc * sz:=by rw [<- Nat.add_mul];congr 1;omega
           omega
         . have:=g3 rfl
           subst this
           refine ⟨_,w,.inl run,.quiet _ _ ?_⟩
           have e3:u=l:=by omega
           rw [if_pos q3.symm,e3,<- q3,Nat.sub_self]
           exact .sl b _ _ _ _ _ e _ hs (by omega) (by omega) (fun _=>rfl) (fun hh=>by cases hh)
         . subst q4
           have e3:u=0:=by omega
           refine ⟨_,w,.inl run,.quiet _ _ ?_⟩
           have e4:(if cc=0 then some (⟨e.c,off,none⟩:Addr) else some ((⟨e.c,off,none⟩:Addr).add (0 * i.s)))=some ⟨e.c,off,none⟩:=by
            rw [Gp];simp
           rw [e4,e3,Nat.sub_zero,Nat.sub_zero]
           exact .sl b _ _ _ _ _ e _ hs (by omega) (by omega) (fun hh=>by rw [g3 hh];omega) g4
         . have e3:u=l:=by omega
           refine ⟨_,w,.inl run,.quiet _ _ ?_⟩
           rw [e3,Nat.sub_self]
           by_cases hcl:cc=l
           . rw [if_pos hcl];exact .slw b off e hs _ _
           . rw [if_neg hcl];exact .slw b off e hs _ _
       . cases he'
     . rename_i l u m e1 e2
       split at he'
       . rename_i c e3
         rcases Be he' with ⟨hz,he'⟩|⟨_,he'⟩
         . have hz':=Cf hz
           obtain ⟨q1,q2,q3,rfl,rfl⟩:=slSl3_ok he'
           have hb:=run_bounds (P:=P) hf hg o1 o2 o3 (cap:=cc) (len:=len) (m:=c) e3 e1 e2 q1 q2 (by omega) hmx true w
           refine ⟨.slice (if c=l then some ⟨e.c,off,none⟩ else some ((⟨e.c,off,none⟩:Addr).add (l * i.s))) (u - l) (c - l),w,.inl ?_,.quiet _ _ ?_⟩
           . simp only [Option.map_some] at hb
             simp [execOp,hy,Instr.sliceAt,Instr.slice,run_underlying k1,hb,sizeOf,typeInfo,k2,k3]
           . rw [Gp,<- hz']
             by_cases hcl:c=l
             . rw [if_pos hcl,if_pos hcl]
               exact .sl b _ _ _ _ _ e _ hs (by omega) (by omega) (fun _=>rfl) (fun hh=>by cases hh)
             . rw [if_neg hcl,if_neg hcl]
               exact .sl b _ _ _ _ _ e _ hs (by omega) (by omega) (fun _=>rfl) (fun hh=>by cases hh)
         . cases he'
       . cases he'
     . cases he'
   . cases he'
 . rename_i n i hxi
   obtain ⟨inf,k1,k2,k3,k4⟩:=xInfo_arr hxi
   split at he'
   . rename_i b off l u hvp e1 e2
     rw [vP_yes hvp] at hx
     cases hx
     rename_i e hs
     obtain ⟨q1,q2,q3,rfl,rfl⟩:=slSl3_ok he'
     have hb:=run_bounds (P:=P) hf hg o1 o2 o3 (cap:=n) (len:=n) (m:=n) rfl e1 e2 q1 q2 (Nat.le_refl _) (fun hh=>absurd rfl hh) false w
     refine ⟨.slice (some (if n=l then ⟨e.c,off,none⟩ else ((⟨e.c,off,none⟩:Addr).add (l * i.s)))) (u - l) (n - l),w,.inl ?_,.quiet _ _ ?_⟩
     . simp only [Option.map_none] at hb
       simp [execOp,hy,Instr.sliceAt,run_underlying k1,hb,sizeOf,typeInfo,k2,k3,Instr.sureAddr]
     . rw [Gp]
       by_cases hcl:n=l
       . rw [if_pos hcl,if_pos hcl]
         exact .sl b _ _ _ _ _ e _ hs (by omega) (by omega) (fun _=>rfl) (fun hh=>by cases hh)
       . rw [if_neg hcl,if_neg hcl]
         exact .sl b _ _ _ _ _ e _ hs (by omega) (by omega) (fun _=>rfl) (fun hh=>by cases hh)
   . cases he'
 . cases he'
end ops
end Go.Ev
namespace Go.Ev
variable [Lim]
variable {P:Program} {G:Nat} {σ:Dj} {h h':H} {w:World} {v:AV} {nt:Nat} {f:L2} {a:Act}
section ops
variable {dst:Option Tmp} {ty:TypeId} {pos:String} {af:Array Edge} {gd:Option (Nat × Bool)}
theorem fold_size (vs:List (Value × Nat)) (off:Nat) (cells:Array Value):(vs.foldl (fun cs (p:Value × Nat)=>cs.setIfInBounds (off+p.2) p.1) cells).size=cells.size:=by
 induction vs generalizing cells with
 |nil=>rfl
 |cons p vs ih=>simp only [List.foldl_cons];rw [ih];simp
theorem fold_get (vs:List Value) (off:Nat):∀ (k:Nat) (cells:Array Value) (i:Nat),off+k+vs.length<=cells.size ->
 ((vs.zipIdx k).foldl (fun cs (p:Value × Nat)=>cs.setIfInBounds (off+p.2) p.1) cells)[i]?=if off+k<=i/\i<off+k+vs.length then vs[i - (off+k)]? else cells[i]?:=by
 induction vs with
 |nil=>intro k cells i _;simp;intro h1 h2;omega
 |cons v vs ih=>
  intro k cells i hle
  simp only [List.length_cons] at hle
  simp only [List.zipIdx_cons,List.foldl_cons]
  rw [ih (k+1) _ i (by simp;omega)]
  by_cases h1:off+(k+1)<=i/\i<off+(k+1)+vs.length
  . rw [if_pos h1,if_pos (by simp;omega)]
    have:i - (off+k)=(i - (off+(k+1)))+1:=by omega
    rw [this,List.getElem?_cons_succ]
  . rw [if_neg h1]
    by_cases h2:i=off+k
    . subst h2
      rw [if_pos (by simp)]
      have hlt:off+k<cells.size:=by omega
      simp [hlt]
    . rw [if_neg (by simp;omega),Array.getElem?_setIfInBounds_ne (by omega)]
theorem fill_rel (hf:FRel σ nt f a) (hg:GOk G σ) {place place':Nat->Option (Nat × Nat)} (hp:∀ i q,place i=some q->place' i=some q):
 ∀ (parts:List (Nat × Operand)) (cs r:List AV) (cs':Array Value),parts.all (fun p=>Ej G p.2)=true->fillA place f parts cs=some r->Bd σ cs cs'.toList ->
  ∃ r':Array Value,Instr.fill place' cs' (parts.map fun p=>(p.1,a.eval p.2))=some r'/\Bd σ r r'.toList:=by
 intro parts
 induction parts with
 |nil=>intro cs r cs' _ he hc;cases he;exact ⟨cs',rfl,hc⟩
 |cons p parts ih=>
  obtain ⟨i,x⟩:=p
  intro cs r cs' C2 he hc
  simp only [List.all_cons,Bool.and_eq_true] at C2
  simp only [fillA] at he
  split at he
  . rename_i off size u hpl hcl
    split at he
    . rename_i cs2 hput
      cases hq:Nat.beq (llen u) size with
      |false=>rw [hq] at he;cases he
      |true=>
       rw [hq] at he
       have hsz:=Cf hq
       rw [Gt] at hsz
       have hv:=cellsOf_rel hcl (Ce hf hg x C2.1)
       obtain ⟨hle,_⟩:=lput_some hput
       have hlen:u.length=(a.eval x).cells.size:=by rw [hv.1];simp
       have hlc:cs.length=cs'.size:=by rw [hc.1];simp
       simp only [List.map_cons,Instr.fill,hp i _ hpl]
       rw [if_neg (by simp;omega)]
       refine ih cs2 r _ C2.2 he ?_
       have key:=fun i=>fold_get (a.eval x).cells.toList off 0 cs' i (by simp;omega)
       rw [<- Array.foldl_toList]
       rw [Array.toList_zipIdx]
       generalize hF:((a.eval x).cells.toList.zipIdx 0).foldl (fun cs (p:Value × Nat)=>cs.setIfInBounds (off+p.2) p.1) cs'=F at key
       have hF':List.foldl (fun cs x=>cs.setIfInBounds (off+x.2) x.1) cs' (a.eval x).cells.toList.zipIdx=F:=hF
       have hsz2:F.size=cs'.size:=by rw [<- hF];exact fold_size _ _ _
       have goal:Bd σ cs2 F.toList:=by
        refine ⟨?_,fun j y z hy hz=>?_⟩
        . rw [lput_length hput];simp;omega
        . rw [lput_get hput] at hy
          have hz':F[j]?=some z:=by simpa using hz
          rw [key j] at hz'
          simp only [Nat.add_zero,Array.length_toList] at hz'
          by_cases hj:off<=j/\j<off+u.length
          . rw [if_pos hj] at hy
            rw [if_pos (by omega)] at hz'
            exact hv.2 (j - off) y z hy hz'
          . rw [if_neg hj] at hy
            rw [if_neg (by omega)] at hz'
            exact hc.2 j y z hy (by simpa using hz')
       exact goal
    . cases he
  . cases he
theorem operands_build {t:TypeId} {parts:Array (Nat × Operand)} (h:(Op.build t parts).operands.toList.all (Ej G)=true):parts.toList.all (fun p=>Ej G p.2)=true:=by
 simpa [Op.operands,List.all_map] using h
theorem operands_buildSlice {t:TypeId} {n:Nat} {parts:Array (Nat × Operand)} (h:(Op.buildSlice t n parts).operands.toList.all (Ej G)=true):parts.toList.all (fun p=>Ej G p.2)=true:=by
 simpa [Op.operands,List.all_map] using h
theorem mapM_places (P:Program) (w:World):∀ (l:List Go.Field) (pl:List (Nat × Nat)),l.mapM (fun f=>(Fx P f.type).map fun s=>(f.offset,s))=some pl ->
 (l.mapM (fun f=>do pure (f.offset,<- sizeOf f.type):Go.Field->Sem (Nat × Nat))).run P w=.ok pl w:=by
 intro l
 induction l with
 |nil=>intro pl h;simp at h;subst h;simp
 |cons f l ih=>
  intro pl h
  rw [List.mapM_cons] at h
  simp only [bind,Option.bind_eq_some_iff,pure,Option.some.injEq,Option.map_eq_some_iff] at h
  obtain ⟨q,⟨s,hs,rfl⟩,pl',h2,rfl⟩:=h
  obtain ⟨i,hi,rfl⟩:=Fs hs
  have hso:(sizeOf f.type).run P w=.ok i.size w:=by simp [sizeOf,typeInfo,hi]
  rw [List.mapM_cons]
  simp only [Sem.run_bind,hso,Result.andThen_ok,ih pl' h2,Sem.run_pure]
theorem bInfo_struct {t:TypeId} {pl:List (Nat × Nat)} {z:List AV} (h:bInfo P t=.struct pl z):∃ fs,P.underlying t=some (.struct fs)/\zeroInfo P t=some z/\fs.toList.mapM (fun f=>(Fx P f.type).map fun s=>(f.offset,s))=some pl:=by
 unfold bInfo at h
 split at h
 . rename_i z' fs hz hu
   split at h
   . rename_i pl' hp
     cases h
     unfold places at hp
     rw [hu] at hp
     exact ⟨fs,hu,hz,hp⟩
   . cases h
 . split at h<;>cases h
 . cases h
theorem bInfo_arr {t:TypeId} {s:Nat} {z:List AV} (h:bInfo P t=.arr s z):∃ n e inf,P.underlying t=some (.array n e)/\zeroInfo P t=some z/\P.info? e=some inf/\inf.size=s:=by
 unfold bInfo at h
 split at h
 . split at h<;>cases h
 . rename_i z' n e hz hu
   split at h
   . rename_i s' hs
     cases h
     obtain ⟨inf,h1,h2⟩:=Fs hs
     exact ⟨n,e,inf,hu,hz,h1,h2⟩
   . cases h
 . cases h
theorem good_build (t:TypeId) (parts:Array (Nat × Operand)):Good1 P G ⟨dst,.build t parts,ty,pos,af,gd⟩:=by
 intro σ nt f a h h' w v ctx he C2 hf hg
 have hop':=operands_build C2
 have he':oBuild t parts ty P ctx f h=.ok v h':=he
 unfold oBuild at he'
 have hparts:(parts.map fun p=>(p.1,a.eval p.2)).toList=parts.toList.map fun p=>(p.1,a.eval p.2):=by simp
 split at he'
 . rename_i pl z hb
   obtain ⟨cs,hc,rfl,rfl⟩:=resAgg_ok he'
   obtain ⟨fs,hu,hz,hpl⟩:=bInfo_struct hb
   obtain ⟨i,zz,hi,hzz,hr⟩:=zeroInfo_rel σ hz
   obtain ⟨r',h1,h2⟩:=fill_rel hf hg (place:=fun i=>pl[i]?) (place':=fun i=>pl.toArray[i]?) (fun i q hq=>by simpa using hq) parts.toList z cs zz.cells hop' hc hr
   refine ⟨.agg r',w,.inl ?_,.quiet _ _ (.agg _ _ h2.1 h2.2)⟩
   have hm:=mapM_places P w fs.toList pl hpl
   have hm':(fs.mapM (fun f=>do pure (f.offset,<- sizeOf f.type):Go.Field->Sem (Nat × Nat))).run P w=.ok pl.toArray w:=by
    rw [Array.mapM_eq_mapM_toList]
    simp only [Sem.run_map,hm,Result.andThen_ok]
   simp only [execOp,Instr.build,zeroValue,typeInfo,Sem.run_bind,run_program,Result.andThen_ok,hi,Sem.run_pure,hzz,run_underlying hu,hm',hparts,h1]
 . rename_i s z hb
   obtain ⟨cs,hc,rfl,rfl⟩:=resAgg_ok he'
   obtain ⟨n,e,inf,hu,hz,hie,hs⟩:=bInfo_arr hb
   obtain ⟨i,zz,hi,hzz,hr⟩:=zeroInfo_rel σ hz
   obtain ⟨r',h1,h2⟩:=fill_rel hf hg (place:=arrPlace s) (place':=fun i=>some (i * s,s)) (fun i q hq=>hq) parts.toList z cs zz.cells hop' hc hr
   refine ⟨.agg r',w,.inl ?_,.quiet _ _ (.agg _ _ h2.1 h2.2)⟩
   simp only [execOp,Instr.build,zeroValue,typeInfo,sizeOf,Sem.run_bind,run_program,Result.andThen_ok,hi,Sem.run_pure,hzz,run_underlying hu,hie,hs,hparts,h1]
 . cases he'
theorem slInfo_pos {t:TypeId} {i:SI} (h:slInfo P t=some i):0<i.s:=by
 unfold slInfo at h
 split at h
 . rename_i e hu
   split at h
   . rename_i inf z hi hz
     cases hq:Nat.beq (llen z) inf.size with
     |false=>rw [hq] at h;cases h
     |true=>
      rw [hq] at h
      have h':(Bool.rec (motive:=fun _=>Option SI) none (some ⟨e,inf.size,inf.bytes⟩) (Nat.blt 0 inf.size))=some i:=h
      cases hz0:Nat.blt 0 inf.size with
      |false=>rw [hz0] at h';cases h'
      |true=>rw [hz0] at h';cases h';exact Ee hz0
   . cases h
 . cases h
theorem slInfo_some {t:TypeId} {i:SI} (h:slInfo P t=some i):∃ inf z zz,P.underlying t=some (.slice i.e)/\P.info? i.e=some inf/\inf.size=i.s/\inf.bytes=i.bytes /\
 zeroInfo P i.e=some z/\inf.zero=some zz/\z.length=i.s/\zz.cells.size=i.s/\∀ σ,Bd σ z zz.cells.toList:=by
 unfold slInfo at h
 split at h
 . rename_i e hu
   split at h
   . rename_i inf z hi hz
     cases hq:Nat.beq (llen z) inf.size with
     |false=>rw [hq] at h;cases h
     |true=>
      rw [hq] at h
      have h':(Bool.rec (motive:=fun _=>Option SI) none (some ⟨e,inf.size,inf.bytes⟩) (Nat.blt 0 inf.size))=some i:=h
      clear h
      cases hz0:Nat.blt 0 inf.size with
      |false=>rw [hz0] at h';cases h'
      |true=>
      rw [hz0] at h'
      cases h'
      have e1:=Cf hq
      rw [Gt] at e1
      obtain ⟨inf',zz,h1,h2,_⟩:=zeroInfo_rel (P:=P) (fun _=>none) hz
      rw [hi] at h1
      cases h1
      have hrel:∀ σ,Bd σ z zz.cells.toList:=by
       intro σ
       obtain ⟨inf',zz',g1,g2,g3⟩:=zeroInfo_rel (P:=P) σ hz
       rw [hi] at g1
       cases g1
       rw [h2] at g2
       cases g2
       exact g3
      refine ⟨inf,z,zz,hu,hi,rfl,rfl,hz,h2,e1,?_,hrel⟩
      have h9:=(hrel (fun _=>none)).1
      have h10:zz.cells.toList.length=zz.cells.size:=by simp
      show zz.cells.size=inf.size
      omega
   . cases h
 . cases h
theorem repl_get (z:List AV):∀ (n j:Nat),j<n * z.length->(repl z n)[j]?=z[j % z.length]?:=by
 intro n
 induction n with
 |zero=>intro j hj;simp at hj
 |succ n ih=>
  intro j hj
  simp only [repl,Dn]
  by_cases h1:j<z.length
  . rw [List.getElem?_append_left h1,Nat.mod_eq_of_lt h1]
  . rw [List.getElem?_append_right (by omega)]
    have h2:j - z.length<n * z.length:=by rw [Nat.add_mul] at hj;omega
    rw [ih _ h2]
    congr 1
    rw [<- Nat.mod_eq_sub_mod (by omega)]
theorem repl_len (z:List AV):∀ n,(repl z n).length=n * z.length:=by
 intro n
 induction n with
 |zero=>simp [repl]
 |succ n ih=>simp only [repl,Dn,List.length_append,ih,Nat.add_mul];omega
theorem repl_rel {z:List AV} {zz:Array Value} (hr:Bd σ z zz.toList) (n:Nat):Bd σ (repl z n) ((Array.range (n * z.length)).map (fun i=>zz[i % zz.size]!)).toList:=by
 have hl:z.length=zz.size:=by rw [hr.1];simp
 refine ⟨by rw [repl_len];simp,fun i x y hx hy=>?_⟩
 have hi:i<n * z.length:=by
  have:=(List.getElem?_eq_some_iff.1 hx).1
  rw [repl_len] at this
  exact this
 rw [repl_get z n i hi] at hx
 have hpos:0<z.length:=by
  rcases Nat.eq_zero_or_pos z.length with h0|h0
  . rw [h0] at hi;omega
  . exact h0
 have hlt:i % zz.size<zz.size:=Nat.mod_lt _ (by omega)
 have hy':y=zz[i % zz.size]!:=by
  simp [hi] at hy
  exact hy.symm
 rw [hl] at hx
 refine hr.2 _ x y hx ?_
 rw [hy']
 simp [hlt]
theorem good_buildSlice (t:TypeId) (n:Nat) (parts:Array (Nat × Operand)):Good1 P G ⟨dst,.buildSlice t n parts,ty,pos,af,gd⟩:=by
 intro σ nt f a h h' w v ctx he C2 hf hg
 have hop':=operands_buildSlice C2
 have he':Gj t n parts ty P ctx f h=.ok v h':=he
 unfold Gj at he'
 have hparts:(parts.map fun p=>(p.1,a.eval p.2)).toList=parts.toList.map fun p=>(p.1,a.eval p.2):=by simp
 split at he'
 . rename_i i hs
   obtain ⟨inf,z,zz,hu,hi,hsz,hby,hz,hzz,hlz,hlzz,hrel⟩:=slInfo_some hs
   rw [hz] at he'
   dsimp only at he'
   split at he'
   . rename_i cs hc
     rcases Be he' with ⟨hsm,he2⟩|⟨_,he2⟩
     . obtain ⟨rfl,rfl⟩:=By he2
       have hlt:=Ee hsm
       obtain ⟨r',h1,h2⟩:=fill_rel hf hg (place:=arrPlace i.s) (place':=fun j=>some (j * i.s,i.s)) (fun j q hq=>hq) parts.toList (repl z n) cs _ hop' hc (repl_rel (hrel σ) n)
       refine ⟨_,_,.inl ?_,.sl cs r' i.e n n i.s (Nat.le_refl _) h2⟩
       have hn:¬ (n * i.s > 2 ^ 24):=by omega
       rw [hlz] at h1
       by_cases h0:n * i.s=0
       . have e0:∀ g:Nat->Value,(Array.range (n * i.s)).map g=#[]:=fun g=>by rw [h0];apply Array.ext';simp
         rw [e0] at h1
         simp only [execOp,Instr.buildSlice,typeInfo,sizeOf,Sem.run_bind,run_program,Result.andThen_ok,Sem.run_pure,run_underlying hu,hi,hsz,if_neg hn,hparts,e0,newRow,C5]
         simp [h0,h1]
       . simp only [execOp,Instr.buildSlice,zeroValue,typeInfo,sizeOf,Sem.run_bind,run_program,Result.andThen_ok,Sem.run_pure,run_underlying hu,hi,hsz,hzz,if_neg hn,hparts,h0,if_false,newRow,run_newObj,C5,h1]
     . cases he2
   . cases he'
 . cases he'
theorem lkInfo_says (P:Program) (t:TypeId):match lkInfo P t with
 |.bad=>True
 |.str=>P.underlying t=some .string
 |.sl=>∃ e,P.underlying t=some (.slice e)
 |.map=>∃ k e,P.underlying t=some (.map k e):=by
 unfold lkInfo
 cases hu:P.underlying t with
 |none=>trivial
 |some d=>cases d<;>first|trivial|exact ⟨_,rfl⟩|exact ⟨_,_,rfl⟩
theorem len_quiet {t:TypeId} {x:AV} {y:Value} (hx:Aq σ x y) (hm:∀ r,x≠.map r) (he:lnK (lkInfo P t) x h=.ok v h') (w:World) (ts:Array TypeId) (ht:ts[0]?=some t):
 ∃ v',(Builtin.len_ ts ty #[y]).run P w=.ok v' w/\Aq σ v v'/\h'=h:=by
 have hs:=lkInfo_says P t
 cases hk:lkInfo P t with
 |bad=>rw [hk] at he;cases he
 |str=>
  rw [hk] at he hs
  have he':lnS x h=.ok v h':=he
  cases hx<;>first|(cases he';done)|skip
  rename_i s
  cases he'
  refine ⟨.int .i64 s.size,?_,?_,rfl⟩
  . simp [Builtin.len_,ht,run_underlying hs,goInt]
  . rw [slen_eq,Fl];exact .int _ _
 |sl=>
  rw [hk] at he hs
  obtain ⟨e,hs⟩:=hs
  have he':Ft x h=.ok v h':=he
  cases hx<;>first|(cases he';done)|skip
  . cases he'
    exact ⟨.int .i64 0,by simp [Builtin.len_,ht,run_underlying hs,goInt],.int _ _,rfl⟩
  . rename_i b off len cap sz ex e1 cc _ _ _ _ _
    cases he'
    exact ⟨.int .i64 len,by simp [Builtin.len_,ht,run_underlying hs,goInt],.int _ _,rfl⟩
  . cases he'
    exact ⟨.int .i64 0,by simp [Builtin.len_,ht,run_underlying hs,goInt],.int _ _,rfl⟩
 |map=>
  rw [hk] at he hs
  obtain ⟨k,e,hs⟩:=hs
  have he':lnM x h=.ok v h':=he
  unfold lnM entries at he'
  cases hx<;>first|(cases he';done)|skip
  . cases he'
    exact ⟨.int .i64 0,by simp [Builtin.len_,ht,run_underlying hs,goInt],.int _ _,rfl⟩
  . exact absurd rfl (hm _)
end ops
end Go.Ev
namespace Go.Ev
variable [Lim]
variable {P:Program} {G:Nat} {σ:Dj} {h h':H} {w:World} {v:AV} {nt:Nat} {f:L2} {a:Act}
def B6 (w:World) (c:Nat) (o:Obj):World:={ w with heap:=w.heap.setIfInBounds c o }
theorem C1 (w:World) (c:Nat) (o:Obj) (j:Nat):(B6 w c o).heap[j]?=if j=c/\c<w.heap.size then some o else w.heap[j]?:=by
 unfold B6
 by_cases hj:j=c
 . subst hj
   by_cases hlt:j<w.heap.size
   . rw [if_pos ⟨rfl,hlt⟩]
     simp [hlt]
   . rw [if_neg (by simp [hlt])]
     simp [hlt]
 . rw [if_neg (fun hh=>hj hh.1)]
   simp [Array.getElem?_setIfInBounds_ne (Ne.symm hj)]
theorem size_setBlk (w:World) (c:Nat) (o:Obj):(B6 w c o).heap.size=w.heap.size:=by simp [B6]
theorem Dd {w:World} {c:Nat} {o:Obj} (hc:w.heap[c]?=some o):c<w.heap.size:=(Array.getElem?_eq_some_iff.1 hc).1
theorem setCell_eq {w:World} {c i:Nat} {v:Value} {arr:Array Value} {t:TypeId} {fz:Nat × Nat} (hc:w.heap[c]?=some (.cells arr t fz)):
 w.setCell ⟨c,i,none⟩ v=B6 w c (.cells (arr.setIfInBounds i v) t fz):=by
 unfold World.setCell B6
 congr 1
 apply Array.ext_getElem?
 intro j
 have hlt:=Dd hc
 by_cases hj:c=j
 . subst hj
   rw [Array.getElem?_modify]
   have:w.heap[c]=.cells arr t fz:=by rw [Array.getElem?_eq_getElem hlt] at hc;exact Option.some.inj hc
   simp [hlt,this]
 . rw [Array.getElem?_modify]
   simp [hj,Array.getElem?_setIfInBounds_ne hj]
def arrPut (arr:Array Value) (o:Nat) (vs:List Value):Array Value:=(arr.toList.take o++vs++arr.toList.drop (o+vs.length)).toArray
theorem arrPut_get {arr:Array Value} {o:Nat} {vs:List Value} (hle:o+vs.length<=arr.size) (i:Nat):
 (arrPut arr o vs)[i]?=if o<=i/\i<o+vs.length then vs[i - o]? else arr[i]?:=by
 unfold arrPut
 have hl:arr.toList.length=arr.size:=by simp
 simp only [List.getElem?_toArray]
 by_cases h2:i<o
 . rw [if_neg (by omega),List.append_assoc,List.getElem?_append_left (by simp;omega),List.getElem?_take_of_lt h2];simp
 . by_cases h3:i<o+vs.length
   . rw [if_pos (by omega),List.append_assoc,List.getElem?_append_right (by simp;omega),List.getElem?_append_left (by simp;omega)]
     congr 1
     simp
     omega
   . rw [if_neg (by omega),List.getElem?_append_right (by simp;omega)]
     simp only [List.length_append,List.length_take,List.getElem?_drop,Array.getElem?_toList]
     congr 1
     omega
theorem arrPut_size {arr:Array Value} {o:Nat} {vs:List Value} (hle:o+vs.length<=arr.size):(arrPut arr o vs).size=arr.size:=by
 unfold arrPut
 simp
 omega
theorem arrPut_cons {arr:Array Value} {o:Nat} {v:Value} {vs:List Value} (hle:o+(vs.length+1)<=arr.size):
 arrPut (arr.setIfInBounds o v) (o+1) vs=arrPut arr o (v::vs):=by
 apply Array.ext_getElem?
 intro i
 rw [arrPut_get (by simp;omega),arrPut_get (by simp;omega)]
 simp only [List.length_cons]
 by_cases h1:o+1<=i/\i<o+1+vs.length
 . rw [if_pos h1,if_pos (by omega)]
   have:i - o=(i - (o+1))+1:=by omega
   rw [this,List.getElem?_cons_succ]
 . rw [if_neg h1]
   by_cases h2:i=o
   . subst h2
     rw [if_pos (by omega)]
     have:i<arr.size:=by omega
     simp [this]
   . rw [if_neg (by omega),Array.getElem?_setIfInBounds_ne (by omega)]
theorem setBlk_setBlk (w:World) (c:Nat) (o o':Obj):B6 (B6 w c o) c o'=B6 w c o':=by
 unfold B6
 simp
theorem run_storeBlk (P:Program) (c off:Nat) (t:TypeId) (lo hi:Nat):∀ (vs:List Value) (i:Nat) (arr:Array Value) (w:World),w.heap[c]?=some (.cells arr t (lo,hi)) ->
 off+i+vs.length<=arr.size->(∀ j,off+i<=j->j<off+i+vs.length->¬ (lo<=j/\j<hi))->(∀ v∈vs,v.oneCell'=true) ->
 (storeCells ⟨c,off,none⟩ vs i).run P w=.ok () (B6 w c (.cells (arrPut arr (off+i) vs) t (lo,hi)))
 |[],i,arr,w,hc,hle,_,_=>by
  have e:arrPut arr (off+i) []=arr:=by unfold arrPut;simp
  rw [e]
  simp only [storeCells,Sem.run_pure]
  congr 1
  unfold B6
  have hlt:=Dd hc
  have:w.heap.setIfInBounds c (.cells arr t (lo,hi))=w.heap:=by
   apply Array.ext_getElem?
   intro j
   by_cases hj:c=j
   . subst hj;rw [hc];simp [hlt]
   . simp [Array.getElem?_setIfInBounds_ne hj]
  rw [this]
 |v::vs,i,arr,w,hc,hle,hfz,hone=>by
  simp only [List.length_cons] at hle hfz
  have hcell:w.cell? ((⟨c,off,none⟩:Addr).add i)=some arr[off+i]:=by
   rw [Gp]
   simp [World.cell?,hc]
  have hfro:w.frozen? ((⟨c,off,none⟩:Addr).add i)=false:=by
   rw [Gp]
   simp only [World.frozen?,hc]
   have:=hfz (off+i) (by omega) (by omega)
   simp
   omega
  have hst:=run_store P w ((⟨c,off,none⟩:Addr).add i) v .plain (hone v (by simp))
  rw [hcell,hfro] at hst
  simp only [Bool.false_eq_true,if_false] at hst
  rw [Gp,setCell_eq hc] at hst
  have hc2:(B6 w c (.cells (arr.setIfInBounds (off+i) v) t (lo,hi))).heap[c]?=some (.cells (arr.setIfInBounds (off+i) v) t (lo,hi)):=by
   rw [C1,if_pos ⟨rfl,Dd hc⟩]
  have ih:=run_storeBlk P c off t lo hi vs (i+1) _ _ hc2 (by simp;omega) (fun j h1 h2=>hfz j (by omega) (by omega)) (fun u hu=>hone u (by simp [hu]))
  have he:storeCells ⟨c,off,none⟩ (v::vs) i=(do store ((⟨c,off,none⟩:Addr).add i) v;storeCells ⟨c,off,none⟩ vs (i+1)):=by rw [storeCells]
  rw [he,Sem.run_bind,Gp,hst,Result.andThen_ok,ih,setBlk_setBlk]
  congr 3
  have:off+(i+1)=off+i+1:=by omega
  rw [this]
  exact arrPut_cons (by omega)
theorem isCtr_some {n:Nat} {o:AO} (hh:isCtr n o=true):o=.ctr n:=by
 cases o<;>first|(cases hh;done)|skip
 rename_i m
 have:=Cf (show Nat.beq m n=true from hh)
 rw [this]
theorem rd_some {b:Nat} {c:List AV} (hr:h.rd b=some c):∃ t k,h.m.get b=.cells c t k/\validK h.m.get k:=by
 have hr':rdO (h.m.get b) h=some c:=hr
 cases ho:h.m.get b with
 |cells l t k=>
  rw [ho] at hr'
  have hk:rdK k l h=some c:=hr'
  cases k with
  |old cl st=>
   have:rdOld cl st l h=some c:=hk
   unfold rdOld at this
   cases hq:isCtr st (h.m.get cl) with
   |false=>rw [hq] at this;cases this
   |true=>rw [hq] at this;cases this;exact ⟨t,_,rfl,isCtr_some hq⟩
  |exact=>cases hk;exact ⟨t,_,rfl,trivial⟩
  |fz cl=>cases hk;exact ⟨t,_,rfl,trivial⟩
  |Fz cl=>cases hk;exact ⟨t,_,rfl,trivial⟩
 |_=>rw [ho] at hr';cases hr'
theorem blk_of_rd {b:Nat} {c:List AV} {e:SE} (hr:h.rd b=some c) (hb:Gb G σ h.m.get e w (h.m.get b)):
 ∃ (arr:Array Value) (t:TypeId) (fz:Nat × Nat),w.heap[e.c]?=some (.cells arr t fz)/\arr.size=e.N/\c.length<=e.N/\∀ (i:Nat) (x:AV) (y:Value),c[i]?=some x->arr[i]?=some y->Aq σ x y:=by
 obtain ⟨t,k,ho,hv⟩:=rd_some hr
 rw [ho] at hb
 obtain ⟨arr,lo,hi,h1,h2,h3,h4,_⟩:=hb.2 hv
 exact ⟨arr,t,(lo,hi),h1,h2,h3,h4⟩
theorem cell_blk {c i:Nat} {arr:Array Value} {t:TypeId} {fz:Nat × Nat} (hc:w.heap[c]?=some (.cells arr t fz)):w.cell? ⟨c,i,none⟩=arr[i]?:=by
 simp [World.cell?,hc]
theorem run_loadBlk {c off n:Nat} {arr:Array Value} {t:TypeId} {fz:Nat × Nat} (hc:w.heap[c]?=some (.cells arr t fz)) (hle:off+n<=arr.size):
 (loadCells ⟨c,off,none⟩ n).run P w=.ok (((arr.toList.drop off).take n).toArray) w:=by
 have hl:((arr.toList.drop off).take n).length=n:=by simp;omega
 have:=run_loadCells_list (P:=P) w ⟨c,off,none⟩ ((arr.toList.drop off).take n) (fun j v hj=>by
  rw [Gp,cell_blk hc]
  rw [List.getElem?_take] at hj
  split at hj
  . rw [List.getElem?_drop] at hj;simpa using hj
  . cases hj)
 rw [hl] at this
 exact this
theorem cut_rel {c:List AV} {arr:Array Value} {off n:Nat} {r:List AV} (hcut:lcut c off n=some r) (hr:∀ (i:Nat) (x:AV) (y:Value),c[i]?=some x->arr[i]?=some y->Aq σ x y) (hle:c.length<=arr.size):
 Bd σ r ((arr.toList.drop off).take n):=by
 obtain ⟨h1,rfl,h2⟩:=lcut_some hcut
 refine ⟨by rw [h2];simp;omega,fun i x y hx hy=>?_⟩
 rw [List.getElem?_take] at hx hy
 split at hx
 . rename_i hlt
   rw [if_pos hlt] at hy
   rw [List.getElem?_drop] at hx hy
   exact hr _ x y hx (by simpa using hy)
 . cases hx
theorem ldAt_run {t:TypeId} {c:List AV} {off:Nat} {e:SE} {arr:Array Value} {ty:TypeId} {fz:Nat × Nat} (hp:partI (Fh P t) c off=some v) (hc:w.heap[e.c]?=some (.cells arr ty fz))
 (hle:c.length<=arr.size) (hr:∀ (i:Nat) (x:AV) (y:Value),c[i]?=some x->arr[i]?=some y->Aq σ x y):
 ∃ v',(loadVar t ⟨e.c,off,none⟩).run P w=.ok v' w/\Aq σ v v':=by
 unfold partI at hp
 split at hp
 . rename_i hl
   rw [lget_eq] at hp
   have hi:=(List.getElem?_eq_some_iff.1 hp).1
   have hy:arr[off]?=some arr[off]:=Array.getElem?_eq_getElem (by omega)
   refine ⟨arr[off],?_,hr off v _ hp hy⟩
   simp only [loadVar,Sem.run_bind,run_isAgg_one hl,Result.andThen_ok,Bool.false_eq_true,if_false,run_load,cell_blk hc,hy]
 . rename_i n hl
   cases hcut:lcut c off n with
   |none=>simp [hcut] at hp
   |some r=>
    simp [hcut] at hp
    subst hp
    have:=cut_rel hcut hr hle
    refine ⟨.agg ((arr.toList.drop off).take n).toArray,?_,.agg _ _ this.1 this.2⟩
    obtain ⟨h1,_,_⟩:=lcut_some hcut
    simp only [loadVar,Sem.run_bind,(run_isAgg_many hl w).1,(run_isAgg_many hl w).2,Result.andThen_ok,if_true,run_loadBlk hc (show off+n<=arr.size by omega),Sem.run_pure]
 . cases hp
theorem good_load {dst:Option Tmp} {ty:TypeId} {pos:String} {af:Array Edge} {gd:Option (Nat × Bool)} (t:TypeId) (x:Operand) {ctx:Ae}
 (he:opD (.load t x) ty P ctx f h=.ok v h') (C2:Ej G x=true) (hf:FRel σ nt f a) (hg:GOk G σ)
 (hm:∀ b off e,ev x f=.ptr b off->σ b=some e->Gb G σ h.m.get e w (h.m.get b)):
 ∃ v',Ran P (execOp a.eval ⟨dst,.load t x,ty,pos,af,gd⟩) w v' w/\Aq σ v v'/\h'=h:=by
 have hx:=Ce hf hg x C2
 have he':ldV (ev x f) (Fh P t) h=.ok v h':=he
 generalize ev x f=u at *
 generalize hy:a.eval x=y at *
 cases hx<;>first|(cases he';done)|skip
 rename_i b off e hs
 have he2:ldC (h.rd b) (Fh P t) off h=.ok v h':=he'
 cases hrd:h.rd b with
 |none=>rw [hrd] at he2;cases he2
 |some c=>
  rw [hrd] at he2
  obtain ⟨arr,tt,fz,h1,h2,h3,h4⟩:=blk_of_rd hrd (hm b off e rfl hs)
  have key:partI (Fh P t) c off=some v/\h'=h:=by
   have he3:ldL (Fh P t) c off h=.ok v h':=he2
   cases hl:Fh P t with
   |none=>rw [hl] at he3;cases he3
   |some i=>
    rw [hl] at he3
    cases i with
    |none=>obtain ⟨g1,g2⟩:=res1_ok (show res1 (lget c off) h=.ok v h' from he3);exact ⟨g1,g2⟩
    |some n=>
     obtain ⟨cs,g1,rfl,g2⟩:=resAgg_ok (show resAgg (lcut c off n) h=.ok v h' from he3)
     exact ⟨by simp [partI,g1],g2⟩
  obtain ⟨hp,rfl⟩:=key
  obtain ⟨v',hr,hv⟩:=ldAt_run (P:=P) (e:=e) hp h1 (by omega) h4
  refine ⟨v',.inl ?_,hv,rfl⟩
  simp [execOp,hy,Instr.loadAt,Instr.sureAddr,hr]
end Go.Ev
namespace Go.Ev
variable [Lim]
variable {P:Program} {G:Nat} {σ:Dj} {h h':H} {w:World} {v:AV} {nt:Nat} {f:L2} {a:Act}
theorem put_get (h:H) (b:Nat) (o:AO) (hb:b<Bh) (j:Nat) (hj:j<Bh):(h.put b o).m.get j=if j=b then o else h.m.get j:=KM.C9 h.m b j o hb hj
theorem new_get (h:H) (o:AO) (hb:h.nx<Bh) (j:Nat) (hj:j<Bh):(h.new o).m.get j=if j=h.nx then o else h.m.get j:=KM.C9 h.m h.nx j o hb hj
theorem live_lt (hi:AInv h) {b:Nat} (hb:b<Bh) (hn:h.m.get b≠.none):b<h.nx:=by
 rcases Nat.lt_or_ge b h.nx with h1|h1
 . exact h1
 . exact absurd (hi.bound b h1 hb) hn
theorem put_self_step {b:Nat} {e:SE} {o o':AO} {ob:Obj} (hi:AInv h) (hs:SOk σ w) (hm:MAll G σ h.m.get w) (hb:σ b=some e) (ho:h.m.get b=o) (hne:o≠.none) (hnc:∀ n,o≠.ctr n)
 (hc:D9 o=none) (hc':D9 o'=none) (hk:e.k=none) (hnc':∀ n,o'≠.ctr n) (hr:Gb G σ (h.put b o').m.get e (B6 w e.c ob) o'):
 Out G σ h w σ (h.put b o') (B6 w e.c ob):=by
 have hbl:=hs.low b e hb
 have hbn:=live_lt hi hbl (by rw [ho];exact hne)
 have hg:=fun j hj=>put_get h b o' hbl j hj
 have htip:tipOf o'=none:=by
  cases o' with
  |cells l t k=>cases k<;>first|rfl|(cases hc';done)
  |_=>rfl
 have hcell:∀ l t k st,o'≠.cells l t (.old k st):=by rintro l t k st rfl;cases hc'
 refine ⟨[b],⟨rfl,Nat.le_refl _,?_,?_,?_,?_,?_,⟨hi.top,?_,?_,?_,?_,?_⟩,fun x hx _ _=>by rw [List.mem_singleton] at hx;subst hx;rw [ho];exact hne⟩,⟨Sle.refl σ,?_,?_,?_,?_,?_,⟨rfl,rfl⟩⟩,?_⟩
 . intro x hx;rw [List.mem_singleton] at hx;subst hx;exact hbn
 . intro x h1 h2 h3
   rw [hg x h1,if_neg (fun e=>h3 (by simp [e]))]
 . intro x hx k h1 h2
   rw [List.mem_singleton] at hx
   subst hx
   rw [ho,hc] at h2
   cases h2
 . intro x k h1 h2;exact absurd h2 (by show ¬ x<h.nx;omega)
 . intro x k h1 h2 h3
   rw [hg x h2] at h3
   split at h3
   . rw [hc'] at h3;cases h3
   . exact h3
 . intro x h1 h2
   rw [hg x h2,if_neg (by have:h.nx<=x:=h1;omega)]
   exact hi.bound x h1 h2
 . intro x k h1 h2
   rw [hg x h1] at h2
   split at h2
   . rw [hc'] at h2;cases h2
   . obtain ⟨h3,n,h4⟩:=hi.cls x k h1 h2
     refine ⟨h3,n,?_⟩
     have hkl:k<Bh:=by have:=hi.top;omega
     rw [hg k hkl,if_neg (fun e=>by subst e;rw [ho] at h4;exact hnc n h4)]
     exact h4
 . intro x y k h1 h2 h3 h4
   rw [hg x h1] at h3
   rw [hg y h2] at h4
   split at h3
   . rw [htip] at h3;cases h3
   . split at h4
     . rw [htip] at h4;cases h4
     . exact hi.Fz x y k h1 h2 h3 h4
 . intro x l t k st n h1 h2 h3
   rw [hg x h1] at h2
   split at h2
   . exact absurd h2 (hcell _ _ _ _)
   . obtain ⟨h5,n',h6⟩:=hi.cls x k h1 (by rw [h2];rfl)
     have hkl:k<Bh:=by have:=hi.top;omega
     rw [hg k hkl] at h3
     split at h3
     . exact absurd h3 (hnc' n)
     . exact hi.stamp x l t k st n h1 h2 h3
 . intro x y l t k st l2 t2 h1 h2 h3 h4
   rw [hg x h1] at h3
   rw [hg y h2] at h4
   split at h3
   . exact absurd h3 (hcell _ _ _ _)
   . split at h4
     . rw [h4] at htip;cases htip
     . exact hi.len x y l t k st l2 t2 h1 h2 h3 h4
 . intro x e' h1 h2;rw [h1] at h2;cases h2
 . exact ⟨hs.inj,fun x e' hx=>by rw [size_setBlk];exact hs.rng x e' hx,hs.low⟩
 . rw [size_setBlk];exact Nat.le_refl _
 . intro c h1 h2
   rw [C1,if_neg]
   rintro ⟨rfl,_⟩
   exact h2 b (by simp) e hb rfl
 . intro x e' h1 h2;rw [h1] at h2;cases h2
 . intro x e' hx
   have hxl:=hs.low x e' hx
   rw [hg x hxl]
   by_cases hxb:x=b
   . subst hxb
     rw [if_pos rfl]
     rw [hb] at hx
     cases hx
     exact hr
   . rw [if_neg hxb]
     have hce:e'.c≠e.c:=by
      intro hce
      rcases hs.inj x b e' e hx hb hce with h1|⟨h1,h2⟩
      . exact hxb h1
      . rw [h1,hk] at h2;exact h2 rfl
     refine Gb.congr (Sle.refl σ) (by rw [C1,if_neg (fun hh=>hce hh.1)]) ?_ (hm x e' hx)
     intro l t k st hl hv
     have hkl:k<Bh:=by have:=(hi.cls x k hxl (by rw [hl];rfl)).1;have:=hi.top;omega
     rw [hg k hkl] at hv
     split at hv
     . exact absurd hv (hnc' st)
     . exact hv
theorem lput_rel {c c' vs:List AV} {off:Nat} {arr:Array Value} {vs':List Value} (hput:lput c vs off=some c') (hle:c.length<=arr.size) (hv:Bd σ vs vs')
 (hr:∀ (i:Nat) (x:AV) (y:Value),c[i]?=some x->arr[i]?=some y->Aq σ x y):∀ (i:Nat) (x:AV) (y:Value),c'[i]?=some x->(arrPut arr off vs')[i]?=some y->Aq σ x y:=by
 intro i x y hx hy
 obtain ⟨h1,_⟩:=lput_some hput
 have h2:=hv.1
 rw [lput_get hput] at hx
 rw [arrPut_get (by omega)] at hy
 by_cases hj:off<=i/\i<off+vs.length
 . rw [if_pos hj] at hx
   rw [if_pos (by omega)] at hy
   exact hv.2 _ x y hx hy
 . rw [if_neg hj] at hx
   rw [if_neg (by omega)] at hy
   exact hr i x y hx hy
theorem wr_cases {b off:Nat} {vs:List AV} (hw:h.wr b off vs=.ok h'):
 (∃ c t c',h.m.get b=.cells c t .exact/\lput c vs off=some c'/\h'=h.put b (.cells c' t .exact)) \/
 (∃ c t k n c',h.m.get b=.cells c t (.Fz k)/\h.m.get k=.ctr n/\lput c vs off=some c'/\h'=(h.put b (.cells c' t (.Fz k))).put k (.ctr (n+1))):=by
 have hw':wrO (h.m.get b) b off vs h=.ok h':=hw
 cases ho:h.m.get b with
 |cells c t k=>
  rw [ho] at hw'
  have hk:wrK k c t b off vs h=.ok h':=hw'
  cases k with
  |exact=>
   have hk':wrL (lput c vs off) b t h=.ok h':=hk
   cases hp:lput c vs off with
   |none=>rw [hp] at hk';cases hk'
   |some c'=>rw [hp] at hk';cases hk';exact .inl ⟨c,t,c',rfl,hp,rfl⟩
  |Fz cl=>
   have hk':wrT (lput c vs off) (ctrN (h.m.get cl)) cl b t h=.ok h':=hk
   unfold wrT at hk'
   split at hk'
   . rename_i c' n hp hn
     cases hk'
     have:h.m.get cl=.ctr n:=by
      cases hq:h.m.get cl<;>rw [hq] at hn<;>cases hn
      rfl
     exact .inr ⟨c,t,cl,n,c',rfl,this,hp,rfl⟩
   . cases hk'
  |fz cl=>cases hk
  |old cl st=>cases hk
 |_=>rw [ho] at hw';cases hw'
theorem put_cls_step {b k n n':Nat} {e:SE} {l l':List AV} {t:TypeId} {kk:CK} {ob:Obj} (hi:AInv h) (hs:SOk σ w) (hm:MAll G σ h.m.get w) (hb:σ b=some e)
 (ho:h.m.get b=.cells l t (.Fz k)) (hkn:h.m.get k=.ctr n) (hkk:(kk=.Fz k/\n'=n+1)\/(kk=.fz k/\n'=n/\∀ x y,σ x=some y->y.c=e.c->x≠b->∀ l t st,h.m.get x=.cells l t (.old k st)->Gb G σ h.m.get y (B6 w e.c ob) (h.m.get x)))
 (hll:l'.length=l.length) (hr:Gb G σ ((h.put b (.cells l' t kk)).put k (.ctr n')).m.get e (B6 w e.c ob) (.cells l' t kk)):
 Out G σ h w σ ((h.put b (.cells l' t kk)).put k (.ctr n')) (B6 w e.c ob):=by
 have hbl:=hs.low b e hb
 have hbn:=live_lt hi hbl (by rw [ho];simp)
 obtain ⟨hkn1,_⟩:=hi.cls b k hbl (by rw [ho];rfl)
 have hkl:k<Bh:=by have:=hi.top;omega
 have hkb:k≠b:=by rintro rfl;rw [ho] at hkn;cases hkn
 have hcls:clsK kk=some k:=by rcases hkk with ⟨rfl,_⟩|⟨rfl,_⟩<;>rfl
 have htp:tipOf (.cells l' t kk)=some k:=by rcases hkk with ⟨rfl,_⟩|⟨rfl,_⟩<;>rfl
 have hno:∀ l2 t2 k2 st,AO.cells l' t kk≠.cells l2 t2 (.old k2 st):=by
  rintro l2 t2 k2 st hh
  rcases hkk with ⟨rfl,_⟩|⟨rfl,_⟩<;>cases hh
 have hnn:n<=n':=by rcases hkk with ⟨_,rfl⟩|⟨_,rfl,_⟩<;>omega
 have hek:e.k=some k:=by have:=hm b e hb;rw [ho] at this;exact this.1
 have hg:∀ j,j<Bh->((h.put b (.cells l' t kk)).put k (.ctr n')).m.get j=if j=k then .ctr n' else if j=b then .cells l' t kk else h.m.get j:=by
  intro j hj
  rw [put_get _ _ _ hkl j hj,put_get _ _ _ hbl j hj]
 generalize hh':(h.put b (.cells l' t kk)).put k (.ctr n')=h' at *
 have hnx:h'.nx=h.nx:=by rw [<- hh'];rfl
 have hlg:h'.lg=[k,b]++h.lg:=by rw [<- hh'];rfl
 refine ⟨[k,b],⟨hlg,by omega,?_,?_,?_,?_,?_,⟨by rw [hnx];exact hi.top,?_,?_,?_,?_,?_⟩,fun x hx _ _=>by simp at hx;rcases hx with rfl|rfl;(rw [hkn];simp);(rw [ho];simp)⟩,⟨Sle.refl σ,?_,?_,?_,?_,?_,⟨rfl,rfl⟩⟩,?_⟩
 . intro x hx
   simp at hx
   rcases hx with rfl|rfl<;>omega
 . intro x h1 h2 h3
   simp at h3
   rw [hg x h1,if_neg h3.1,if_neg h3.2]
 . intro x hx k2 h1 h2
   simp at hx
   rcases hx with rfl|rfl
   . rw [hkn] at h2;cases h2
   . rw [ho] at h2
     cases h2
     simp
 . intro x k2 h1 h2;omega
 . intro x k2 h1 h2 h3
   rw [hg x h2] at h3
   split at h3
   . cases h3
   . split at h3
     . rename_i _ hxb
       subst hxb
       rw [ho]
       rw [show D9 (.cells l' t kk)=clsK kk from rfl,hcls] at h3
       exact h3
     . exact h3
 . intro x h1 h2
   rw [hg x h2,if_neg (by omega),if_neg (by omega)]
   exact hi.bound x (by omega) h2
 . intro x k2 h1 h2
   rw [hg x h1] at h2
   have key:k2=k\/D9 (h.m.get x)=some k2:=by
    split at h2
    . cases h2
    . split at h2
      . rw [show D9 (.cells l' t kk)=clsK kk from rfl,hcls] at h2
        cases h2
        exact .inl rfl
      . exact .inr h2
   rcases key with rfl|h3
   . exact ⟨by omega,n',by rw [hg _ hkl,if_pos rfl]⟩
   . obtain ⟨g1,m,g2⟩:=hi.cls x k2 h1 h3
     refine ⟨by omega,?_⟩
     rw [hg k2 (by have:=hi.top;omega)]
     by_cases hq:k2=k
     . exact ⟨n',by rw [if_pos hq]⟩
     . rw [if_neg hq,if_neg (fun e=>by subst e;rw [ho] at g2;cases g2)]
       exact ⟨m,g2⟩
 . intro x y k2 h1 h2 h3 h4
   rw [hg x h1] at h3
   rw [hg y h2] at h4
   have tr:∀ z,tipOf (if z=k then .ctr n' else if z=b then .cells l' t kk else h.m.get z)=some k2->tipOf (h.m.get z)=some k2:=by
    intro z hz
    split at hz
    . cases hz
    . split at hz
      . rename_i _ hzb
        subst hzb
        rw [htp] at hz
        rw [ho]
        exact hz
      . exact hz
   exact hi.Fz x y k2 h1 h2 (tr x h3) (tr y h4)
 . intro x l2 t2 k2 st m h1 h2 h3
   rw [hg x h1] at h2
   split at h2
   . cases h2
   . split at h2
     . exact absurd h2 (hno _ _ _ _)
     . obtain ⟨g1,m2,g2⟩:=hi.cls x k2 h1 (by rw [h2];rfl)
       rw [hg k2 (by have:=hi.top;omega)] at h3
       split at h3
       . rename_i hq
         subst hq
         cases h3
         have:=hi.stamp x l2 t2 k2 st n h1 h2 hkn
         omega
       . split at h3
         . cases h3
         . exact hi.stamp x l2 t2 k2 st m h1 h2 h3
 . intro x y l2 t2 k2 st l3 t3 h1 h2 h3 h4
   rw [hg x h1] at h3
   rw [hg y h2] at h4
   split at h3
   . cases h3
   . split at h3
     . exact absurd h3 (hno _ _ _ _)
     . split at h4
       . cases h4
       . split at h4
         . rename_i _ hyb
           subst hyb
           cases h4
           have:k2=k:=by have:=htp;simp [tipOf] at this;exact this
           subst this
           rw [hll]
           exact hi.len x _ l2 t2 _ st l _ h1 h2 h3 ho
         . exact hi.len x y l2 t2 k2 st l3 t3 h1 h2 h3 h4
 . intro x e' h1 h2;rw [h1] at h2;cases h2
 . exact ⟨hs.inj,fun x e' hx=>by rw [size_setBlk];exact hs.rng x e' hx,hs.low⟩
 . rw [size_setBlk];exact Nat.le_refl _
 . intro c h1 h2
   rw [C1,if_neg]
   rintro ⟨rfl,_⟩
   exact h2 b (by simp) e hb rfl
 . intro x e' h1 h2;rw [h1] at h2;cases h2
 . intro x e' hx
   have hxl:=hs.low x e' hx
   rw [hg x hxl]
   by_cases hxk:x=k
   . rw [if_pos hxk];subst hxk;have hbk:=hm _ _ hx;rw [hkn] at hbk;exact hbk
   rw [if_neg hxk]
   by_cases hxb:x=b
   . subst hxb
     rw [if_pos rfl]
     rw [hb] at hx
     cases hx
     exact hr
   . rw [if_neg hxb]
     have hval:∀ l2 t2 k2 st,h.m.get x=.cells l2 t2 (.old k2 st)->h'.m.get k2=.ctr st->h.m.get k2=.ctr st:=by
      intro l2 t2 k2 st hl hv
      have hk2:k2<Bh:=by have:=(hi.cls x k2 hxl (by rw [hl];rfl)).1;have:=hi.top;omega
      rw [hg k2 hk2] at hv
      split at hv
      . rename_i hq
        subst hq
        cases hv
        have:=hi.stamp x l2 t2 k2 n' n hxl hl hkn
        have:n'=n:=by omega
        rw [this];exact hkn
      . split at hv
        . cases hv
        . exact hv
     by_cases hce:e'.c=e.c
     . rcases hs.inj x b e' e hx hb hce with h1|⟨h1,h2⟩
       . exact absurd h1 hxb
       . have hbr:=hm x e' hx
         cases hxo:h.m.get x with
         |none=>trivial
         |ctr m=>rw [hxo] at hbr;have h9:e'.k=none:=hbr;rw [h1,hek] at h9;cases h9
         |map es=>rw [hxo] at hbr;have h9:=hbr.1;rw [h1,hek] at h9;cases h9
         |loop a1 a2 a3 a4 a5 a6=>rw [hxo] at hbr;have h9:=hbr.1;rw [h1,hek] at h9;cases h9
         |dfr tk=>rw [hxo] at hbr;have h9:=hbr.1;rw [h1,hek] at h9;cases h9
         |cells l2 t2 k2=>
          rw [hxo] at hbr
          have hk2:clsK k2=some k:=by rw [<- hbr.1,h1,hek]
          cases k2 with
          |exact=>cases hk2
          |Fz kx=>cases hk2;exact absurd (hi.Fz x b k hxl hbl (by rw [hxo];rfl) (by rw [ho];rfl)) hxb
          |fz kx=>cases hk2;exact absurd (hi.Fz x b k hxl hbl (by rw [hxo];rfl) (by rw [ho];rfl)) hxb
          |old kx st=>
           cases hk2
           rcases hkk with ⟨_,rfl⟩|⟨_,rfl,hfz⟩
           . refine ⟨hbr.1,fun hv=>?_⟩
             have hv':h'.m.get k=.ctr st:=hv
             rw [hg k hkl,if_pos rfl] at hv'
             cases hv'
             have:=hi.stamp x l2 t2 k (n+1) n hxl hxo hkn
             omega
           . have:=hfz x e' hx hce hxb l2 t2 st hxo
             rw [hxo] at this
             exact Gb.congr (Sle.refl σ) rfl (fun a1 a2 a3 a4 e5 e6=>hval a1 a2 a3 a4 (by rw [hxo];exact e5) e6) this
     . refine Gb.congr (Sle.refl σ) (by rw [C1,if_neg (fun hh=>hce hh.1)]) (fun a1 a2 a3 a4 e5 e6=>hval a1 a2 a3 a4 e5 e6) (hm x e' hx)
theorem wr_step {b off:Nat} {vs:List AV} {vs':List Value} {e:SE} (hw:h.wr b off vs=.ok h') (hi:AInv h) (hs:SOk σ w) (hm:MAll G σ h.m.get w) (hb:σ b=some e) (hv:Bd σ vs vs')
 (hone:∀ u∈vs',u.oneCell'=true):
 ∃ w',(storeCells ⟨e.c,off,none⟩ vs').run P w=.ok () w'/\Out G σ h w σ h' w':=by
 have hl:=hv.1
 rcases wr_cases hw with ⟨c,t,c',ho,hp,rfl⟩|⟨c,t,k,n,c',ho,hk,hp,rfl⟩
 . have hbr:=hm b e hb
   rw [ho] at hbr
   obtain ⟨arr,lo,hi',h1,h2,h3,h4,h5,h6⟩:=hbr.2 trivial
   obtain ⟨g1,_⟩:=lput_some hp
   have hlen:=h5 rfl
   have hsz:off+vs'.length<=arr.size:=by omega
   refine ⟨_,run_storeBlk P e.c off t lo hi' vs' 0 arr w h1 (by simpa using hsz) (fun j j1 j2=>h6 trivial j (by omega)) hone,?_⟩
   refine put_self_step hi hs hm hb ho (by simp) (by simp) rfl rfl hbr.1 (by simp) ?_
   refine ⟨hbr.1,fun _=>⟨arrPut arr (off+0) vs',lo,hi',?_,?_,?_,?_,?_,?_⟩⟩
   . rw [C1,if_pos ⟨rfl,Dd h1⟩]
   . rw [arrPut_size (by simpa using hsz)];exact h2
   . rw [lput_length hp];exact h3
   . simp only [Nat.add_zero];exact lput_rel hp (by omega) hv h4
   . intro _;rw [lput_length hp];exact hlen
   . exact h6
 . have hbr:=hm b e hb
   rw [ho] at hbr
   obtain ⟨arr,lo,hi',h1,h2,h3,h4,h5,h6⟩:=hbr.2 trivial
   obtain ⟨g1,_⟩:=lput_some hp
   have hsz:off+vs'.length<=arr.size:=by omega
   refine ⟨_,run_storeBlk P e.c off t lo hi' vs' 0 arr w h1 (by simpa using hsz) (fun j j1 j2=>h6 trivial j (by omega)) hone,?_⟩
   refine put_cls_step hi hs hm hb ho hk (.inl ⟨rfl,rfl⟩) (lput_length hp) ?_
   refine ⟨hbr.1,fun _=>⟨arrPut arr (off+0) vs',lo,hi',?_,?_,?_,?_,?_,?_⟩⟩
   . rw [C1,if_pos ⟨rfl,Dd h1⟩]
   . rw [arrPut_size (by simpa using hsz)];exact h2
   . rw [lput_length hp];exact h3
   . simp only [Nat.add_zero];exact lput_rel hp (by omega) hv h4
   . intro hh;cases hh
   . exact h6
end Go.Ev
namespace Go.Ev
variable [Lim]
variable {P:Program} {G:Nat} {σ:Dj} {h h':H} {w:World} {v:AV} {nt:Nat} {f:L2} {a:Act}
def Gd (σ:Dj) (b:Nat) (e:SE):Dj:=fun x=>if x=b then some e else σ x
theorem upd_le {b:Nat} {e:SE} (hb:σ b=none):Sle σ (Gd σ b e):=by
 intro x e' hx
 unfold Gd
 rw [if_neg (fun hh=>by subst hh;rw [hb] at hx;cases hx)]
 exact hx
theorem heap_push (w:World) (o:Obj) (j:Nat) (hj:j<w.heap.size):(C5 w o).heap[j]?=w.heap[j]?:=by
 show (w.heap.push o)[j]?=_
 rw [Array.getElem?_push,if_neg (Nat.ne_of_lt hj)]
theorem Fp (w:World) (o:Obj):(C5 w o).heap[w.heap.size]?=some o:=by
 show (w.heap.push o)[w.heap.size]?=_
 rw [Array.getElem?_push,if_pos rfl]
theorem size_push (w:World) (o:Obj):(C5 w o).heap.size=w.heap.size+1:=by
 show (w.heap.push o).size=_
 rw [Array.size_push]
theorem SOk.push {b:Nat} {e:SE} (hs:SOk σ w) (ob:Obj) (hb:b<Bh) (he:e.c=w.heap.size):SOk (Gd σ b e) (C5 w ob):=by
 refine ⟨?_,?_,?_⟩
 . intro x y e1 e2 h1 h2 h3
   unfold Gd at h1 h2
   split at h1
   . cases h1
     split at h2
     . left;omega
     . have:=hs.rng y e2 h2;omega
   . split at h2
     . cases h2;have:=hs.rng x e1 h1;omega
     . exact hs.inj x y e1 e2 h1 h2 h3
 . intro x e1 h1
   rw [size_push]
   unfold Gd at h1
   split at h1
   . cases h1;omega
   . have:=hs.rng x e1 h1;omega
 . intro x e1 h1
   unfold Gd at h1
   split at h1
   . omega
   . exact hs.low x e1 h1
theorem new_step {o:AO} {ob:Obj} {e:SE} (hi:AInv h) (hs:SOk σ w) (hm:MAll G σ h.m.get w) (hl:h.nx<Bh) (hf:σ h.nx=none) (hc:D9 o=none) (he:e.c=w.heap.size)
 (hr:Gb G (Gd σ h.nx e) (h.new o).m.get e (C5 w ob) o):Out G σ h w (Gd σ h.nx e) (h.new o) (C5 w ob):=by
 have hg:=fun j hj=>new_get h o hl j hj
 have htip:tipOf o=none:=by
  cases o with
  |cells l t k=>cases k<;>first|rfl|(cases hc;done)
  |_=>rfl
 have hcell:∀ l t k st,o≠.cells l t (.old k st):=by rintro l t k st rfl;cases hc
 have hnx:(h.new o).nx=h.nx+1:=rfl
 have hcls:∀ x k,x<Bh->D9 (h.m.get x)=some k->k<h.nx/\k≠h.nx/\k<Bh:=by
  intro x k h1 h2
  have:=(hi.cls x k h1 h2).1
  omega
 refine ⟨[],⟨rfl,by omega,fun b hb=>(by cases hb),?_,fun b hb=>(by cases hb),?_,?_,⟨by omega,?_,?_,?_,?_,?_⟩,fun b hb=>(by cases hb)⟩,⟨upd_le hf,?_,hs.push ob hl he,?_,?_,?_,⟨rfl,rfl⟩⟩,?_⟩
 . intro x h1 h2 _;rw [hg x h1,if_neg (by omega)]
 . intro x k h1 h2 h3 h4
   have:x=h.nx:=by omega
   subst this
   rw [hg _ h3,if_pos rfl,hc] at h4
   cases h4
 . intro x k h1 h2 h3
   rw [hg x h2,if_neg (by omega)] at h3
   exact h3
 . intro x h1 h2
   rw [hg x h2,if_neg (by omega)]
   exact hi.bound x (by omega) h2
 . intro x k h1 h2
   rw [hg x h1] at h2
   split at h2
   . rw [hc] at h2;cases h2
   . obtain ⟨h3,n,h4⟩:=hi.cls x k h1 h2
     refine ⟨by omega,n,?_⟩
     rw [hg k (by omega),if_neg (by omega)]
     exact h4
 . intro x y k h1 h2 h3 h4
   rw [hg x h1] at h3
   rw [hg y h2] at h4
   split at h3
   . rw [htip] at h3;cases h3
   . split at h4
     . rw [htip] at h4;cases h4
     . exact hi.Fz x y k h1 h2 h3 h4
 . intro x l t k st n h1 h2 h3
   rw [hg x h1] at h2
   split at h2
   . exact absurd h2 (hcell _ _ _ _)
   . have:=hcls x k h1 (by rw [h2];rfl)
     rw [hg k this.2.2,if_neg this.2.1] at h3
     exact hi.stamp x l t k st n h1 h2 h3
 . intro x y l t k st l2 t2 h1 h2 h3 h4
   rw [hg x h1] at h3
   rw [hg y h2] at h4
   split at h3
   . exact absurd h3 (hcell _ _ _ _)
   . split at h4
     . rw [h4] at htip;cases htip
     . exact hi.len x y l t k st l2 t2 h1 h2 h3 h4
 . intro x e' h1 h2
   unfold Gd at h2
   split at h2
   . omega
   . rw [h1] at h2;cases h2
 . rw [size_push];omega
 . intro c h1 _;exact heap_push w ob c h1
 . intro x e' h1 h2
   unfold Gd at h2
   split at h2
   . cases h2;left;omega
   . rw [h1] at h2;cases h2
 . intro x e' hx
   unfold Gd at hx
   split at hx
   . rename_i hxn
     cases hx
     subst hxn
     rw [hg _ hl,if_pos rfl]
     exact hr
   . rename_i hxn
     have hxl:=hs.low x e' hx
     rw [hg x hxl,if_neg hxn]
     refine Gb.congr (upd_le hf) (heap_push w ob _ (hs.rng x e' hx)) ?_ (hm x e' hx)
     intro l t k st hl2 hv
     have:=hcls x k hxl (by rw [hl2];rfl)
     rw [hg k this.2.2,if_neg this.2.1] at hv
     exact hv
theorem Bd.cells_rel {cs:List AV} {cs':Array Value} (hc:Bd σ cs cs'.toList):∀ (i:Nat) (x:AV) (y:Value),cs[i]?=some x->cs'[i]?=some y->Aq σ x y:=
 fun i x y hx hy=>hc.2 i x y hx (by simpa using hy)
theorem new_cells_step {cs:List AV} {cs':Array Value} {t:TypeId} (hi:AInv h) (hs:SOk σ w) (hm:MAll G σ h.m.get w) (hl:h.nx<Bh) (hf:σ h.nx=none) (hc:Bd σ cs cs'.toList):
 Out G σ h w (Gd σ h.nx ⟨w.heap.size,cs.length,none⟩) (h.new (.cells cs t .exact)) (C5 w (.cells cs' t)):=by
 have hlen:cs.length=cs'.size:=by rw [hc.1];simp
 refine new_step hi hs hm hl hf rfl rfl ?_
 refine ⟨rfl,fun _=>⟨cs',0,0,Fp w _,by show cs'.size=cs.length;omega,Nat.le_refl _,fun i x y hx hy=>(hc.cells_rel i x y hx hy).mono (upd_le hf),fun _=>rfl,fun _ i _=>by omega⟩⟩
end Go.Ev
namespace Go.Ev
variable [Lim]
variable {P:Program} {G:Nat} {σ:Dj} {h h':H} {w w':World} {v:AV} {nt:Nat} {f:L2} {a:Act}
theorem grow_step {cs:List AV} {t:TypeId} {arr:Array Value} {fz:Nat × Nat} (hi:AInv h) (hs:SOk σ w) (hm:MAll G σ h.m.get w) (hl:h.nx+1<Bh) (hf0:σ h.nx=none) (hf:σ (h.nx+1)=none)
 (hle:cs.length<=arr.size) (hr:∀ (i:Nat) (x:AV) (y:Value),cs[i]?=some x->arr[i]?=some y->Aq σ x y) (hfz:∀ i,i<arr.size->¬ (fz.1<=i/\i<fz.2)):
 Out G σ h w (Gd σ (h.nx+1) ⟨w.heap.size,arr.size,some h.nx⟩) ((h.new (.ctr 0)).new (.cells cs t (.Fz h.nx))) (C5 w (.cells arr t fz)):=by
 have hg:∀ j,j<Bh->((h.new (.ctr 0)).new (.cells cs t (.Fz h.nx))).m.get j=if j=h.nx+1 then .cells cs t (.Fz h.nx) else if j=h.nx then .ctr 0 else h.m.get j:=by
  intro j hj
  rw [new_get _ _ (show (h.new (.ctr 0)).nx<Bh from hl) j hj,new_get _ _ (by omega) j hj]
  rfl
 generalize hh':(h.new (.ctr 0)).new (.cells cs t (.Fz h.nx))=h' at *
 have hnx:h'.nx=h.nx+2:=by rw [<- hh'];rfl
 have hlg:h'.lg=[]++h.lg:=by rw [<- hh'];rfl
 have hcls:∀ x k,x<Bh->D9 (h.m.get x)=some k->k<h.nx:=fun x k h1 h2=>(hi.cls x k h1 h2).1
 have hct:∀ x l t k st,x<Bh->h.m.get x=.cells l t (.old k st)->k<h.nx:=fun x l t k st h1 h2=>hcls x k h1 (by rw [h2];rfl)
 refine ⟨[],⟨hlg,by omega,fun b hb=>(by cases hb),?_,fun b hb=>(by cases hb),?_,?_,⟨by omega,?_,?_,?_,?_,?_⟩,fun b hb=>(by cases hb)⟩,⟨upd_le hf,?_,hs.push _ hl rfl,?_,?_,?_,⟨rfl,rfl⟩⟩,?_⟩
 . intro x h1 h2 _;rw [hg x h1,if_neg (by omega),if_neg (by omega)]
 . intro x k h1 h2 h3 h4
   rw [hg x h3] at h4
   split at h4
   . cases h4;exact .inr (Nat.le_refl _)
   . split at h4
     . cases h4
     . omega
 . intro x k h1 h2 h3
   rw [hg x h2,if_neg (by omega),if_neg (by omega)] at h3
   exact h3
 . intro x h1 h2
   rw [hg x h2,if_neg (by omega),if_neg (by omega)]
   exact hi.bound x (by omega) h2
 . intro x k h1 h2
   rw [hg x h1] at h2
   split at h2
   . cases h2
     exact ⟨by omega,0,by rw [hg _ (by omega),if_neg (by omega),if_pos rfl]⟩
   . split at h2
     . cases h2
     . obtain ⟨h3,n,h4⟩:=hi.cls x k h1 h2
       refine ⟨by omega,n,?_⟩
       rw [hg k (by omega),if_neg (by omega),if_neg (by omega)]
       exact h4
 . intro x y k h1 h2 h3 h4
   rw [hg x h1] at h3
   rw [hg y h2] at h4
   have old:∀ z,z<Bh->tipOf (h.m.get z)=some k->k<h.nx:=by
    intro z hz hzt
    refine hcls z k hz ?_
    cases hq:h.m.get z with
    |cells l2 t2 k2=>rw [hq] at hzt;cases k2<;>cases hzt<;>rfl
    |_=>rw [hq] at hzt;cases hzt
   split at h3
   . cases h3
     split at h4
     . omega
     . split at h4
       . cases h4
       . have:=old y h2 h4;omega
   . split at h3
     . cases h3
     . split at h4
       . cases h4;have:=old x h1 h3;omega
       . split at h4
         . cases h4
         . exact hi.Fz x y k h1 h2 h3 h4
 . intro x l2 t2 k st n h1 h2 h3
   rw [hg x h1] at h2
   split at h2
   . cases h2
   . split at h2
     . cases h2
     . have:=hct x l2 t2 k st h1 h2
       rw [hg k (by omega),if_neg (by omega),if_neg (by omega)] at h3
       exact hi.stamp x l2 t2 k st n h1 h2 h3
 . intro x y l2 t2 k st l3 t3 h1 h2 h3 h4
   rw [hg x h1] at h3
   rw [hg y h2] at h4
   split at h3
   . cases h3
   . split at h3
     . cases h3
     . have:=hct x l2 t2 k st h1 h3
       split at h4
       . cases h4;omega
       . split at h4
         . cases h4
         . exact hi.len x y l2 t2 k st l3 t3 h1 h2 h3 h4
 . intro x e' h1 h2
   unfold Gd at h2
   split at h2
   . omega
   . rw [h1] at h2;cases h2
 . rw [size_push];omega
 . intro c h1 _;exact heap_push w _ c h1
 . intro x e' h1 h2
   unfold Gd at h2
   split at h2
   . cases h2;left;exact Nat.le_refl _
   . rw [h1] at h2;cases h2
 . intro x e' hx
   unfold Gd at hx
   split at hx
   . rename_i hxn
     cases hx
     subst hxn
     rw [hg _ hl,if_pos rfl]
     exact ⟨rfl,fun _=>⟨arr,fz.1,fz.2,Fp w _,rfl,hle,fun i x y hx hy=>(hr i x y hx hy).mono (upd_le hf),fun hh=>(by cases hh),fun _ i hlt=>hfz i hlt⟩⟩
   . rename_i hxn
     have hxl:=hs.low x e' hx
     rw [hg x hxl,if_neg hxn]
     split
     . rename_i hxx;rw [hxx,hf0] at hx;cases hx
     . refine Gb.congr (upd_le hf) (heap_push w _ _ (hs.rng x e' hx)) ?_ (hm x e' hx)
       intro l2 t2 k st hl2 hv
       have:=hct x l2 t2 k st hxl hl2
       rw [hg k (by omega),if_neg (by omega),if_neg (by omega)] at hv
       exact hv
theorem ver_step {b k st:Nat} {e e':SE} {c cs:List AV} {t:TypeId} (hi:AInv h) (hs:SOk σ w) (hm:MAll G σ h.m.get w) (hb:σ b=some e) (ho:h.m.get b=.cells c t (.Fz k)) (hkn:h.m.get k=.ctr st)
 (hl:h.nx<Bh) (hf:σ h.nx=none) (hcs:c.length<=cs.length) (hek':e'.k=some k) (hs':SOk (Gd σ h.nx e') w') (hgrow:w.heap.size<=w'.heap.size) (hio:w'.os=w.os/\w'.output=w.output)
 (hframe:∀ j,j<w.heap.size->j≠e.c->w'.heap[j]?=w.heap[j]?) (hplace:w.heap.size<=e'.c\/e'.c=e.c)
 (hold:∃ (arr arr':Array Value) (fz:Nat × Nat),w.heap[e.c]?=some (.cells arr t fz)/\w'.heap[e.c]?=some (.cells arr' t fz)/\arr'.size=arr.size/\∀ i,i<c.length->arr'[i]?=arr[i]?)
 (hnew:Gb G (Gd σ h.nx e') (((h.put b (.cells c t (.old k st))).put k (.ctr st)).new (.cells cs t (.Fz k))).m.get e' w' (.cells cs t (.Fz k))):
 Out G σ h w (Gd σ h.nx e') (((h.put b (.cells c t (.old k st))).put k (.ctr st)).new (.cells cs t (.Fz k))) w':=by
 have hbl:=hs.low b e hb
 have hbn:=live_lt hi hbl (by rw [ho];simp)
 obtain ⟨hkn1,_⟩:=hi.cls b k hbl (by rw [ho];rfl)
 have hkl:k<Bh:=by omega
 have hkb:k≠b:=by rintro rfl;rw [ho] at hkn;cases hkn
 have hek:e.k=some k:=by have:=hm b e hb;rw [ho] at this;exact this.1
 have hg:∀ j,j<Bh->(((h.put b (.cells c t (.old k st))).put k (.ctr st)).new (.cells cs t (.Fz k))).m.get j=if j=h.nx then .cells cs t (.Fz k) else if j=b then .cells c t (.old k st) else h.m.get j:=by
  intro j hj
  rw [new_get _ _ (show ((h.put b (.cells c t (.old k st))).put k (.ctr st)).nx<Bh from hl) j hj,put_get _ _ _ hkl j hj,put_get _ _ _ hbl j hj]
  show (if j=h.nx then _ else _)=_
  by_cases hjk:j=k
  . subst hjk
    rw [if_neg (by omega),if_pos rfl,if_neg (by omega),if_neg hkb,hkn]
  . rw [if_neg hjk]
 generalize hh':(((h.put b (.cells c t (.old k st))).put k (.ctr st)).new (.cells cs t (.Fz k)))=h' at *
 have hnx:h'.nx=h.nx+1:=by rw [<- hh'];rfl
 have hlg:h'.lg=[k,b]++h.lg:=by rw [<- hh'];rfl
 have hct:∀ x l t k st,x<Bh->h.m.get x=.cells l t (.old k st)->k<h.nx:=fun x l t k st h1 h2=>(hi.cls x k h1 (by rw [h2];rfl)).1
 have hgk:∀ j,j<h.nx->j≠b->h'.m.get j=h.m.get j:=by
  intro j h1 h2
  rw [hg j (by omega),if_neg (by omega),if_neg h2]
 have hgk0:h'.m.get k=.ctr st:=by rw [hgk k hkn1 hkb];exact hkn
 have hctb:∀ k2 n,h.m.get k2=.ctr n->k2≠b:=by rintro k2 n h1 rfl;rw [ho] at h1;cases h1
 refine ⟨[k,b],⟨hlg,by omega,?_,?_,?_,?_,?_,⟨by omega,?_,?_,?_,?_,?_⟩,fun x hx _ _=>by simp at hx;rcases hx with rfl|rfl;(rw [hkn];simp);(rw [ho];simp)⟩,⟨upd_le hf,?_,hs',hgrow,?_,?_,hio⟩,?_⟩
 . intro x hx
   simp at hx
   rcases hx with rfl|rfl<;>omega
 . intro x h1 h2 h3
   simp at h3
   exact hgk x h2 h3.2
 . intro x hx k2 h1 h2
   simp at hx
   rcases hx with rfl|rfl
   . rw [hkn] at h2;cases h2
   . rw [ho] at h2;cases h2;simp
 . intro x k2 h1 h2 h3 h4
   have:x=h.nx:=by omega
   subst this
   rw [hg _ h3,if_pos rfl] at h4
   cases h4
   simp
 . intro x k2 h1 h2 h3
   rw [hg x h2,if_neg (by omega)] at h3
   split at h3
   . rename_i hxb;subst hxb;rw [ho];exact h3
   . exact h3
 . intro x h1 h2
   rw [hg x h2,if_neg (by omega),if_neg (by omega)]
   exact hi.bound x (by omega) h2
 . intro x k2 h1 h2
   rw [hg x h1] at h2
   have key:k2=k\/D9 (h.m.get x)=some k2:=by
    split at h2
    . cases h2;exact .inl rfl
    . split at h2
      . cases h2;exact .inl rfl
      . exact .inr h2
   rcases key with rfl|h3
   . exact ⟨by omega,st,hgk0⟩
   . obtain ⟨g1,n,g2⟩:=hi.cls x k2 h1 h3
     exact ⟨by omega,n,by rw [hgk k2 g1 (hctb k2 n g2)];exact g2⟩
 . intro x y k2 h1 h2 h3 h4
   rw [hg x h1] at h3
   rw [hg y h2] at h4
   have tr:∀ z,z<Bh->tipOf (if z=h.nx then .cells cs t (.Fz k) else if z=b then .cells c t (.old k st) else h.m.get z)=some k2->(z=h.nx/\k2=k)\/(z≠b/\tipOf (h.m.get z)=some k2):=by
    intro z hz hzt
    split at hzt
    . cases hzt;exact .inl ⟨by assumption,rfl⟩
    . split at hzt
      . cases hzt
      . exact .inr ⟨by assumption,hzt⟩
   have un:∀ z,z<Bh->z≠b->tipOf (h.m.get z)=some k->False:=fun z hz h5 h6=>h5 (hi.Fz z b k hz hbl h6 (by rw [ho];rfl))
   rcases tr x h1 h3 with ⟨q1,q2⟩|⟨q1,q2⟩<;>rcases tr y h2 h4 with ⟨r1,r2⟩|⟨r1,r2⟩
   . omega
   . subst q2;exact (un y h2 r1 r2).elim
   . subst r2;exact (un x h1 q1 q2).elim
   . exact hi.Fz x y k2 h1 h2 q2 r2
 . intro x l2 t2 k2 s2 n h1 h2 h3
   rw [hg x h1] at h2
   split at h2
   . cases h2
   . split at h2
     . cases h2;rw [hgk0] at h3;cases h3;exact Nat.le_refl _
     . have q:=hct x l2 t2 k2 s2 h1 h2
       obtain ⟨_,n0,q2⟩:=hi.cls x k2 h1 (by rw [h2];rfl)
       rw [hgk k2 q (hctb k2 n0 q2)] at h3
       exact hi.stamp x l2 t2 k2 s2 n h1 h2 h3
 . intro x y l2 t2 k2 s2 l3 t3 h1 h2 h3 h4
   rw [hg x h1] at h3
   rw [hg y h2] at h4
   split at h4
   . cases h4
     split at h3
     . cases h3
     . split at h3
       . cases h3;exact hcs
       . have:=hi.len x b l2 t2 k s2 c t h1 hbl h3 ho;omega
   . split at h4
     . cases h4
     . split at h3
       . cases h3
       . split at h3
         . cases h3
           rename_i q _ _
           exact absurd (hi.Fz y b k h2 hbl (by rw [h4];rfl) (by rw [ho];rfl)) q
         . exact hi.len x y l2 t2 k2 s2 l3 t3 h1 h2 h3 h4
 . intro x e1 h1 h2
   unfold Gd at h2
   split at h2
   . omega
   . rw [h1] at h2;cases h2
 . intro j h1 h2
   exact hframe j h1 (fun hh=>h2 b (by simp) e hb hh.symm)
 . intro x e1 h1 h2
   unfold Gd at h2
   split at h2
   . cases h2
     rcases hplace with h3|h3
     . exact .inl h3
     . exact .inr ⟨b,by simp,e,hb,h3.symm⟩
   . rw [h1] at h2;cases h2
 . intro x e1 hx
   unfold Gd at hx
   split at hx
   . rename_i hxn
     cases hx
     subst hxn
     rw [hg _ hl,if_pos rfl]
     exact hnew
   . rename_i hxn
     have hxl:=hs.low x e1 hx
     rw [hg x hxl,if_neg hxn]
     obtain ⟨arr,arr',fz,a1,a2,a3,a4⟩:=hold
     have keepOld:∀ (y:SE) (l2:List AV) (t2:TypeId) (k2:CK),y.c=e.c->l2.length<=c.length->(∀ q,k2≠.exact/\(wrK? k2->q))->Gb G σ h.m.get y w (.cells l2 t2 k2)->(validK h'.m.get k2->validK h.m.get k2)->Gb G (Gd σ h.nx e') h'.m.get y w' (.cells l2 t2 k2):=by
      intro y l2 t2 k2 hy hlen hkk hbr hval
      refine ⟨hbr.1,fun hv=>?_⟩
      obtain ⟨ar,lo,hi2,c1,c2,c3,c4,c5,c6⟩:=hbr.2 (hval hv)
      rw [hy,a1] at c1
      cases c1
      refine ⟨arr',lo,hi2,by rw [hy];exact a2,by omega,c3,?_,fun hh=>absurd hh (hkk False).1,fun hh=>((hkk False).2 hh).elim⟩
      intro i u z hu hz
      have hlt:=(List.getElem?_eq_some_iff.1 hu).1
      rw [a4 i (by omega)] at hz
      exact (c4 i u z hu hz).mono (upd_le hf)
     by_cases hxb:x=b
     . subst hxb
       rw [if_pos rfl]
       rw [hb] at hx
       cases hx
       have hbr:=hm x e hb
       rw [ho] at hbr
       have hbr2:Gb G σ h.m.get e w (.cells c t (.old k st)):=by
        obtain ⟨ar,lo,hi2,c1,c2,c3,c4,c5,c6⟩:=hbr.2 trivial
        exact ⟨hbr.1,fun _=>⟨ar,lo,hi2,c1,c2,c3,c4,fun hh=>(by cases hh),fun hh=>hh.elim⟩⟩
       exact keepOld e c t _ rfl (Nat.le_refl _) (fun q=>⟨by simp,fun hh=>hh.elim⟩) hbr2 (fun _=>hkn)
     . rw [if_neg hxb]
       have hval:∀ l2 t2 k2 s2,h.m.get x=.cells l2 t2 (.old k2 s2)->h'.m.get k2=.ctr s2->h.m.get k2=.ctr s2:=by
        intro l2 t2 k2 s2 hl2 hv
        have q:=hct x l2 t2 k2 s2 hxl hl2
        obtain ⟨_,n0,q2⟩:=hi.cls x k2 hxl (by rw [hl2];rfl)
        rw [hgk k2 q (hctb k2 n0 q2)] at hv
        exact hv
       by_cases hce:e1.c=e.c
       . rcases hs.inj x b e1 e hx hb hce with h1|⟨h1,h2⟩
         . exact absurd h1 hxb
         . have hbr:=hm x e1 hx
           cases hxo:h.m.get x with
           |none=>trivial
           |ctr m=>rw [hxo] at hbr;have h9:e1.k=none:=hbr;rw [h1,hek] at h9;cases h9
           |map es=>rw [hxo] at hbr;have h9:=hbr.1;rw [h1,hek] at h9;cases h9
           |loop a1 a2 a3 a4 a5 a6=>rw [hxo] at hbr;have h9:=hbr.1;rw [h1,hek] at h9;cases h9
           |dfr tk=>rw [hxo] at hbr;have h9:=hbr.1;rw [h1,hek] at h9;cases h9
           |cells l2 t2 k2=>
            rw [hxo] at hbr
            have hk2:clsK k2=some k:=by rw [<- hbr.1,h1,hek]
            cases k2 with
            |exact=>cases hk2
            |Fz kx=>cases hk2;exact absurd (hi.Fz x b k hxl hbl (by rw [hxo];rfl) (by rw [ho];rfl)) hxb
            |fz kx=>cases hk2;exact absurd (hi.Fz x b k hxl hbl (by rw [hxo];rfl) (by rw [ho];rfl)) hxb
            |old kx s2=>
             cases hk2
             exact keepOld e1 l2 t2 _ hce (hi.len x b l2 t2 k s2 c t hxl hbl hxo ho) (fun q=>⟨by simp,fun hh=>hh.elim⟩) hbr (fun hv=>hval l2 t2 k s2 hxo hv)
       . exact Gb.congr (upd_le hf) (hframe _ (hs.rng x e1 hx) hce) (fun a1 a2 a3 a4 e5 e6=>hval a1 a2 a3 a4 e5 e6) (hm x e1 hx)
end Go.Ev
