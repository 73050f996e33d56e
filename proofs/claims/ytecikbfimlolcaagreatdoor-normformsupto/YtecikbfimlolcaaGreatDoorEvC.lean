/- Operations that read or write memory. Conversions. Maps. append, copy and the other built-in functions. The other built-in functions. -/
import Derived.Test.YtecikbfimlolcaaGreatDoorEvB
import Derived.Laws.BytesString
import Derived.Laws.LoneSync
import Derived.Lib.UnsafeStr
set_option linter.unusedSimpArgs false
set_option linter.unusedVariables false
set_option linter.unusedSectionVars false
namespace Go.Ev
variable [Lim]
variable {P:Program} {G:Nat} {σ:Dj} {h h':H} {w w':World} {v:AV} {nt:Nat} {f:L2} {a:Act} {ctx:Ae}
structure St (G:Nat) (σ:Dj) (nt:Nat) (f:L2) (a:Act) (h:H) (w:World):Prop where
 fr:FRel σ nt f a
 gl:GOk G σ
 ai:AInv h
 so:SOk σ w
 ma:MAll G σ h.m.get w
def Fk (σ:Dj) (h h':H):Prop:=∀ b,h.nx<=b->b<h'.nx->σ b=none
def Good3 (P:Program) (G:Nat) (o:Oper):Prop:=∀ (σ:Dj) (nt:Nat) (f:L2) (a:Act) (h h':H) (w:World) (v:AV) (ctx:Ae),
 opD o.op o.type P ctx f h=.ok v h'->o.op.operands.toList.all (Ej G)=true->St G σ nt f a h w->h'.nx<=Bh->Fk σ h h' ->
 ∃ σ' v' w',Ran P (execOp a.eval o) w v' w'/\Aq σ' v v'/\Out G σ h w σ' h' w'
theorem Eff1.out {v':Value} (he:Eff1 σ h w v v' h' w') (hs:St G σ nt f a h w) (hl:h'.nx<=Bh) (hf:Fk σ h h'):∃ σ',Aq σ' v v'/\Out G σ h w σ' h' w':=by
 cases he with
 |quiet v v' hv=>exact ⟨σ,hv,Out.refl hs.ai hs.so hs.ma⟩
 |ptr cs cs' t hc=>
  have hlt:h.nx<Bh:=hl
  refine ⟨_,?_,new_cells_step hs.ai hs.so hs.ma hlt (hf h.nx (Nat.le_refl _) (Nat.lt_succ_self _)) hc⟩
  exact .ptr h.nx 0 ⟨w.heap.size,cs.length,none⟩ (by simp [Gd])
 |sl cs cs' t len cap sz hle hc=>
  have hlt:h.nx<Bh:=hl
  refine ⟨_,?_,new_cells_step hs.ai hs.so hs.ma hlt (hf h.nx (Nat.le_refl _) (Nat.lt_succ_self _)) hc⟩
  exact .sl h.nx 0 len cap sz true ⟨w.heap.size,cs.length,none⟩ cap (by simp [Gd]) hle (Nat.le_refl _) (fun _=>rfl) (fun hh=>by cases hh)
theorem Good1.to3 {o:Oper} (hg:Good1 P G o):Good3 P G o:=by
 intro σ nt f a h h' w v ctx he C2 hs hl hf
 obtain ⟨v',w',h1,h2⟩:=hg σ nt f a h h' w v ctx he C2 hs.fr hs.gl
 obtain ⟨σ',h3,h4⟩:=h2.out hs hl hf
 exact ⟨σ',v',w',h1,h3,h4⟩
section ops
variable {dst:Option Tmp} {ty:TypeId} {pos:String} {af:Array Edge} {gd:Option (Nat × Bool)}
theorem good3_load (t:TypeId) (x:Operand):Good3 P G ⟨dst,.load t x,ty,pos,af,gd⟩:=by
 intro σ nt f a h h' w v ctx he C2 hs hl hf
 obtain ⟨v',h1,h2,rfl⟩:=good_load (P:=P) (dst:=dst) (pos:=pos) (af:=af) (gd:=gd) t x he (by simpa [Op.operands] using C2) hs.fr hs.gl (fun b off e _ hb=>hs.ma b e hb)
 exact ⟨σ,v',w,h1,h2,Out.refl hs.ai hs.so hs.ma⟩
theorem allOne_rel {cs:List AV} {l:List Value} (hc:Bd σ cs l) (ho:Bn cs=true):∀ u∈l,u.oneCell'=true:=by
 intro u hu
 obtain ⟨i,hi,rfl⟩:=List.getElem_of_mem hu
 have hlt:i<cs.length:=by have:=hc.1;omega
 exact oneB_rel ((lallOne_spec cs).1 ho cs[i] (List.getElem_mem hlt)) (hc.2 i cs[i] l[i] (List.getElem?_eq_getElem hlt) (List.getElem?_eq_getElem hi))
theorem undef_rel (σ:Dj):Aq σ (.Bl []) undef:=.Bl [] #[] rfl (fun i x y hx _=>by simp at hx)
theorem resH_ok {r:RH} (he:resH r=.ok v h'):r=.ok h'/\v=.Bl []:=by
 cases r<;>cases he;exact ⟨rfl,rfl⟩
theorem good3_store (t:TypeId) (x y:Operand):Good3 P G ⟨dst,.store t x y,ty,pos,af,gd⟩:=by
 intro σ nt f a h h' w v ctx he C2 hs hl hf
 simp [Op.operands] at C2
 have hx:=Ce hs.fr hs.gl x C2.1
 have hy:=Ce hs.fr hs.gl y C2.2
 have he':stV (ev x f) (cellsOf (ev y f)) (Fx P t) h=.ok v h':=he
 generalize ev x f=u at *
 generalize hxx:a.eval x=xx at *
 cases hx<;>first|(cases he';done)|skip
 rename_i b off e hb
 have he2:stC (cellsOf (ev y f)) (Fx P t) b off h=.ok v h':=he'
 unfold stC at he2
 split at he2
 . rename_i cs n hc hn
   rcases Be he2 with ⟨h1,he2⟩|⟨_,he2⟩
   . rcases Be he2 with ⟨h2,he2⟩|⟨_,he2⟩
     . obtain ⟨hw,rfl⟩:=resH_ok he2
       have hrel:=cellsOf_rel hc hy
       obtain ⟨inf,k1,k2⟩:=Fs hn
       have hlen:=Cf h1
       rw [Gt] at hlen
       obtain ⟨w',hr,hout⟩:=wr_step (P:=P) hw hs.ai hs.so hs.ma hb hrel (allOne_rel hrel h2)
       have hsz:(a.eval y).cells.size=inf.size:=by have:=hrel.1;simp at this;omega
       refine ⟨σ,undef,w',.inr ⟨?_,rfl⟩,undef_rel σ,hout⟩
       simp [execOp,hxx,Instr.storeAt,Instr.sureAddr,storeVar,sizeOf,typeInfo,k1,hsz,hr]
     . cases he2
   . cases he2
 . cases he2
theorem mk_ok {o:AO} {u:AV} (he:mk h o u=.ok v h'):v=u/\h'=h.new o:=by cases he;exact ⟨rfl,rfl⟩
theorem good3_makeMap (t:TypeId) (r:Option Operand):Good3 P G ⟨dst,.makeMap t r,ty,pos,af,gd⟩:=by
 intro σ nt f a h h' w v ctx he C2 hs hl hf
 have he':oMakeMap t r ty P ctx f h=.ok v h':=he
 cases r with
 |some r=>cases he'
 |none=>
  obtain ⟨rfl,rfl⟩:=mk_ok (show mk h (.map []) (.map h.nx)=.ok v h' from he')
  have hlt:h.nx<Bh:=hl
  have hfr:=hf h.nx (Nat.le_refl _) (Nat.lt_succ_self _)
  refine ⟨Gd σ h.nx ⟨w.heap.size,0,none⟩,.map (some w.heap.size),C5 w (.map #[] 0),.inl ?_,?_,?_⟩
  . simp only [execOp,Instr.makeMap,Option.map_none,Sem.run_bind,Sem.run_pure]
    rfl
  . exact .map h.nx ⟨w.heap.size,0,none⟩ (by simp [Gd])
  . exact new_step hs.ai hs.so hs.ma hlt hfr rfl rfl ⟨rfl,#[],0,Fp w _,rfl,fun i x y hx _=>by simp at hx⟩
theorem wrap_small (m:Nat) (hm:m<1000000000000):IntKind.i64.wrap (m:Int)=m:=by
 apply wrap_in
 have h1:IntKind.i64.min=-9223372036854775808:=by decide
 have h2:IntKind.i64.max=9223372036854775807:=by decide
 omega
theorem natV_some {x:AV} {n:Nat} (hh:natV x=some n):x=.int .i64 (.ofNat n):=by
 unfold natV at hh
 split at hh
 . rename_i m hv;cases hh;exact vI_yes hv
 . cases hh
theorem good3_makeSlice (t:TypeId) (x y:Operand):Good3 P G ⟨dst,.makeSlice t x y,ty,pos,af,gd⟩:=by
 refine Good1.to3 ?_
 intro σ nt f a h h' w v ctx he C2 hf hg
 simp [Op.operands] at C2
 have hx:=Ce hf hg x C2.1
 have hy:=Ce hf hg y C2.2
 have he':oMakeSlice t x y ty P ctx f h=.ok v h':=he
 unfold oMakeSlice at he'
 split at he'
 . rename_i i n m hs hn hm
   obtain ⟨inf,z,zz,hu,hi,hsz,hby,hz,hzz,hlz,hlzz,hrel⟩:=slInfo_some hs
   rw [hz] at he'
   dsimp only at he'
   rw [natV_some hn] at hx
   rw [natV_some hm] at hy
   generalize hxx:a.eval x=xx at *
   generalize hyy:a.eval y=yy at *
   cases hx;cases hy
   rcases Be he' with ⟨h1,he'⟩|⟨_,he'⟩
   . rcases Be he' with ⟨h2,he'⟩|⟨_,he'⟩
     . obtain ⟨rfl,rfl⟩:=mk_ok he'
       have hle:=ble_le h1
       have hlt:=Ee h2
       have g1:m<=m * (i.bytes+i.s+1):=Nat.le_mul_of_pos_right m (by omega)
       have g2:m * i.bytes<=m * (i.bytes+i.s+1):=Nat.mul_le_mul_left m (by omega)
       have wm:=wrap_small m (by omega)
       have wn:=wrap_small n (by omega)
       have q1:¬ ((m:Int)<0):=by omega
       have q2:¬ ((i.bytes:Int) * (m:Int) > 2 ^ 48):=by
        have:((m * i.bytes:Nat):Int)<1000000000000:=by omega
        rw [Int.mul_comm]
        have e:((m * i.bytes:Nat):Int)=(m:Int) * (i.bytes:Int):=by simp
        omega
       have q3:¬ ((n:Int)<0):=by omega
       have q4:¬ ((n:Int) > (m:Int)):=by omega
       have hrr:=repl_rel (hrel σ) m
       rw [hlz] at hrr
       refine ⟨.slice (some ⟨w.heap.size,0,none⟩) n m,C5 w (.cells ((Array.range (m * i.s)).map (fun j=>zz.cells[j % zz.cells.size]!)) i.e),.inl ?_,?_⟩
       . have hcond:((((m:Int)<0||(i.bytes:Int) * (m:Int) > 2 ^ 48)||(n:Int)<0||(n:Int) > (m:Int)):Bool)=false:=by rw [decide_eq_false q1,decide_eq_false q2,decide_eq_false q3,decide_eq_false q4];rfl
         by_cases h0:m * i.s=0
         . have e0:∀ g:Nat->Value,(Array.range (m * i.s)).map g=#[]:=fun g=>by rw [h0];apply Array.ext';simp
           simp only [execOp,hxx,hyy,Instr.makeSlice,asInt,asIntOf,typeInfo,sizeOf,Sem.run_bind,run_program,Result.andThen_ok,Sem.run_pure,run_underlying hu,hi,hsz,hby,Int.ofNat_eq_natCast,wm,wn,run_askRoom,newRow,e0,Int.toNat_natCast]
           simp only [Int.ofNat_eq_natCast,hcond,Bool.false_eq_true,if_false]
           have er:Array.range 0=(#[]:Array Nat):=by apply Array.ext';simp
           simp [h0,e0,C5,hi,hsz,er]
         . simp only [execOp,hxx,hyy,Instr.makeSlice,asInt,asIntOf,typeInfo,sizeOf,zeroValue,Sem.run_bind,run_program,Result.andThen_ok,Sem.run_pure,run_underlying hu,hi,hsz,hby,hzz,Int.ofNat_eq_natCast,wm,wn,run_askRoom,newRow,Int.toNat_natCast]
           simp only [hcond,Bool.false_eq_true,if_false]
           simp [h0,C5,hi,hsz,hzz,typeInfo]
       . exact .sl (repl z m) _ i.e n m i.s hle hrr
     . cases he'
   . cases he'
 . cases he'
end ops
end Go.Ev
namespace Go.Ev
variable [Lim]
variable {P:Program} {G:Nat} {σ:Dj} {h h':H} {w w':World} {v:AV} {nt:Nat} {f:L2} {a:Act} {ctx:Ae}
section ops
variable {dst:Option Tmp} {ty:TypeId} {pos:String} {af:Array Edge} {gd:Option (Nat × Bool)}
theorem byteOfA_some {x:AV} {n:Nat} (hh:byteOfA x=some n):x=.int .u8 (.ofNat n)/\n<256:=by
 unfold byteOfA at hh
 split at hh
 . rename_i m hv
   cases hq:Nat.blt m 256 with
   |false=>rw [hq] at hh;cases hh
   |true=>rw [hq] at hh;cases hh;exact ⟨vI_yes hv,Ee hq⟩
 . cases hh
theorem ofCells_cons (x:AV) (cs:List AV):ofCells (x::cs)=match byteOfA x,ofCells cs with|some n,some r=>some (n::r)|_,_=>none:=rfl
theorem ofCells_rel:∀ (cs:List AV) (s:List Nat) (l:List Value),ofCells cs=some s->Bd σ cs l->l=(s.map Int.ofNat).map (Value.int .u8)/\∀ n∈s,n<256:=by
 intro cs
 induction cs with
 |nil=>intro s l hh hr;cases hh;exact ⟨hr.unnil,fun n hn=>by cases hn⟩
 |cons x cs ih=>
  intro s l hh hr
  rw [ofCells_cons] at hh
  split at hh
  . rename_i n r hn hrr
    cases hh
    obtain ⟨y,l',rfl,hv,hl⟩:=hr.Fy
    obtain ⟨rfl,hlt⟩:=byteOfA_some hn
    cases hv
    obtain ⟨h1,h2⟩:=ih r l' hrr hl
    subst h1
    exact ⟨by simp,fun m hm=>by rcases List.mem_cons.1 hm with rfl|hm;exact hlt;exact h2 m hm⟩
  . cases hh
theorem bytesOf_push (r:ByteArray) (n:Nat) (hn:n<256):bytesOf (r.push (UInt8.ofNat n))=bytesOf r++[n]:=by
 unfold bytesOf
 have:(r.push (UInt8.ofNat n)).data=r.data.push (UInt8.ofNat n):=by cases r;rfl
 rw [this]
 simp
 omega
theorem bytesOf_fold:∀ (s:List Nat) (r:ByteArray),(∀ n∈s,n<256)->bytesOf ((s.map Int.ofNat).foldl (fun r n=>r.push (UInt8.ofNat n.toNat)) r)=bytesOf r++s:=by
 intro s
 induction s with
 |nil=>intro r _;simp
 |cons n s ih=>
  intro r hs
  simp only [List.map_cons,List.foldl_cons]
  rw [ih _ (fun m hm=>hs m (by simp [hm]))]
  show bytesOf (r.push (UInt8.ofNat n))++s=_
  rw [bytesOf_push r n (hs n (by simp))]
  simp
theorem bytesOf_empty:bytesOf ByteArray.empty=[]:=rfl
theorem shape_blk {c:Nat} {arr:Array Value} {t:TypeId} {fz:Nat × Nat} (hc:w.heap[c]?=some (.cells arr t fz)):w.shape? c=some (t,arr.size):=by
 simp [World.shape?,hc]
theorem freeze_push (w:World) (arr:Array Value) (t:TypeId) (n:Nat):(C5 w (.cells arr t)).freeze ⟨w.heap.size,n,none⟩ 1=C5 w (.cells arr t (n,n+1)):=by
 unfold World.freeze C5
 simp only [Nat.one_ne_zero,if_false]
 congr 1
 apply Array.ext_getElem?
 intro j
 rw [Array.getElem?_modify]
 by_cases hj:w.heap.size=j
 . subst hj;simp [Array.getElem?_push]
 . simp [hj,Array.getElem?_push,Ne.symm hj]
theorem toCells_rel (σ:Dj) (s:ByteArray):Bd σ (toCells (bytesOf s)) ((s.data.map fun b=>Value.int .u8 b.toNat).toList):=by
 unfold bytesOf
 rw [Array.toList_map]
 generalize s.data.toList=l
 induction l with
 |nil=>exact Bd.nil σ
 |cons b l ih=>exact .cons (.int _ _) ih
theorem toCells_len (s:List Nat):(toCells s).length=s.length:=by
 induction s with
 |nil=>rfl
 |cons a s ih=>show (toCells s).length+1=_;rw [ih];rfl
theorem St.draw (hs:St G σ nt f a h w) (n:Nat):St G σ nt f a h { w with drawn:=n }:=⟨hs.fr,hs.gl,hs.ai,⟨hs.so.inj,hs.so.rng,hs.so.low⟩,fun b e hb=>Gb.congr (Sle.refl σ) rfl (fun _ _ _ _ _ hh=>hh) (hs.ma b e hb)⟩
theorem Out.draw {n:Nat} {σ':Dj} (ho:Out G σ h { w with drawn:=n } σ' h' w'):Out G σ h w σ' h' w':=by
 obtain ⟨nw,a1,a2,a3⟩:=ho
 exact ⟨nw,a1,⟨a2.le,a2.fresh,a2.ok,a2.grow,a2.frame,a2.newc,a2.io⟩,a3⟩
theorem cvOf_says (P:Program) (s d:TypeId):match cvOf P s d with
 |.bad=>True
 |.rune=>True
 |.int k=>(∃ j,P.underlying s=some (.int j))/\P.underlying d=some (.int k)
 |.str=>P.underlying s=some .string/\P.underlying d=some .string
 |.toBytes e=>P.underlying s=some .string/\P.underlying d=some (.slice e)/\P.underlying e=some (.int .u8)/\Fx P e=some 1
 |.ofBytes=>∃ e,P.underlying s=some (.slice e)/\P.underlying d=some .string/\P.underlying e=some (.int .u8)
 |.toU=>∃ e inf,P.underlying s=some (.pointer e)/\P.underlying d=some .unsafePointer/\P.info? e=some inf/\inf.size≠0
 |.ofU u=>∃ inf,P.underlying s=some .unsafePointer/\P.underlying d=some (.pointer u)/\P.info? u=some inf/\inf.size≠0:=by
 generalize hc:cvOf P s d=c
 unfold cvOf at hc
 split at hc
 . rename_i j k h1 h2;subst hc;exact ⟨⟨j,h1⟩,h2⟩
 . rename_i h1 h2;subst hc;exact ⟨h1,h2⟩
 . rename_i e h1 h2
   split at hc
   . rename_i h3 h4;subst hc;exact ⟨h1,h2,h3,h4⟩
   . subst hc;trivial
 . rename_i e h1 h2
   split at hc
   . rename_i h3;subst hc;exact ⟨e,h1,h2,h3⟩
   . subst hc;trivial
 . rename_i e h1 h2
   split at hc
   . rename_i n h3;subst hc;obtain ⟨inf,h4,h5⟩:=Fs h3;exact ⟨e,inf,h1,h2,h4,by omega⟩
   . subst hc;trivial
 . rename_i u h1 h2
   split at hc
   . rename_i n h3;subst hc;obtain ⟨inf,h4,h5⟩:=Fs h3;exact ⟨inf,h1,h2,h4,by omega⟩
   . subst hc;trivial
 . subst hc;trivial
theorem good3_convert (s d:TypeId) (x:Operand):Good3 P G ⟨dst,.convert s d x,ty,pos,af,gd⟩:=by
 intro σ nt f a h h' w v ctx he C2 hs hl hf
 have hx:=Ce hs.fr hs.gl x (by simpa [Op.operands] using C2)
 have he':oConvert s d x ty P ctx f h=.ok v h':=he
 unfold oConvert at he'
 have hsay:=cvOf_says P s d
 generalize hxx:a.eval x=xx at *
 split at he'<;>rename_i hcv<;>rw [hcv] at hsay
 . rename_i k
   obtain ⟨⟨j,h1⟩,h2⟩:=hsay
   split at he'
   . rename_i k2 n hv
     rw [vI_yes hv] at hx
     cases hx
     obtain ⟨rfl,rfl⟩:=By he'
     refine ⟨σ,.int k (k.wrap n),w,.inl ?_,by rw [wrapF_eq];exact .int _ _,Out.refl hs.ai hs.so hs.ma⟩
     simp [execOp,hxx,convert,run_underlying h1,run_underlying h2,Conv.intToInt]
   . cases he'
 . obtain ⟨h1,h2⟩:=hsay
   split at he'
   . rename_i s2 hv
     rw [vS_yes hv] at hx
     cases hx
     obtain ⟨rfl,rfl⟩:=By he'
     refine ⟨σ,_,w,.inl ?_,.str _,Out.refl hs.ai hs.so hs.ma⟩
     simp [execOp,hxx,convert,run_underlying h1,run_underlying h2]
   . cases he'
 . exfalso
   unfold cvOf at hcv
   split at hcv<;>first|(cases hcv;done)|(split at hcv<;>cases hcv)
 . rename_i e
   obtain ⟨h1,h2,h3,h4⟩:=hsay
   split at he'
   . rename_i s2 hv
     rw [vS_yes hv] at hx
     cases hx
     rename_i bs
     rcases Be he' with ⟨hsm,he'⟩|⟨_,he'⟩
     . obtain ⟨rfl,rfl⟩:=By he'
       have hlen:slen (bytesOf bs)=bs.size:=by rw [slen_eq,Fl]
       generalize hq:Question.cut (.appendCap bs.size 0 e) (w.tape w.drawn (.appendCap bs.size 0 e))=cap
       have hcap:bs.size<=cap:=by rw [<- hq];simp [Question.cut]
       generalize harr:(bs.data.map fun b=>Value.int .u8 b.toNat)++Array.replicate (cap - bs.size) (Value.int .u8 0)=arr
       have hbsz:bs.data.size=bs.size:=rfl
       have hsz:arr.size=cap:=by rw [<- harr];simp;omega
       have hl1:h.nx+1<Bh:=hl
       have hfr:σ (h.nx+1)=none:=hf _ (by omega) (by show h.nx+1<h.nx+2;omega)
       have hs2:=hs.draw (w.drawn+1)
       have hg:=grow_step (G:=G) (cs:=toCells (bytesOf bs)) (t:=e) (arr:=arr) (fz:=(arr.size,arr.size+1)) hs2.ai hs2.so hs2.ma hl1 (hf _ (Nat.le_refl _) (by show h.nx<h.nx+2;omega)) hfr (by rw [toCells_len,Fl];omega) (by
        intro i u y hu hy
        have hr:=toCells_rel σ bs
        have hi:=(List.getElem?_eq_some_iff.1 hu).1
        rw [toCells_len,Fl] at hi
        refine hr.2 i u y hu ?_
        rw [<- hy,<- harr,Array.getElem?_append_left (by simp;omega)]
        simp) (fun i hi=>by omega)
       refine ⟨_,.slice (some ⟨w.heap.size,0,none⟩) bs.size cap,_,.inl ?_,?_,Out.draw hg⟩
       . have hshape:(C5 { w with drawn:=w.drawn+1 } (.cells arr e)).shape? w.heap.size=some (e,arr.size):=shape_blk (Fp { w with drawn:=w.drawn+1 } _)
         have hfz:=freeze_push { w with drawn:=w.drawn+1 } arr e arr.size
         have hfor:(Question.appendCap bs.size 0 e).forced=false:=rfl
         have hch:(choose (.appendCap bs.size 0 e)).run P w=.ok cap { w with drawn:=w.drawn+1 }:=by
          simp only [choose,Sem.run,hfor,Bool.false_eq_true,if_false,hq]
         have hnr:(newRow e arr).run P { w with drawn:=w.drawn+1 }=.ok ⟨w.heap.size,0,none⟩ (C5 { w with drawn:=w.drawn+1 } (.cells arr e)):=rfl
         have hms:(markStringish ⟨w.heap.size,0,none⟩).run P (C5 { w with drawn:=w.drawn+1 } (.cells arr e))=.ok () (C5 { w with drawn:=w.drawn+1 } (.cells arr e (arr.size,arr.size+1))):=by
          simp only [markStringish,Sem.run_bind,run_shape,Result.andThen_ok,hshape,run_freeze]
          exact congrArg (Result.ok ()) hfz
         simp only [execOp,hxx,convert,Sem.run_bind,run_underlying h1,run_underlying h2,run_underlying h3,Result.andThen_ok,Conv.stringToBytes,hch,harr,hnr,hms,Sem.run_pure]
       . rw [hlen]
         exact .sl _ 0 _ _ 1 false ⟨w.heap.size,arr.size,some h.nx⟩ cap (by simp [Gd]) (Nat.le_refl _) hcap (fun hh=>by cases hh) (fun _=>by simp;omega)
     . cases he'
   . cases he'
 . obtain ⟨e,h1,h2,h3⟩:=hsay
   split at he'
   . rename_i hv
     rw [vL_nil hv] at hx
     cases hx
     obtain ⟨rfl,rfl⟩:=By he'
     refine ⟨σ,.string .empty,w,.inl ?_,.str ByteArray.empty,Out.refl hs.ai hs.so hs.ma⟩
     simp [execOp,hxx,convert,run_underlying h1,run_underlying h2,run_underlying h3,Conv.bytesToString]
   . rename_i b off len cap sz ex hv
     rw [vL_yes hv] at hx
     cases hx
     rotate_left
     . rename_i off e1 a cc hb
       split at he'
       . rename_i c hrd
         have hcut:lcut c (off+1) 0=some []\/lcut c (off+1) 0=none:=by
          rw [E1]
          split
          . left;simp
          . right;rfl
         rcases hcut with hcut|hcut
         . rw [hcut] at he'
           obtain ⟨rfl,rfl⟩:=By he'
           have hrun:=run_bytesToString (P:=P) w a 0 cc [] rfl
           refine ⟨σ,.string ByteArray.empty,w,.inl ?_,.str ByteArray.empty,Out.refl hs.ai hs.so hs.ma⟩
           simp only [execOp,hxx,convert,Sem.run_bind,run_underlying h1,run_underlying h2,run_underlying h3,Result.andThen_ok,hrun,Sem.run_pure]
           rfl
         . rw [hcut] at he'
           cases he'
       . cases he'
     rename_i e1 cc hb g1 g2 g3 g4
     split at he'
     . rename_i c hrd
       split at he'
       . rename_i cs hcut
         split at he'
         . rename_i s2 hoc
           obtain ⟨rfl,rfl⟩:=By he'
           obtain ⟨arr,tt,fz,q1,q2,q3,q4⟩:=blk_of_rd hrd (hs.ma b e1 hb)
           obtain ⟨r1,_,_⟩:=lcut_some hcut
           have hrel:=cut_rel hcut q4 (by omega)
           obtain ⟨r2,r3⟩:=ofCells_rel cs s2 _ hoc hrel
           have hld:=run_loadBlk (P:=P) q1 (show off+len<=arr.size by omega)
           rw [r2] at hld
           have hrun:=run_bytesToString (P:=P) w ⟨e1.c,off,none⟩ len cc (s2.map Int.ofNat) hld
           refine ⟨σ,.string ((s2.map Int.ofNat).foldl (fun r n=>r.push (UInt8.ofNat n.toNat)) ByteArray.empty),w,.inl ?_,?_,Out.refl hs.ai hs.so hs.ma⟩
           . simp only [execOp,hxx,convert,Sem.run_bind,run_underlying h1,run_underlying h2,run_underlying h3,Result.andThen_ok,hrun,Sem.run_pure]
           . have e5:=bytesOf_fold s2 ByteArray.empty r3
             rw [bytesOf_empty,List.nil_append] at e5
             have:=Aq.str (σ:=σ) ((s2.map Int.ofNat).foldl (fun r n=>r.push (UInt8.ofNat n.toNat)) ByteArray.empty)
             rw [e5] at this
             exact this
         . cases he'
       . cases he'
     . cases he'
   . cases he'
 . obtain ⟨e,inf,h1,h2,h3,h4⟩:=hsay
   split at he'
   . rename_i hv
     rw [vP_nil hv] at hx
     cases hx
     obtain ⟨rfl,rfl⟩:=By he'
     refine ⟨σ,.pointer none,w,.inl ?_,.nptr,Out.refl hs.ai hs.so hs.ma⟩
     simp [execOp,hxx,convert,run_underlying h1,run_underlying h2,Conv.unsafePointer]
   . rename_i b off hv
     rw [vP_yes hv] at hx
     cases hx
     rename_i e1 hb
     split at he'
     . rename_i c hrd
       rcases Be he' with ⟨hlt,he'⟩|⟨_,he'⟩
       . obtain ⟨rfl,rfl⟩:=By he'
         have hlt':=Ee hlt
         rw [Gt] at hlt'
         obtain ⟨arr,tt,fz,q1,q2,q3,q4⟩:=blk_of_rd hrd (hs.ma b e1 hb)
         have hcell:w.cell? ⟨e1.c,off,none⟩=some arr[off]:=by rw [cell_blk q1];exact Array.getElem?_eq_getElem (by omega)
         have hrun:=run_convert_to_unsafe (P:=P) h1 h2 (by rw [h3];simp [h4]) hcell
         refine ⟨σ,.pointer (some ⟨e1.c,off,none⟩),w,.inl ?_,.ptr b off e1 hb,Out.refl hs.ai hs.so hs.ma⟩
         simp [execOp,hxx,hrun]
       . cases he'
     . cases he'
   . cases he'
 . rename_i u
   obtain ⟨inf,h1,h2,h3,h4⟩:=hsay
   split at he'
   . rename_i hv
     rw [vP_nil hv] at hx
     cases hx
     obtain ⟨rfl,rfl⟩:=By he'
     refine ⟨σ,.pointer none,w,.inl ?_,.nptr,Out.refl hs.ai hs.so hs.ma⟩
     simp [execOp,hxx,convert,run_underlying h1,run_underlying h2,Conv.unsafePointer]
   . rename_i b off hv
     rw [vP_yes hv] at hx
     cases hx
     rename_i e1 hb
     split at he'
     . rename_i c e2 hgb
       rcases Be he' with ⟨hlies,he'⟩|⟨_,he'⟩
       . obtain ⟨rfl,rfl⟩:=By he'
         have hbr:=hs.ma b e1 hb
         rw [hgb] at hbr
         obtain ⟨arr,lo,hi2,q1,q2,q3,q4,q5,q6⟩:=hbr.2 trivial
         have hlen:=q5 rfl
         unfold liesA at hlies
         rw [Gt] at hlies
         have hsz:arr.size=c.length:=by omega
         refine ⟨σ,.pointer (some ⟨e1.c,off,none⟩),w,.inl ?_,.ptr b off e1 hb,Out.refl hs.ai hs.so hs.ma⟩
         simp [execOp,hxx,convert,run_underlying h1,run_underlying h2,Conv.unsafePointer,Conv.seenAt,viewAt,shape_blk q1,sizeOf,typeInfo,h3,h4,variablesAt,hsz,hlies]
       . cases he'
     . cases he'
   . cases he'
 . cases he'
end ops
end Go.Ev
namespace Go.Ev
variable [Lim]
variable {P:Program} {G:Nat} {σ:Dj} {h h':H} {w w':World} {v:AV} {nt:Nat} {f:L2} {a:Act} {ctx:Ae}
section ops
variable {dst:Option Tmp} {ty:TypeId} {pos:String} {af:Array Edge} {gd:Option (Nat × Bool)}
theorem checkKey_scalar {kt:TypeId} {d:TypeDesc} (hu:P.underlying kt=some d) (h1:∀ m,d≠.interface m) (h2:∀ n e,d≠.array n e) (h3:∀ fs,d≠.struct fs) (e:Bool) (n:Nat) (x:Value) (w:World):
 (Instr.checkKey e (n+1) kt x).run P w=.ok () w:=by
 simp only [Instr.checkKey,Sem.run_bind,run_underlying hu,Result.andThen_ok]
 cases d<;>first|rfl|(exact absurd rfl (h1 _))|(exact absurd rfl (h2 _ _))|(exact absurd rfl (h3 _))
theorem scalar_key {kt:TypeId} (hk:scalar P kt=true):∃ d,P.underlying kt=some d/\(∀ (x y:AV) (x' y':Value) (b:Bool),aeq P 3 kt x y=some b->Aq σ x x'->Aq σ y y' ->
 Instr.sameNow d x' y'=some b/\(b=true->Instr.sameBits 10000 y' x'=true))/\(∀ (e:Bool) (x':Value) (w:World),(Instr.checkKey e 10000 kt x').run P w=.ok () w):=by
 have hs:=tk_says P kt
 unfold scalar at hk
 cases ht:tk P kt<;>rw [ht] at hk hs<;>first|(cases hk;done)|skip
 . have hu:P.underlying kt=some .bool:=hs
   refine ⟨.bool,hu,?_,fun e x' w=>checkKey_scalar hu (by simp) (by simp) (by simp) e 9999 x' w⟩
   intro x y x' y' b hq hx hy
   have hq':Dm P (aeq P 2) kt x y=some b:=hq
   unfold Dm at hq'
   rw [ht] at hq'
   dsimp only at hq'
   split at hq'
   . rename_i b1 b2 h1 h2
     rw [vB_yes h1] at hx;rw [vB_yes h2] at hy
     cases hx;cases hy;cases hq'
     refine ⟨rfl,fun hb=>?_⟩
     have:b1=b2:=by simpa using hb
     simp [Instr.sameBits,this]
   . cases hq'
 . obtain ⟨k,hu⟩:=hs
   refine ⟨.int k,hu,?_,fun e x' w=>checkKey_scalar hu (by simp) (by simp) (by simp) e 9999 x' w⟩
   intro x y x' y' b hq hx hy
   have hq':Dm P (aeq P 2) kt x y=some b:=hq
   unfold Dm at hq'
   rw [ht] at hq'
   dsimp only at hq'
   split at hq'
   . rename_i k1 n1 k2 n2 h1 h2
     rw [vI_yes h1] at hx;rw [vI_yes h2] at hy
     cases hx;cases hy
     cases hkk:kEq k1 k2 with
     |false=>rw [hkk] at hq';cases hq'
     |true=>
      rw [hkk] at hq'
      have e1:=(kEq_eq k1 k2).1 hkk
      subst e1
      cases hq'
      rw [ieq_eq]
      refine ⟨by simp [Instr.sameNow],fun hb=>?_⟩
      have:n1=n2:=by simpa using hb
      simp [Instr.sameBits,this]
   . cases hq'
 . have hu:P.underlying kt=some .string:=hs
   refine ⟨.string,hu,?_,fun e x' w=>checkKey_scalar hu (by simp) (by simp) (by simp) e 9999 x' w⟩
   intro x y x' y' b hq hx hy
   have hq':Dm P (aeq P 2) kt x y=some b:=hq
   unfold Dm at hq'
   rw [ht] at hq'
   dsimp only at hq'
   split at hq'
   . rename_i s1 s2 h1 h2
     rw [vS_yes h1] at hx;rw [vS_yes h2] at hy
     cases hx;cases hy;cases hq'
     rw [strEq_b]
     refine ⟨by simp [Instr.sameNow,beq_toListBytes],fun hb=>?_⟩
     rename_i c1 c2
     have e1:(c2 == c1)=(c1 == c2):=by
      rw [beq_toListBytes,beq_toListBytes,Bool.eq_iff_iff]
      simp only [beq_iff_eq]
      exact ⟨fun hh=>hh.symm,fun hh=>hh.symm⟩
     simp only [Instr.sameBits,e1,beq_toListBytes]
     exact hb
   . cases hq'
theorem val_of_avs {a b:List AV} {a' b':Array Value} (h:avsEq b a=true) (ha:Bd σ a a'.toList) (hb:Bd σ b b'.toList):b'=a':=by
 obtain ⟨rfl,hf⟩:=avsEq_eq h
 apply Array.ext'
 apply List.ext_getElem?
 intro i
 cases hx:b[i]? with
 |none=>
  have h1:b.length<=i:=by simpa using hx
  have h2:=ha.1
  have h3:=hb.1
  rw [List.getElem?_eq_none (by omega),List.getElem?_eq_none (by omega)]
 |some x=>
  obtain ⟨y,q1,q2⟩:=hb.get hx
  obtain ⟨z,q3,q4⟩:=ha.get hx
  rw [q1,q3]
  have hfx:=List.all_eq_true.1 hf x (List.mem_of_getElem? hx)
  cases x<;>first|(cases hfx;done)|skip
  . cases q2;cases q4;rfl
  . cases q2;cases q4;rfl
  . generalize hs:AV.str _=u at q2 q4
    cases q2<;>first|(cases hs;done)|skip
    rename_i s1
    generalize hs2:AV.str (bytesOf s1)=u at q4
    cases q4<;>first|(cases hs2;done)|skip
    rename_i s2
    injection hs2 with h5
    have:s1=s2:=by
     apply ByteArray.ext
     apply Array.ext'
     exact (List.map_inj_right (fun x y hxy=>UInt8.toNat_inj.1 hxy)).1 h5
    rw [this]
theorem sameBits_self:∀ (l:List AV) (l':List Value) (n:Nat),l.all flatV=true->Bd σ l l'->((l'.zip l').all fun (p:Value × Value)=>Instr.sameBits n p.1 p.2)=true:=by
 intro l
 induction l with
 |nil=>intro l' n _ hr;have:=hr.unnil;subst this;rfl
 |cons x l ih=>
  intro l' n hf hr
  obtain ⟨y,l2,rfl,q1,q2⟩:=hr.Fy
  simp only [List.all_cons,Bool.and_eq_true] at hf
  simp only [List.zip_cons_cons,List.all_cons,Bool.and_eq_true]
  refine ⟨?_,ih l2 n hf.2 q2⟩
  have hfx:=hf.1
  cases q1<;>first|(cases hfx;done)|(cases n<;>simp [Instr.sameBits,beq_toListBytes])
theorem scalar_desc {t:TypeId} (hk:scalar P t=true):∃ d,P.underlying t=some d/\(∀ m,d≠.interface m)/\(∀ n e,d≠.array n e)/\(∀ fs,d≠.struct fs):=by
 have hs:=tk_says P t
 unfold scalar at hk
 cases ht:tk P t<;>rw [ht] at hk hs<;>first|(cases hk;done)|skip
 . exact ⟨_,hs,by simp,by simp,by simp⟩
 . obtain ⟨k,hu⟩:=hs;exact ⟨_,hu,by simp,by simp,by simp⟩
 . exact ⟨_,hs,by simp,by simp,by simp⟩
theorem checkKey_part {t:TypeId} (hk:scalar P t=true) (e:Bool) (n:Nat) (x:Value) (w:World):(Instr.checkKey e (n+1) t x).run P w=.ok () w:=by
 obtain ⟨d,hu,h1,h2,h3⟩:=scalar_desc hk
 exact checkKey_scalar hu h1 h2 h3 e n x w
theorem run_forIn_list {α:Type} (g:α->PUnit->Sem (ForInStep PUnit)) (w:World):∀ (l:List α),(∀ x∈l,(g x ⟨⟩).run P w=.ok (.yield ⟨⟩) w)->(forIn l ⟨⟩ g:Sem PUnit).run P w=.ok ⟨⟩ w:=by
 intro l
 induction l with
 |nil=>intro _;simp
 |cons x l ih=>
  intro hh
  rw [List.forIn_cons]
  simp only [Sem.run_bind,hh x (by simp),Result.andThen_ok]
  exact ih (fun y hy=>hh y (by simp [hy]))
structure KSpec (P:Program) (σ:Dj) (kt:TypeId) (d:TypeDesc):Prop where
 und:P.underlying kt=some d
 eq:(∀ (x y:AV) (x' y':Value) (b:Bool),Gh P kt x y=some b->Aq σ x x'->Aq σ y y'->Instr.sameNow d x' y'=some b) \/
  ((∀ u v,Instr.sameNow d u v=none)/\∀ (x y:AV) (x' y':Value) (b:Bool),Gh P kt x y=some b->Aq σ x x'->Aq σ y y'->∀ w,(Op.equal kt x' y').run P w=.ok b w)
 bits:∀ (x y:AV) (x' y':Value),Gh P kt x y=some true->Aq σ x x'->Aq σ y y'->Instr.sameBits 10000 y' x'=true
 chk:∀ (x:AV) (x':Value),E0 P kt x=true->Aq σ x x'->∀ (e:Bool) (w:World),(Instr.checkKey e 10000 kt x').run P w=.ok () w
theorem keyEq_aeq {kt:TypeId} {x y:AV} {b:Bool} (h:Gh P kt x y=some b):aeq P 3 kt x y=some b/\(b=true->keySame P kt x y=true):=by
 unfold Gh at h
 split at h
 . rename_i he
   cases hs:keySame P kt x y with
   |false=>rw [hs] at h;cases h
   |true=>rw [hs] at h;cases h;exact ⟨he,fun _=>rfl⟩
 . rename_i he;cases h;exact ⟨he,fun hh=>by cases hh⟩
 . cases h
theorem key_bits_agg {kt:TypeId} {x y:AV} {x' y':Value} (hs:(match vA x,vA y with|.yes a,.yes b=>avsEq b a|_,_=>false)=true) (hx:Aq σ x x') (hy:Aq σ y y'):Instr.sameBits 10000 y' x'=true:=by
 split at hs
 . rename_i a b h1 h2
   rw [vA_yes h1] at hx
   rw [vA_yes h2] at hy
   cases hx;cases hy
   rename_i a' hl hh b' hl2 hh2
   have hab:=val_of_avs hs (⟨hl,hh⟩:Bd σ a a'.toList) (⟨hl2,hh2⟩:Bd σ b b'.toList)
   subst hab
   obtain ⟨rfl,hf⟩:=avsEq_eq hs
   have:=sameBits_self (σ:=σ) b b'.toList 9999 hf ⟨hl2,hh2⟩
   simp only [Instr.sameBits,beq_self_eq_true,Bool.true_and]
   exact this
 . cases hs
theorem key_spec {kt:TypeId} (hk:keyOk P kt=true):∃ d,KSpec P σ kt d:=by
 by_cases hsc:scalar P kt=true
 . obtain ⟨d,hud,hkey,hck⟩:=scalar_key (P:=P) (σ:=σ) hsc
   exact ⟨d,hud,.inl (fun x y x' y' b h hx hy=>(hkey x y x' y' b (keyEq_aeq h).1 hx hy).1),fun x y x' y' h hx hy=>(hkey x y x' y' true (keyEq_aeq h).1 hx hy).2 rfl,fun x x' _ _ e w=>hck e x' w⟩
 . have hs:=tk_says P kt
   have heq:∀ (x y:AV) (x' y':Value) (b:Bool),Gh P kt x y=some b->Aq σ x x'->Aq σ y y'->∀ w,(Op.equal kt x' y').run P w=.ok b w:=
    fun x y x' y' b h hx hy w=>aeq_sound P σ 3 kt x y b x' y' (keyEq_aeq h).1 hx hy Op.maxDepth w (by decide)
   unfold keyOk at hk
   unfold scalar at hsc
   cases ht:tk P kt<;>rw [ht] at hk hsc hs<;>first|(cases hk;done)|(exact absurd rfl hsc)|skip
   . rename_i fs
     obtain ⟨l,hu,_,hfs⟩:=hs
     refine ⟨.struct l,hu,.inr ⟨fun u v=>by simp [Instr.sameNow],heq⟩,?_,?_⟩
     . intro x y x' y' h hx hy
       have h2:=(keyEq_aeq h).2 rfl
       unfold keySame at h2
       rw [ht] at h2
       exact key_bits_agg (kt:=kt) h2 hx hy
     . intro x x' hc hx e w
       unfold E0 at hc
       rw [ht] at hc
       dsimp only at hc
       split at hc
       . rename_i cs hv
         rw [vA_yes hv] at hx
         cases hx
         rename_i cs' hl hh
         have key:∀ n,(Instr.checkKey e (n+2) kt (.agg cs')).run P w=.ok () w:=by
          intro n
          rw [Instr.checkKey]
          simp only [Sem.run_bind,run_underlying hu,Result.andThen_ok]
          rw [<- Array.forIn_toList]
          refine Eq.trans (congrArg (fun r=>Result.andThen r (fun _ w'=>Sem.run P (pure ()) w')) (run_forIn_list _ w _ (fun f hf=>?_))) (by simp)
          by_cases hn:f.name = "_"
          . simp [hn]
          . have hmem:(f.type,f.offset)∈fs:=by
             rw [hfs,List.mem_map]
             exact ⟨f,List.mem_filter.2 ⟨hf,by simp [hn]⟩,rfl⟩
            have h3:=List.all_eq_true.1 hc _ hmem
            rw [Bool.and_eq_true] at h3
            obtain ⟨u,hu2⟩:=Option.isSome_iff_exists.1 h3.2
            obtain ⟨u',hu',_⟩:=run_part (P:=P) (σ:=σ) hu2 (cs':=cs') ⟨hl,hh⟩ w
            simp [hn,hu',checkKey_part h3.1]
         exact key 9998
       . cases hc
   . rename_i n e s
     obtain ⟨inf,hu,hi1,hi2⟩:=hs
     refine ⟨.array n e,hu,.inr ⟨fun u v=>by simp [Instr.sameNow],heq⟩,?_,?_⟩
     . intro x y x' y' h hx hy
       have h2:=(keyEq_aeq h).2 rfl
       unfold keySame at h2
       rw [ht] at h2
       exact key_bits_agg (kt:=kt) h2 hx hy
     . intro x x' hc hx e' w
       unfold E0 at hc
       rw [ht] at hc
       dsimp only at hc
       split at hc
       . rename_i cs hv
         rw [vA_yes hv] at hx
         cases hx
         rename_i cs' hl hh
         rw [Bool.and_eq_true] at hc
         have key:∀ m,(Instr.checkKey e' (m+2) kt (.agg cs')).run P w=.ok () w:=by
          intro m
          rw [Instr.checkKey]
          simp only [Sem.run_bind,run_underlying hu,Result.andThen_ok]
          rw [Std.Legacy.Range.forIn_eq_forIn_range']
          refine Eq.trans (congrArg (fun r=>Result.andThen r (fun _ w'=>Sem.run P (pure ()) w')) (run_forIn_list _ w _ (fun i hi=>?_))) (by simp)
          have hin:i<n:=by
           rw [List.mem_range'] at hi
           obtain ⟨j,hj,rfl⟩:=hi
           simp [Std.Legacy.Range.size] at hj
           simp;omega
          have h3:=List.all_eq_true.1 hc.2 i (List.mem_range.2 hin)
          obtain ⟨u,hu2⟩:=Option.isSome_iff_exists.1 h3
          obtain ⟨u',hu',_⟩:=run_part (P:=P) (σ:=σ) hu2 (cs':=cs') ⟨hl,hh⟩ w
          have hsz:(sizeOf e).run P w=.ok s w:=by simp [sizeOf,typeInfo,hi1,hi2]
          simp [hsz,hu',checkKey_part hc.1]
         exact key 9998
       . cases hc
def ERel (σ:Dj) (es:List (AV × AV)) (l:List MapEntry):Prop:=
 es.length=l.length/\∀ (i:Nat) (x:AV × AV) (y:MapEntry),es[i]?=some x->l[i]?=some y->Aq σ x.1 y.key/\Aq σ x.2 y.val
theorem ERel.Fy {x:AV × AV} {es:List (AV × AV)} {l:List MapEntry} (hr:ERel σ (x::es) l):∃ y l',l=y::l'/\Aq σ x.1 y.key/\Aq σ x.2 y.val/\ERel σ es l':=by
 cases l with
 |nil=>have:=hr.1;simp at this
 |cons y l'=>
  have h0:=hr.2 0 x y (by simp) (by simp)
  refine ⟨y,l',rfl,h0.1,h0.2,by have:=hr.1;simpa using this,fun i u z hu hz=>hr.2 (i+1) u z (by simpa using hu) (by simpa using hz)⟩
theorem ERel.cons {x:AV × AV} {y:MapEntry} {es:List (AV × AV)} {l:List MapEntry} (h1:Aq σ x.1 y.key) (h2:Aq σ x.2 y.val) (hr:ERel σ es l):ERel σ (x::es) (y::l):=by
 refine ⟨by simp [hr.1],fun i u z hu hz=>?_⟩
 cases i with
 |zero=>simp at hu hz;subst hu;subst hz;exact ⟨h1,h2⟩
 |succ i=>simp at hu hz;exact hr.2 i u z hu hz
def FindRun (P:Program) (kt:TypeId) (k':Value) (l:List MapEntry) (r:Option (Nat × Value)):Prop:=∀ w,(Instr.findKey kt k' l).run P w=.ok r w
theorem find_now {d:TypeDesc} {kt:TypeId} (hu:P.underlying kt=some d) {k':Value} {l:List MapEntry} {r:Option (Nat × Value)} (h:Instr.findNow d k' l 0=some r):FindRun P kt k' l r:=by
 intro w
 simp [Instr.findKey,run_underlying hu,h]
theorem find_ask {d:TypeDesc} {kt:TypeId} (hu:P.underlying kt=some d) (hno:∀ u v,Instr.sameNow d u v=none) {k':Value} {l:List MapEntry} {r:Option (Nat × Value)} (h:∀ w,(Instr.findAsking kt k' l 0).run P w=.ok r w):FindRun P kt k' l r:=by
 intro w
 cases l with
 |nil=>
  have:=h w
  simp only [Instr.findAsking,Sem.run_pure] at this
  simp [Instr.findKey,run_underlying hu,Instr.findNow,this]
 |cons e l=>
  have hn:Instr.findNow d k' (e::l) 0=none:=by simp [Instr.findNow,hno]
  simp only [Instr.findKey,Sem.run_bind,run_underlying hu,Result.andThen_ok,hn]
  exact h w
theorem mfind_now {eq:AV->Option Bool} {d:TypeDesc} {k':Value} (hq:∀ (y:AV) (y':Value) (b:Bool),eq y=some b->Aq σ y y'->Instr.sameNow d k' y'=some b):
 ∀ (es:List (AV × AV)) (l:List MapEntry) (i:Nat) (r:Option AV),mfind eq es=some r->ERel σ es l ->
  match r with
  |some x=>∃ j y,Instr.findNow d k' l i=some (some (j,y))/\Aq σ x y
  |none=>Instr.findNow d k' l i=some none:=by
 intro es
 induction es with
 |nil=>
  intro l i r hr he
  have:l=[]:=by have:=he.1;cases l;rfl;simp at this
  subst this
  cases hr
  rfl
 |cons x es ih=>
  intro l i r hr he
  obtain ⟨y,l',rfl,h1,h2,h3⟩:=he.Fy
  simp only [mfind] at hr
  split at hr
  . rename_i hb
    cases hr
    have:=hq x.1 y.key true hb h1
    exact ⟨i,y.val,by simp [Instr.findNow,this],h2⟩
  . rename_i hb
    have h4:=hq x.1 y.key false hb h1
    have h5:=ih l' (i+1) r hr h3
    cases r with
    |none=>simp only [Instr.findNow,h4];exact h5
    |some u=>simp only [Instr.findNow,h4];exact h5
  . cases hr
theorem mfind_ask {eq:AV->Option Bool} {kt:TypeId} {k':Value} (hq:∀ (y:AV) (y':Value) (b:Bool),eq y=some b->Aq σ y y'->∀ w,(Op.equal kt k' y').run P w=.ok b w):
 ∀ (es:List (AV × AV)) (l:List MapEntry) (i:Nat) (r:Option AV),mfind eq es=some r->ERel σ es l ->
  match r with
  |some x=>∃ j y,(∀ w,(Instr.findAsking kt k' l i).run P w=.ok (some (j,y)) w)/\Aq σ x y
  |none=>∀ w,(Instr.findAsking kt k' l i).run P w=.ok none w:=by
 intro es
 induction es with
 |nil=>
  intro l i r hr he
  have:l=[]:=by have:=he.1;cases l;rfl;simp at this
  subst this
  cases hr
  intro w
  simp [Instr.findAsking]
 |cons x es ih=>
  intro l i r hr he
  obtain ⟨y,l',rfl,h1,h2,h3⟩:=he.Fy
  simp only [mfind] at hr
  split at hr
  . rename_i hb
    cases hr
    have:=hq x.1 y.key true hb h1
    exact ⟨i,y.val,fun w=>by simp [Instr.findAsking,this],h2⟩
  . rename_i hb
    have h4:=hq x.1 y.key false hb h1
    have h5:=ih l' (i+1) r hr h3
    cases r with
    |none=>intro w;simp only [Instr.findAsking,Sem.run_bind,h4,Result.andThen_ok,Bool.false_eq_true,if_false];exact h5 w
    |some u=>
     obtain ⟨j,z,q1,q2⟩:=h5
     exact ⟨j,z,fun w=>by simp only [Instr.findAsking,Sem.run_bind,h4,Result.andThen_ok,Bool.false_eq_true,if_false];exact q1 w,q2⟩
  . cases hr
theorem mfind_rel {kt:TypeId} {d:TypeDesc} (ks:KSpec P σ kt d) {k:AV} {k':Value} (hk:Aq σ k k') (es:List (AV × AV)) (l:List MapEntry) (r:Option AV) (hr:mfind (Gh P kt k) es=some r) (he:ERel σ es l):
 match r with
 |some x=>∃ j y,FindRun P kt k' l (some (j,y))/\Aq σ x y
 |none=>FindRun P kt k' l none:=by
 rcases ks.eq with hq|⟨hno,hq⟩
 . have:=mfind_now (σ:=σ) (d:=d) (k':=k') (fun y y' b hb hy=>hq k y k' y' b hb hk hy) es l 0 r hr he
   cases r with
   |none=>exact find_now ks.und this
   |some x=>obtain ⟨j,y,q1,q2⟩:=this;exact ⟨j,y,find_now ks.und q1,q2⟩
 . have:=mfind_ask (σ:=σ) (P:=P) (kt:=kt) (k':=k') (fun y y' b hb hy=>hq k y k' y' b hb hk hy) es l 0 r hr he
   cases r with
   |none=>exact find_ask ks.und hno this
   |some x=>obtain ⟨j,y,q1,q2⟩:=this;exact ⟨j,y,find_ask ks.und hno q1,q2⟩
theorem mInfo_some {t:TypeId} {mi:MI} (hh:mInfo P t=some mi):∃ et,P.underlying t=some (.map mi.kt et)/\zeroVal P et=some mi.z/\keyOk P mi.kt=true:=by
 unfold mInfo at hh
 split at hh
 . rename_i kt et hu
   split at hh
   . rename_i z hz hk
     cases hh
     exact ⟨et,hu,hz,hk⟩
   . cases hh
 . cases hh
theorem good3_lookup (t:TypeId) (x i:Operand) (ok:Bool):Good3 P G ⟨dst,.lookup t x i ok,ty,pos,af,gd⟩:=by
 intro σ nt f a h h' w v ctx he C2 hs hl hf
 simp [Op.operands] at C2
 have hx:=Ce hs.fr hs.gl x C2.1
 have hi:=Ce hs.fr hs.gl i C2.2
 have he':oLookup t x i ok ty P ctx f h=.ok v h':=he
 unfold oLookup at he'
 split at he'
 . rename_i mi es hmi hes
   obtain ⟨et,hu,hz,hsc⟩:=mInfo_some hmi
   obtain ⟨inf,z',hi1,hzz,hzr⟩:=zeroVal_rel σ hz
   obtain ⟨d,ks⟩:=key_spec (P:=P) (σ:=σ) hsc
   have hent:∃ l:List MapEntry,ERel σ es l/\((a.eval x=.map none/\l=[])\/∃ c clock,a.eval x=.map (some c)/\w.heap[c]?=some (.map l.toArray clock)):=by
    unfold entries at hes
    generalize a.eval x=xx at *
    split at hes
    . rename_i hv
      rw [vM_nil hv] at hx
      cases hx;cases hes
      exact ⟨[],⟨rfl,fun i u y hu _=>by simp at hu⟩,.inl ⟨rfl,rfl⟩⟩
    . rename_i r hv
      rw [vM_yes hv] at hx
      cases hx
      rename_i e hb
      split at hes
      . rename_i es2 hgb
        cases hes
        have hbr:=hs.ma r e hb
        rw [hgb] at hbr
        obtain ⟨_,es',clock,q1,q2,q3⟩:=hbr
        exact ⟨es'.toList,⟨q2,q3⟩,.inr ⟨e.c,clock,rfl,by simpa using q1⟩⟩
      . cases hes
    . cases hes
   obtain ⟨l,hel,hx2⟩:=hent
   have run:∀ (r:Option AV),(Bool.rec (motive:=fun _=>Option (Option AV)) none (mfind (Gh P mi.kt (ev i f)) es) (E0 P mi.kt (ev i f)):Option (Option AV))=some r->∃ z v1,(match r with|some u=>Aq σ u v1/\z=true|none=>Aq σ mi.z v1/\z=false) /\
    (Instr.lookup t (a.eval x) (a.eval i) ok).run P w=.ok (if ok then .tuple #[v1,.bool z] else v1) w:=by
    intro r hr0
    have hr1:E0 P mi.kt (ev i f)=true/\mfind (Gh P mi.kt (ev i f)) es=some r:=by
     cases hq:E0 P mi.kt (ev i f) with
     |false=>rw [hq] at hr0;cases hr0
     |true=>rw [hq] at hr0;exact ⟨rfl,hr0⟩
    obtain ⟨hkc,hr⟩:=hr1
    have hck:=ks.chk _ _ hkc hi
    have hm:=mfind_rel ks hi es l r hr hel
    cases r with
    |none=>
     have hm':FindRun P mi.kt (a.eval i) l none:=hm
     refine ⟨false,z',⟨hzr,rfl⟩,?_⟩
     rcases hx2 with ⟨hxx,rfl⟩|⟨c,clock,hxx,hc⟩
     . simp only [Instr.lookup,hxx,Sem.run_bind,run_underlying hu,Result.andThen_ok,Sem.run_pure,hck,List.toList_toArray,hm' _,zeroValue,typeInfo,run_program,hi1,hzz]
     . have hgo:(getObj c).run P w=.ok (.map l.toArray clock) w:=by simp [getObj,Sem.run,hc]
       simp only [Instr.lookup,hxx,Sem.run_bind,run_underlying hu,Result.andThen_ok,hgo,Sem.run_pure,hck,List.toList_toArray,hm' _,zeroValue,typeInfo,run_program,hi1,hzz]
    |some u=>
     obtain ⟨j,y,hj,hy⟩:=hm
     refine ⟨true,y,⟨hy,rfl⟩,?_⟩
     rcases hx2 with ⟨hxx,rfl⟩|⟨c,clock,hxx,hc⟩
     . have:=hj w;simp [Instr.findKey,run_underlying ks.und,Instr.findNow] at this
     . have hgo:(getObj c).run P w=.ok (.map l.toArray clock) w:=by simp [getObj,Sem.run,hc]
       simp only [Instr.lookup,hxx,Sem.run_bind,run_underlying hu,Result.andThen_ok,hgo,Sem.run_pure,hck,List.toList_toArray,hj _]
   split at he'
   . rename_i u hr
     obtain ⟨z,v1,⟨h1,rfl⟩,h2⟩:=run _ hr
     obtain ⟨rfl,rfl⟩:=By he'
     refine ⟨σ,_,w,.inl (by simp [execOp,h2];rfl),?_,Out.refl hs.ai hs.so hs.ma⟩
     cases ok
     . exact h1
     . exact tup2 h1 (.bool true)
   . rename_i hr
     obtain ⟨z,v1,⟨h1,rfl⟩,h2⟩:=run _ hr
     obtain ⟨rfl,rfl⟩:=By he'
     refine ⟨σ,_,w,.inl (by simp [execOp,h2];rfl),?_,Out.refl hs.ai hs.so hs.ma⟩
     cases ok
     . exact h1
     . exact tup2 h1 (.bool false)
   . cases he'
 . cases he'
theorem mset_now {eq:AV->Option Bool} {d:TypeDesc} {k x:AV} {k' x':Value} (hk:Aq σ k k') (hx:Aq σ x x') (clock:Nat)
 (hq:∀ (y:AV) (y':Value) (b:Bool),eq y=some b->Aq σ y y'->Instr.sameNow d k' y'=some b/\(b=true->Instr.sameBits 10000 y' k'=true)):
 ∀ (es es2:List (AV × AV)) (l:List MapEntry) (i:Nat),mset eq k x es=some es2->ERel σ es l ->
  (∃ j y e,Instr.findNow d k' l i=some (some (i+j,y))/\l[j]?=some e/\Instr.sameBits 10000 e.key k'=true/\ERel σ es2 (l.set j { e with key:=k',val:=x' })) \/
  (Instr.findNow d k' l i=some none/\ERel σ es2 (l++[{ key:=k',val:=x',born:=clock }])):=by
 intro es
 induction es with
 |nil=>
  intro es2 l i hm he
  have:l=[]:=by have:=he.1;cases l;rfl;simp at this
  subst this
  cases hm
  exact .inr ⟨rfl,ERel.cons hk hx ⟨rfl,fun i u y hu _=>by simp at hu⟩⟩
 |cons e0 es ih=>
  intro es2 l i hm he
  obtain ⟨y,l',rfl,h1,h2,h3⟩:=he.Fy
  simp only [mset] at hm
  split at hm
  . rename_i hb
    cases hm
    obtain ⟨q1,q2⟩:=hq e0.1 y.key true hb h1
    exact .inl ⟨0,y.val,y,by simp [Instr.findNow,q1],by simp,q2 rfl,ERel.cons hk hx h3⟩
  . rename_i hb
    obtain ⟨q1,_⟩:=hq e0.1 y.key false hb h1
    split at hm
    . rename_i r hr
      cases hm
      rcases ih r l' (i+1) hr h3 with ⟨j,z,e,g1,g2,g3,g4⟩|⟨g1,g2⟩
      . refine .inl ⟨j+1,z,e,?_,by simpa using g2,g3,?_⟩
        . simp only [Instr.findNow,q1]
          rw [g1]
          congr 3
          omega
        . simp only [List.set_cons_succ]
          exact ERel.cons h1 h2 g4
      . refine .inr ⟨?_,ERel.cons h1 h2 g2⟩
        simp only [Instr.findNow,q1]
        exact g1
    . cases hm
  . cases hm
theorem mset_ask {eq:AV->Option Bool} {kt:TypeId} {k x:AV} {k' x':Value} (hk:Aq σ k k') (hx:Aq σ x x') (clock:Nat)
 (hq:∀ (y:AV) (y':Value) (b:Bool),eq y=some b->Aq σ y y'->(∀ w,(Op.equal kt k' y').run P w=.ok b w)/\(b=true->Instr.sameBits 10000 y' k'=true)):
 ∀ (es es2:List (AV × AV)) (l:List MapEntry) (i:Nat),mset eq k x es=some es2->ERel σ es l ->
  (∃ j y e,(∀ w,(Instr.findAsking kt k' l i).run P w=.ok (some (i+j,y)) w)/\l[j]?=some e/\Instr.sameBits 10000 e.key k'=true/\ERel σ es2 (l.set j { e with key:=k',val:=x' })) \/
  ((∀ w,(Instr.findAsking kt k' l i).run P w=.ok none w)/\ERel σ es2 (l++[{ key:=k',val:=x',born:=clock }])):=by
 intro es
 induction es with
 |nil=>
  intro es2 l i hm he
  have:l=[]:=by have:=he.1;cases l;rfl;simp at this
  subst this
  cases hm
  exact .inr ⟨fun w=>by simp [Instr.findAsking],ERel.cons hk hx ⟨rfl,fun i u y hu _=>by simp at hu⟩⟩
 |cons e0 es ih=>
  intro es2 l i hm he
  obtain ⟨y,l',rfl,h1,h2,h3⟩:=he.Fy
  simp only [mset] at hm
  split at hm
  . rename_i hb
    cases hm
    obtain ⟨q1,q2⟩:=hq e0.1 y.key true hb h1
    exact .inl ⟨0,y.val,y,fun w=>by simp [Instr.findAsking,q1],by simp,q2 rfl,ERel.cons hk hx h3⟩
  . rename_i hb
    obtain ⟨q1,_⟩:=hq e0.1 y.key false hb h1
    split at hm
    . rename_i r hr
      cases hm
      rcases ih r l' (i+1) hr h3 with ⟨j,z,e,g1,g2,g3,g4⟩|⟨g1,g2⟩
      . refine .inl ⟨j+1,z,e,?_,by simpa using g2,g3,?_⟩
        . intro w
          simp only [Instr.findAsking,Sem.run_bind,q1,Result.andThen_ok,Bool.false_eq_true,if_false]
          rw [g1 w,show i+1+j=i+(j+1) by omega]
        . simp only [List.set_cons_succ]
          exact ERel.cons h1 h2 g4
      . refine .inr ⟨?_,ERel.cons h1 h2 g2⟩
        intro w
        simp only [Instr.findAsking,Sem.run_bind,q1,Result.andThen_ok,Bool.false_eq_true,if_false]
        exact g1 w
    . cases hm
  . cases hm
theorem mset_rel {kt:TypeId} {d:TypeDesc} (ks:KSpec P σ kt d) {k x:AV} {k' x':Value} (hk:Aq σ k k') (hx:Aq σ x x') (clock:Nat) (es es2:List (AV × AV)) (l:List MapEntry) (hm:mset (Gh P kt k) k x es=some es2) (he:ERel σ es l):
 (∃ j y e,FindRun P kt k' l (some (j,y))/\l[j]?=some e/\Instr.sameBits 10000 e.key k'=true/\ERel σ es2 (l.set j { e with key:=k',val:=x' })) \/
  (FindRun P kt k' l none/\ERel σ es2 (l++[{ key:=k',val:=x',born:=clock }])):=by
 rcases ks.eq with hq|⟨hno,hq⟩
 . rcases mset_now (σ:=σ) (d:=d) hk hx clock (fun y y' b hb hy=>⟨hq k y k' y' b hb hk hy,fun hb'=>by subst hb';exact ks.bits k y k' y' hb hk hy⟩) es es2 l 0 hm he with ⟨j,y,e,g1,g2⟩|⟨g1,g2⟩
   . rw [Nat.zero_add] at g1
     exact .inl ⟨j,y,e,find_now ks.und g1,g2⟩
   . exact .inr ⟨find_now ks.und g1,g2⟩
 . rcases mset_ask (σ:=σ) (P:=P) (kt:=kt) hk hx clock (fun y y' b hb hy=>⟨hq k y k' y' b hb hk hy,fun hb'=>by subst hb';exact ks.bits k y k' y' hb hk hy⟩) es es2 l 0 hm he with ⟨j,y,e,g1,g2⟩|⟨g1,g2⟩
   . simp only [Nat.zero_add] at g1
     exact .inl ⟨j,y,e,find_ask ks.und hno g1,g2⟩
   . exact .inr ⟨find_ask ks.und hno g1,g2⟩
theorem map_core (t:TypeId) (m k x:Operand) {ctx:Ae} (he:Ew t m k x ty P ctx f h=.ok v h') (h1:Ej G m=true) (h2:Ej G k=true) (h3:Ej G x=true) (hs:St G σ nt f a h w):
 ∃ w',(Instr.mapUpdate t (a.eval m) (a.eval k) (a.eval x)).run P w=.ok () w'/\v=.Bl []/\Out G σ h w σ h' w':=by
 have hm:=Ce hs.fr hs.gl m h1
 have hk:=Ce hs.fr hs.gl k h2
 have hx:=Ce hs.fr hs.gl x h3
 unfold Ew at he
 split at he
 . rename_i mi r hmi hvm
   obtain ⟨et,hu,hz,hsc⟩:=mInfo_some hmi
   obtain ⟨d,ks⟩:=key_spec (P:=P) (σ:=σ) hsc
   rw [vM_yes hvm] at hm
   generalize hmm:a.eval m=mm at *
   cases hm
   rename_i e hb
   split at he
   . rename_i es hgb
     split at he
     . rename_i es2 hms0
       have hms1:E0 P mi.kt (ev k f)=true/\mset (Gh P mi.kt (ev k f)) (ev k f) (ev x f) es=some es2:=by
        cases hq:E0 P mi.kt (ev k f) with
        |false=>rw [hq] at hms0;cases hms0
        |true=>rw [hq] at hms0;exact ⟨rfl,hms0⟩
       obtain ⟨hkc,hms⟩:=hms1
       have hck:=ks.chk _ _ hkc hk
       obtain ⟨rfl,rfl⟩:=By he
       have hbr:=hs.ma r e hb
       rw [hgb] at hbr
       obtain ⟨hek,es',clock,q1,q2,q3⟩:=hbr
       have hgo:(getObj e.c).run P w=.ok (.map es' clock) w:=by simp [getObj,Sem.run,q1]
       have hso:∀ o,(setObj e.c o).run P w=.ok () (B6 w e.c o):=fun o=>by simp [setObj,Sem.run,q1,B6]
       have hcore:=mset_rel ks hk hx clock es es2 es'.toList hms ⟨q2,q3⟩
       have fin:∀ es3:Array MapEntry,∀ cl,ERel σ es2 es3.toList->Out G σ h w σ (h.put r (.map es2)) (B6 w e.c (.map es3 cl)):=by
        intro es3 cl her
        refine put_self_step hs.ai hs.so hs.ma hb hgb (by simp) (by simp) rfl rfl hek (by simp) ?_
        exact ⟨hek,es3,cl,by rw [C1,if_pos ⟨rfl,Dd q1⟩],her.1,her.2⟩
       rcases hcore with ⟨j,y,e0,g1,g2,g3,g4⟩|⟨g1,g2⟩
       . have hje:es'[j]?=some e0:=by simpa using g2
         refine ⟨B6 w e.c (.map (es'.modify j fun e=>{ e with key:=a.eval k,val:=a.eval x }) clock),?_,rfl,fin _ _ ?_⟩
         . have hks:(Instr.keyThatStays e0.key (a.eval k)).run P w=.ok (a.eval k) w:=by simp [Instr.keyThatStays,g3]
           simp only [Instr.mapUpdate,Sem.run_bind,run_underlying hu,Result.andThen_ok,hgo,hck,g1 _,Sem.run_pure,hje,Option.map_some,Option.getD_some,hks,hso]
         . have:(es'.modify j fun e=>{ e with key:=a.eval k,val:=a.eval x }).toList=es'.toList.set j { e0 with key:=a.eval k,val:=a.eval x }:=by
            apply List.ext_getElem?
            intro q
            rw [Array.getElem?_toList,Array.getElem?_modify,List.getElem?_set]
            by_cases hq:j=q
            . subst hq
              have hlt:j<es'.toList.length:=(List.getElem?_eq_some_iff.1 g2).1
              simp [hje]
              simpa using hlt
            . simp [hq]
           rw [this]
           exact g4
       . refine ⟨B6 w e.c (.map (es'.push { key:=a.eval k,val:=a.eval x,born:=clock }) (clock+1)),?_,rfl,fin _ _ ?_⟩
         . simp only [Instr.mapUpdate,Sem.run_bind,run_underlying hu,Result.andThen_ok,hgo,hck,g1 _,Sem.run_pure,hso]
         . rw [Array.toList_push];exact g2
     . cases he
   . cases he
 . cases he
theorem good3_mapUpdate (t:TypeId) (m k x:Operand):Good3 P G ⟨dst,.mapUpdate t m k x,ty,pos,af,gd⟩:=by
 intro σ nt f a h h' w v ctx he C2 hs hl hf
 simp [Op.operands] at C2
 obtain ⟨w',h1,rfl,h2⟩:=map_core (P:=P) (ty:=ty) (ctx:=ctx) t m k x he C2.1 C2.2.1 C2.2.2 hs
 exact ⟨σ,undef,w',.inr ⟨by simp [execOp,h1],rfl⟩,undef_rel σ,h2⟩
theorem good3_insert (t:TypeId) (m k x:Operand):Good3 P G ⟨dst,.insert t m k x,ty,pos,af,gd⟩:=by
 intro σ nt f a h h' w v ctx he C2 hs hl hf
 simp [Op.operands] at C2
 obtain ⟨w',h1,rfl,h2⟩:=map_core (P:=P) (ty:=ty) (ctx:=ctx) t m k x he C2.1 C2.2.1 C2.2.2 hs
 exact ⟨σ,undef,w',.inr ⟨by simp [execOp,h1],rfl⟩,undef_rel σ,h2⟩
end ops
end Go.Ev
namespace Go.Ev
variable [Lim]
variable {P:Program} {G:Nat} {σ:Dj} {h h':H} {w w':World} {v:AV} {nt:Nat} {f:L2} {a:Act} {ctx:Ae}
structure Ms (G:Nat) (σ:Dj) (h:H) (w:World):Prop where
 ai:AInv h
 so:SOk σ w
 ma:MAll G σ h.m.get w
theorem Ms.draw (hs:Ms G σ h w) (n:Nat):Ms G σ h { w with drawn:=n }:=⟨hs.ai,⟨hs.so.inj,hs.so.rng,hs.so.low⟩,fun b e hb=>Gb.congr (Sle.refl σ) rfl (fun _ _ _ _ _ hh=>hh) (hs.ma b e hb)⟩
theorem src_run {s n:Nat} {x:AV} {y:Value} {new:List AV} (hsrc:srcOf h s x=some (n,new)) (hx:Aq σ x y) (hs:Ms G σ h w):
 (∀ w',(Builtin.lenOf y).run P w'=.ok n w')/\∃ l:List Value,Bd σ new l/\l.length=n * s/\∀ k,k<=n->∀ w',w'.heap=w.heap->∃ l',(Builtin.firstCells s k y).run P w'=.ok l' w'/\l'.toList=l.take (k * s):=by
 unfold srcOf at hsrc
 split at hsrc
 . rename_i hv
   rw [vL_nil hv] at hx
   cases hx;cases hsrc
   exact ⟨fun _=>rfl,[],Bd.nil σ,by simp,fun k hk w' _=>⟨#[],rfl,by simp⟩⟩
 . rename_i b off len cap sz ex hv
   rw [vL_yes hv] at hx
   cases hx
   rotate_left
   . rename_i off e a cc hb
     split at hsrc
     . rename_i c hrd
       have e0:0 * s=0:=Nat.zero_mul s
       rw [e0] at hsrc
       have hnew:n=0/\new=[]:=by
        rw [E1] at hsrc
        split at hsrc
        . simp at hsrc;exact ⟨hsrc.1.symm,hsrc.2⟩
        . cases hsrc
       obtain ⟨rfl,rfl⟩:=hnew
       refine ⟨fun _=>rfl,[],Bd.nil σ,by simp,fun k hk w' _=>⟨#[],?_,by simp⟩⟩
       have hk0:k=0:=by omega
       subst hk0
       simp [Builtin.firstCells]
       rfl
     . cases hsrc
   rename_i e cc hb g1 g2 g3 g4
   split at hsrc
   . rename_i c hrd
     cases hcut:lcut c off (len * s) with
     |none=>simp [hcut] at hsrc
     |some r=>
      simp [hcut] at hsrc
      obtain ⟨rfl,rfl⟩:=hsrc
      obtain ⟨arr,tt,fz,q1,q2,q3,q4⟩:=blk_of_rd hrd (hs.ma b e hb)
      obtain ⟨r1,_,r3⟩:=lcut_some hcut
      have hrel:=cut_rel hcut q4 (by omega)
      refine ⟨fun _=>rfl,_,hrel,by have:=hrel.1;omega,fun k hk w' hw'=>?_⟩
      have hks:k * s<=len * s:=Nat.mul_le_mul_right s hk
      refine ⟨((arr.toList.drop off).take (k * s)).toArray,?_,?_⟩
      . exact run_loadBlk (P:=P) (by rw [hw'];exact q1) (by omega)
      . simp [List.take_take,Nat.min_eq_left hks]
   . cases hsrc
 . split at hsrc
   . rename_i s2 hv
     rw [vS_yes hv] at hx
     cases hx
     rename_i bs
     cases hq:Nat.beq s 1 with
     |false=>rw [hq] at hsrc;cases hsrc
     |true=>
      rw [hq] at hsrc
      have e1:=Cf hq
      subst e1
      cases hsrc
      have hlen:slen (bytesOf bs)=bs.size:=by rw [slen_eq,Fl]
      rw [hlen]
      refine ⟨fun _=>rfl,_,toCells_rel σ bs,by rw [Array.length_toList,Array.size_map,Nat.mul_one];rfl,fun k hk w' _=>⟨_,rfl,?_⟩⟩
      simp only [Array.toList_map,Nat.mul_one,List.map_take]
      rw [ByteArray.data_extract,Array.toList_extract]
      simp [List.map_take]
   . cases hsrc
theorem growBy_le (newLen:Nat):∀ (r c:Nat),c<newLen->Builtin.growBy newLen r c<=newLen+(newLen+768) / 4:=by
 intro r
 induction r with
 |zero=>intro c hc;simp [Builtin.growBy];omega
 |succ r ih=>
  intro c hc
  simp only [Builtin.growBy]
  rw [if_neg (by omega)]
  by_cases h2:c+(c+768) / 4<newLen
  . exact ih _ h2
  . cases r with
    |zero=>simp [Builtin.growBy];omega
    |succ r=>simp only [Builtin.growBy];rw [if_pos (by omega)];omega
theorem nextcap_le (need old:Nat) (hlt:old<need):Builtin.nextslicecap need old<=2 * need+200:=by
 unfold Builtin.nextslicecap
 split
 . omega
 . split
   . omega
   . have:=growBy_le need 4 old hlt;omega
theorem zeroCells_size (z:Array Value) (n:Nat):(Builtin.zeroCells z n).size=n * z.size:=by simp [Builtin.zeroCells]
theorem append_grows {ts:Array TypeId} {ty st t2:TypeId} {i:SI} {inf:TypeInfo} {zz:Value} {s' x':Value} {base:Option Addr} {len cap n:Nat} {old new:Array Value}
 (ht:ts[0]?=some st) (ht2:ts[1]?=some t2) (hni:notInt P t2=true) (hu:P.underlying st=some (.slice i.e)) (hi:P.info? i.e=some inf) (hsz:inf.size=i.s) (hby:inf.bytes=i.bytes) (hzz:inf.zero=some zz)
 (hs:s'=.slice base len cap) (hlen:∀ w',(Builtin.lenOf x').run P w'=.ok n w') (hlt:cap<len+n) (hsm:(len+n) * (i.bytes+1)<1000000000000)
 (hold:∀ w',w'.heap=w.heap->(Builtin.firstCells i.s len s').run P w'=.ok old w') (hnew:∀ w',w'.heap=w.heap->(Builtin.firstCells i.s n x').run P w'=.ok new w'):
 ∃ nc,len+n<=nc/\(Builtin.append_ ts ty #[s',x']).run P w=.ok (.slice (some ⟨w.heap.size,0,none⟩) (len+n) nc) (C5 { w with drawn:=w.drawn+1 } (.cells (old++new++Builtin.zeroCells zz.cells (nc - (len+n))) i.e)):=by
 subst hs
 generalize hq:Question.cut (.appendCap (len+n) cap i.e) (w.tape w.drawn (.appendCap (len+n) cap i.e))=nc
 have hcap:len+n<=nc:=by rw [<- hq];simp [Question.cut]
 refine ⟨nc,hcap,?_⟩
 have hzero:∃ d,P.underlying t2=some d/\∀ k,d≠.int k:=by
  unfold notInt at hni
  cases hd:P.underlying t2 with
  |none=>rw [hd] at hni;cases hni
  |some d=>exact ⟨_,rfl,fun k hk=>by rw [hd,hk] at hni;cases hni⟩
 obtain ⟨d,hd,hdi⟩:=hzero
 have hneed:len+n<=(len+n) * (i.bytes+1):=Nat.le_mul_of_pos_right _ (by omega)
 have hb:(len+n) * i.bytes<=(len+n) * (i.bytes+1):=Nat.mul_le_mul_left _ (by omega)
 have hnc:=nextcap_le (len+n) cap hlt
 have hbyt:i.bytes<=1000000000000:=by
  rcases Nat.eq_zero_or_pos (len+n) with h0|h0
  . omega
  . have:i.bytes+1<=(len+n) * (i.bytes+1):=Nat.le_mul_of_pos_left _ h0
    omega
 have hmul:Builtin.nextslicecap (len+n) cap * i.bytes<=(2 * (len+n)+200) * i.bytes:=Nat.mul_le_mul_right _ hnc
 have hmul2:(2 * (len+n)+200) * i.bytes=2 * ((len+n) * i.bytes)+200 * i.bytes:=by rw [Nat.add_mul,Nat.mul_assoc]
 have c1:¬ (((len+n:Nat):Int) > IntKind.i64.max):=by
  have:IntKind.i64.max=9223372036854775807:=by decide
  rw [this];omega
 have c2:¬ (Builtin.nextslicecap (len+n) cap * i.bytes > 2 ^ 48):=by omega
 have hfor:(Question.appendCap (len+n) cap i.e).forced=false:=rfl
 have hch:(choose (.appendCap (len+n) cap i.e)).run P w=.ok nc { w with drawn:=w.drawn+1 }:=by
  simp only [choose,Sem.run,hfor,Bool.false_eq_true,if_false,hq]
 have hso:∀ w',(sizeOf i.e).run P w'=.ok i.s w':=fun w'=>by simp [sizeOf,typeInfo,hi,hsz]
 have hti:∀ w',(typeInfo i.e).run P w'=.ok inf w':=fun w'=>by simp [typeInfo,hi]
 have hzv:∀ w',(zeroValue i.e).run P w'=.ok zz w':=fun w'=>by simp [zeroValue,hti,hzz]
 have ho:=hold { w with drawn:=w.drawn+1 } rfl
 have hn:=hnew { w with drawn:=w.drawn+1 } rfl
 have hud:(underlying t2).run P w=.ok d w:=run_underlying hd w
 simp only [Builtin.append_,ht,ht2,List.getElem?_toArray,List.getElem?_cons_zero,List.getElem?_cons_succ,Sem.run_bind,run_underlying hu,Result.andThen_ok,hso,hud,Sem.run_pure,Bool.false_eq_true,if_false,hlen,if_neg (Nat.not_le_of_lt hlt)]
 have c3:¬ (Builtin.nextslicecap (len+n) cap * inf.bytes > 2 ^ 48):=by rw [hby];exact c2
 split
 . simp only [Bool.not_false,if_true,hlen,Sem.run_bind,Result.andThen_ok,if_neg (Nat.not_le_of_lt hlt),c1,false_and,if_false,hti,c3,hch,run_askRoom,ho,hn,hzv,newRow]
   rfl
 . rename_i hz
   exact absurd rfl hz
theorem append_in {ts:Array TypeId} {ty st t2:TypeId} {i:SI} {inf:TypeInfo} {s' x':Value} {base:Option Addr} {len cap n:Nat} {new:Array Value}
 (ht:ts[0]?=some st) (ht2:ts[1]?=some t2) (hni:notInt P t2=true) (hu:P.underlying st=some (.slice i.e)) (hi:P.info? i.e=some inf) (hsz:inf.size=i.s)
 (hs:s'=.slice base len cap) (hlen:∀ w',(Builtin.lenOf x').run P w'=.ok n w') (hle:len+n<=cap)
 (hnew:(Builtin.firstCells i.s n x').run P w=.ok new w) (hst:∀ c,base=some c->(storeCells (c.add (len * i.s)) new.toList).run P w=.ok () w') (hst0:base=none->w'=w):
 (Builtin.append_ ts ty #[s',x']).run P w=.ok (.slice base (len+n) cap) w':=by
 subst hs
 have hzero:∃ d,P.underlying t2=some d/\∀ k,d≠.int k:=by
  unfold notInt at hni
  cases hd:P.underlying t2 with
  |none=>rw [hd] at hni;cases hni
  |some d=>exact ⟨_,rfl,fun k hk=>by rw [hd,hk] at hni;cases hni⟩
 obtain ⟨d,hd,hdi⟩:=hzero
 have hso:∀ w',(sizeOf i.e).run P w'=.ok i.s w':=fun w'=>by simp [sizeOf,typeInfo,hi,hsz]
 have hud:(underlying t2).run P w=.ok d w:=run_underlying hd w
 simp only [Builtin.append_,ht,ht2,List.getElem?_toArray,List.getElem?_cons_zero,List.getElem?_cons_succ,Sem.run_bind,run_underlying hu,Result.andThen_ok,hso,hud,Sem.run_pure,Bool.false_eq_true,if_false,hlen,if_pos hle,Bool.not_false,if_true]
 cases base with
 |none=>
  cases hst0 rfl
  simp only [hnew,Result.andThen_ok,Sem.run_pure]
 |some c=>
  have hst:=hst c rfl
  simp only [hnew,hst,Result.andThen_ok,Sem.run_bind,Sem.run_pure]
theorem take_all {l:List Value} {n:Nat} (hn:l.length=n):l.take n=l:=by rw [<- hn];simp
theorem arr_of_list {x:Array Value} {l:List Value} (hx:x.toList=l):x=l.toArray:=by rw [<- hx]
def BOut (P:Program) (G:Nat) (σ:Dj) (h:H) (w:World) (s:Sem Value) (v:AV) (h':H):Prop:=
 ∃ σ' v' w',s.run P w=.ok v' w'/\Aq σ' v v'/\Out G σ h w σ' h' w'
theorem SOk.place {b b0:Nat} {e e':SE} (hs:SOk σ w) (hb:b<Bh) (h0:σ b0=some e) (he:e'.c=e.c) (hk:e'.k=e.k) (hn:e.k≠none) (hw:w'.heap.size=w.heap.size):SOk (Gd σ b e') w':=by
 refine ⟨?_,?_,?_⟩
 . intro x y e1 e2 h1 h2 h3
   unfold Gd at h1 h2
   split at h1
   . cases h1
     split at h2
     . left;omega
     . rcases hs.inj y b0 e2 e h2 h0 (by omega) with h4|⟨h4,h5⟩
       . subst h4;rw [h0] at h2;cases h2;exact .inr ⟨hk,by rw [hk];exact hn⟩
       . exact .inr ⟨by rw [hk,h4],by rw [hk];exact hn⟩
   . split at h2
     . cases h2
       rcases hs.inj x b0 e1 e h1 h0 (by omega) with h4|⟨h4,h5⟩
       . subst h4;rw [h0] at h1;cases h1;exact .inr ⟨hk.symm,hn⟩
       . exact .inr ⟨by rw [hk,h4],h5⟩
     . exact hs.inj x y e1 e2 h1 h2 h3
 . intro x e1 h1
   unfold Gd at h1
   rw [hw]
   split at h1
   . cases h1;have:=hs.rng b0 e h0;omega
   . exact hs.rng x e1 h1
 . intro x e1 h1
   unfold Gd at h1
   split at h1
   . omega
   . exact hs.low x e1 h1
theorem ctrN_some {o:AO} {n:Nat} (hh:ctrN o=some n):o=.ctr n:=by
 cases o<;>first|(cases hh;done)|skip
 cases hh;rfl
theorem three_get {xs ys zs:List Value} {cs:List AV} (hr:Bd σ cs (xs++ys)):∀ (i:Nat) (x:AV) (y:Value),cs[i]?=some x->(xs++ys++zs).toArray[i]?=some y->Aq σ x y:=by
 intro i x y hx hy
 have hlt:=(List.getElem?_eq_some_iff.1 hx).1
 rw [hr.1] at hlt
 rw [List.getElem?_toArray,List.getElem?_append_left hlt] at hy
 exact hr.2 i x y hx hy
theorem append_size {i:SI} {zz:Value} {old l:List Value} {len n nc:Nat} (hlzz:zz.cells.size=i.s) (ho:old.length=len * i.s) (hll:l.length=n * i.s) (hnc:len+n<=nc):
 (old.toArray++l.toArray++Builtin.zeroCells zz.cells (nc - (len+n))).size=nc * i.s:=by
 rw [Array.size_append,Array.size_append,zeroCells_size,hlzz]
 simp only [List.size_toArray,hll,ho]
 have:nc=len+n+(nc - (len+n)):=by omega
 rw [<- Nat.add_mul,<- Nat.add_mul,<- this]
theorem append_cells {zz:Value} {old l:List Value} {cs:List AV} (k:Nat) (hr:Bd σ cs (old++l)):
 ∀ (j:Nat) (x:AV) (y:Value),cs[j]?=some x->(old.toArray++l.toArray++Builtin.zeroCells zz.cells k)[j]?=some y->Aq σ x y:=by
 intro j a1 a2 g1 g2
 have e:(old.toArray++l.toArray++Builtin.zeroCells zz.cells k)=(old++l++(Builtin.zeroCells zz.cells k).toList).toArray:=by apply Array.ext';simp
 rw [e] at g2
 exact three_get hr j a1 a2 g1 g2
theorem grow_out {i:SI} {zz:Value} {old l:List Value} {cs:List AV} {len n nc:Nat} (hlzz:zz.cells.size=i.s) (hr:Bd σ cs (old++l)) (ho:old.length=len * i.s) (hll:l.length=n * i.s)
 (hnc:len+n<=nc) (hm:Ms G σ h w) (hl:h.nx+1<Bh) (hf0:σ h.nx=none) (hf:σ (h.nx+1)=none):
 ∃ σ',Aq σ' (.sl (Nat.succ h.nx) 0 (len+n) (len+n) i.s false) (.slice (some ⟨w.heap.size,0,none⟩) (len+n) nc) /\
  Out G σ h w σ' ((h.new (.ctr 0)).new (.cells cs i.e (.Fz h.nx))) (C5 { w with drawn:=w.drawn+1 } (.cells (old.toArray++l.toArray++Builtin.zeroCells zz.cells (nc - (len+n))) i.e)):=by
 have hasz:=append_size (nc:=nc) hlzz ho hll hnc
 have hm2:=hm.draw (w.drawn+1)
 have hcl:cs.length=(len+n) * i.s:=by have:=hr.1;rw [List.length_append] at this;rw [Nat.add_mul];omega
 have hg:=grow_step (t:=i.e) (cs:=cs) (arr:=old.toArray++l.toArray++Builtin.zeroCells zz.cells (nc - (len+n))) (fz:=(0,0)) hm2.ai hm2.so hm2.ma hl hf0 hf
  (by rw [hasz,hcl];exact Nat.mul_le_mul_right _ (by omega)) (append_cells _ hr) (by intro j _;omega)
 refine ⟨_,?_,hg.draw⟩
 exact Aq.sl (h.nx+1) 0 (len+n) (len+n) i.s false ⟨w.heap.size,(old.toArray++l.toArray++Builtin.zeroCells zz.cells (nc - (len+n))).size,some h.nx⟩ nc (by simp [Gd]) (Nat.le_refl _) (by omega) (by intro hh;cases hh) (by intro _;simp only [hasz];omega)
theorem append1_sound {ts:Array TypeId} {ty st t2:TypeId} {s x:AV} {s' x':Value} (he:append1 P st s x h=.ok v h') (hs:Aq σ s s') (hx:Aq σ x x') (hm:Ms G σ h w)
 (ht:ts[0]?=some st) (ht2:ts[1]?=some t2) (hni:notInt P t2=true) (hl:h'.nx<=Bh) (hf:Fk σ h h'):BOut P G σ h w (Builtin.append_ ts ty #[s',x']) v h':=by
 unfold append1 at he
 split at he
 . rename_i i hsl
   obtain ⟨inf,z,zz,hu,hi,hsz,hby,hz,hzz,hlz,hlzz,hrel⟩:=slInfo_some hsl
   split at he
   . rename_i n new hsrc
     obtain ⟨hlen,l,hnl,hll,hfc⟩:=src_run (P:=P) hsrc hx hm
     have hnl2:new.length=n * i.s:=by have:=hnl.1;omega
     have hnew:∀ w',w'.heap=w.heap->(Builtin.firstCells i.s n x').run P w'=.ok l.toArray w':=by
      intro w1 hw1
      obtain ⟨l',h1,h2⟩:=hfc n (Nat.le_refl _) w1 hw1
      rw [take_all hll] at h2
      rw [h1,arr_of_list h2]
     split at he
     . rename_i hv
       rw [vL_nil hv] at hs
       cases hs
       rcases Be he with ⟨h0,he⟩|⟨h0,he⟩
       . cases he
         have:=Cf h0
         subst this
         refine ⟨σ,.slice none 0 0,w,append_in (P:=P) (base:=none) (w':=w) ht ht2 hni hu hi hsz rfl hlen (by omega) (hnew w rfl) (fun c hc=>by cases hc) (fun _=>rfl),.Cb,Out.refl hm.ai hm.so hm.ma⟩
       . rcases Be he with ⟨h1,he⟩|⟨_,he⟩
         . rcases Be he with ⟨h2,he⟩|⟨_,he⟩
           . have hpos:=beq_neN h0
             have hold0:∀ (w':World),w'.heap=w.heap->(Builtin.firstCells i.s 0 (.slice none 0 0)).run P w'=.ok ([]:List Value).toArray w':=fun w' _=>rfl
             obtain ⟨nc,hnc,hrun⟩:=append_grows (P:=P) (w:=w) (ty:=ty) (x':=x') (n:=n) (new:=l.toArray) ht ht2 hni hu hi hsz hby hzz rfl hlen (by omega:(0:Nat)<0+n) (by rw [Nat.zero_add];exact Ee h1)
              hold0 hnew
             unfold grow at he
             cases he
             obtain ⟨σ',q1,q2⟩:=grow_out (i:=i) (zz:=zz) (old:=[]) (l:=l) (cs:=new) (len:=0) (n:=n) (nc:=nc) hlzz (by simpa using hnl) (by simp) hll hnc hm hl (hf _ (Nat.le_refl _) (Nat.lt_succ_of_lt (Nat.lt_succ_self _))) (hf _ (by omega) (Nat.lt_succ_self _))
             refine ⟨σ',_,_,hrun,?_,q2⟩
             have e0:0+n=n:=Nat.zero_add n
             rw [e0] at q1 ⊢
             exact q1
           . cases he
         . cases he
     . rename_i b off len cap sz ex hv
       rw [vL_yes hv] at hs
       have hpos:=slInfo_pos hsl
       cases hs
       rotate_left
       . exfalso
         rcases Be he with ⟨h1,he⟩|⟨_,he⟩
         . rcases Be he with ⟨h2,he⟩|⟨_,he⟩
           . rcases Be he with ⟨h3,he⟩|⟨_,he⟩
             . have:=Cf h3
               omega
             . cases he
           . cases he
         . cases he
       rename_i e cc hb g2 g1 g3 g4
       rcases Be he with ⟨h1,he⟩|⟨_,he⟩
       . rcases Be he with ⟨h2,he⟩|⟨_,he⟩
         . rcases Be he with ⟨h3,he⟩|⟨_,he⟩
           . have hsm:=Ee h1
             have hsi:=Cf h3
             subst hsi
             have hone:=allOne_rel hnl h2
             unfold appSl at he
             rcases Be he with ⟨h4,he⟩|⟨h4,he⟩
             . have hle:len+n<=cap:=ble_le h4
               unfold appIn at he
               cases new with
               |nil=>
                cases he
                have hl0:l=[]:=hnl.unnil
                subst hl0
                refine ⟨σ,_,w,append_in (P:=P) (w':=w) ht ht2 hni hu hi hsz rfl hlen (show len+n<=cc by omega) (hnew w rfl) (fun c hc=>rfl) (fun _=>rfl),.sl b off _ cap i.s ex e cc hb hle g2 g3 g4,Out.refl hm.ai hm.so hm.ma⟩
               |cons new0 new1=>
               cases hw:h.wr b (off+len * i.s) (new0::new1) with
               |bad q=>rw [show (List.rec (motive:=fun _=>OR) (.ok (.sl b off (Nat.add len n) cap i.s ex) h) (fun _ _ _=>RH.rec (motive:=fun _=>OR) .bad (fun h'=>.ok (.sl b off (Nat.add len n) cap i.s ex) h') (h.wr b (off+len * i.s) (new0::new1))) (new0::new1):OR)=RH.rec (motive:=fun _=>OR) .bad (fun h'=>.ok (.sl b off (Nat.add len n) cap i.s ex) h') (h.wr b (off+len * i.s) (new0::new1)) from rfl,hw] at he;cases he
               |ok h2=>
                rw [show (List.rec (motive:=fun _=>OR) (.ok (.sl b off (Nat.add len n) cap i.s ex) h) (fun _ _ _=>RH.rec (motive:=fun _=>OR) .bad (fun h'=>.ok (.sl b off (Nat.add len n) cap i.s ex) h') (h.wr b (off+len * i.s) (new0::new1))) (new0::new1):OR)=RH.rec (motive:=fun _=>OR) .bad (fun h'=>.ok (.sl b off (Nat.add len n) cap i.s ex) h') (h.wr b (off+len * i.s) (new0::new1)) from rfl,hw] at he
                cases he
                obtain ⟨w',hr,hout⟩:=wr_step (P:=P) hw hm.ai hm.so hm.ma hb hnl hone
                refine ⟨σ,_,w',append_in (P:=P) (w':=w') ht ht2 hni hu hi hsz rfl hlen (show len+n<=cc by omega) (hnew w rfl) (fun c hc=>by cases hc;rw [Gp];exact hr) (fun hc=>by cases hc),?_,hout⟩
                exact .sl b off _ cap i.s ex e cc hb hle g2 g3 g4
             . have hgt:cap<len+n:=ble_gt h4
               rcases Be he with ⟨h5,he5⟩|⟨h5,he5⟩
               all_goals clear he
               . subst h5
                 have hcc:=g3 rfl
                 subst hcc
                 unfold appEx at he5
                 split at he5
                 . rename_i c hrd
                   split at he5
                   . rename_i old hcut
                     rw [Dn] at he5
                     unfold grow at he5
                     cases he5
                     obtain ⟨arr,tt,fz,q1,q2,q3,q4⟩:=blk_of_rd hrd (hm.ma b e hb)
                     obtain ⟨r1,_,r3⟩:=lcut_some hcut
                     have hor:=cut_rel hcut q4 (by omega)
                     have hol:((arr.toList.drop off).take (len * i.s)).length=len * i.s:=by rw [<- hor.1];exact r3
                     have hold:∀ (w':World),w'.heap=w.heap->(Builtin.firstCells i.s len (.slice (some ⟨e.c,off,none⟩) len cc)).run P w'=.ok ((arr.toList.drop off).take (len * i.s)).toArray w':=
                      fun w' hw'=>run_loadBlk (P:=P) (off:=off) (n:=len * i.s) (by rw [hw'];exact q1) (by omega)
                     obtain ⟨nc,hnc,hrun⟩:=append_grows (P:=P) (w:=w) (ty:=ty) (x':=x') (n:=n) (new:=l.toArray) ht ht2 hni hu hi hsz hby hzz rfl hlen hgt hsm hold hnew
                     obtain ⟨σ',z1,z2⟩:=grow_out (i:=i) (zz:=zz) (nc:=nc) hlzz (hor.append hnl) hol hll hnc hm hl (hf _ (Nat.le_refl _) (Nat.lt_succ_of_lt (Nat.lt_succ_self _))) (hf _ (by omega) (Nat.lt_succ_self _))
                     exact ⟨σ',_,_,hrun,z1,z2⟩
                   . cases he5
                 . cases he5
               . subst h5
                 unfold appTip at he5
                 split at he5
                 . rename_i c e' k ho
                   split at he5
                   . rename_i st old hst hcut
                     rcases Be he5 with ⟨h6,he5⟩|⟨_,he5⟩
                     . rcases Be he5 with ⟨h7,he5⟩|⟨_,he5⟩
                       . rcases Be he5 with ⟨h8,he5⟩|⟨_,he5⟩
                         . have e6:=Cf h6
                           have e7:=Cf h7
                           have e8:=Cf h8
                           subst e7
                           subst e8
                           rw [Gt] at e6
                           rw [Dn] at he5
                           cases he5
                           have hkn:=ctrN_some hst
                           have hbr:=hm.ma b e hb
                           rw [ho] at hbr
                           obtain ⟨arr,lo,hi',q1,q2,q3,q4,q5,q6⟩:=hbr.2 trivial
                           have hcc:=g4 rfl
                           have hl2:h.nx<Bh:=hl
                           have hf2:=hf h.nx (Nat.le_refl _) (Nat.lt_succ_self _)
                           have hcl:(c++new).length=(len+n) * i.s:=by rw [List.length_append,Nat.add_mul];omega
                           by_cases hfit:len+n<=cc
                           . have hmul:(len+n) * i.s<=cc * i.s:=Nat.mul_le_mul_right _ hfit
                             have hsum:(len+n) * i.s=len * i.s+n * i.s:=Nat.add_mul _ _ _
                             have hrs:=run_storeBlk P e.c (len * i.s) i.e lo hi' l 0 arr w q1 (by omega) (fun j j1 j2=>q6 trivial j (by omega)) hone
                             rw [Nat.add_zero] at hrs
                             have hsz2:len * i.s+l.length<=arr.size:=by omega
                             generalize hw1:B6 w e.c (.cells (arrPut arr (len * i.s) l) i.e (lo,hi'))=w1 at hrs
                             have hw1c:w1.heap[e.c]?=some (.cells (arrPut arr (len * i.s) l) i.e (lo,hi')):=by rw [<- hw1,C1,if_pos ⟨rfl,Dd q1⟩]
                             have hw1s:w1.heap.size=w.heap.size:=by rw [<- hw1,size_setBlk]
                             have hso2:SOk (Gd σ h.nx ⟨e.c,e.N,some k⟩) w1:=hm.so.place hl2 hb rfl hbr.1.symm (by rw [hbr.1];simp [clsK]) hw1s
                             refine ⟨Gd σ h.nx ⟨e.c,e.N,some k⟩,_,w1,append_in (P:=P) (w':=w1) ht ht2 hni hu hi hsz rfl hlen hfit (hnew w rfl) (fun c hc=>by cases hc;rw [Gp,Nat.zero_add];simpa using hrs) (fun hc=>by cases hc),?_,?_⟩
                             . exact .sl h.nx 0 _ _ i.s false ⟨e.c,e.N,some k⟩ cc (by simp [Gd]) (Nat.le_refl _) hfit (fun hh=>by cases hh) (fun _=>hcc)
                             . refine ver_step hm.ai hm.so hm.ma hb ho hkn hl2 hf2 (by rw [List.length_append];omega) rfl hso2 (by omega) (by first|exact ⟨rfl,rfl⟩|(subst hw1;exact ⟨rfl,rfl⟩)) ?_ (.inr rfl) ⟨arr,_,_,q1,hw1c,arrPut_size hsz2,?_⟩ ?_
                               . intro j _ h2;rw [<- hw1,C1,if_neg (fun hh=>h2 hh.1)]
                               . intro j hj;rw [arrPut_get hsz2,if_neg (by omega)]
                               . refine ⟨rfl,fun _=>⟨_,lo,hi',hw1c,by rw [arrPut_size hsz2];exact q2,by show (c++new).length<=e.N;omega,?_,fun hh=>(by cases hh),q6⟩⟩
                                 intro j a1 a2 j1 j2
                                 rw [arrPut_get hsz2] at j2
                                 refine Aq.mono (upd_le hf2) ?_
                                 by_cases hjl:j<c.length
                                 . rw [List.getElem?_append_left hjl] at j1
                                   rw [if_neg (by omega)] at j2
                                   exact q4 j a1 a2 j1 j2
                                 . rw [List.getElem?_append_right (by omega)] at j1
                                   have:=(List.getElem?_eq_some_iff.1 j1).1
                                   rw [if_pos (by omega)] at j2
                                   have e9:c.length=len * i.s:=by omega
                                   rw [e9] at j1
                                   exact hnl.2 _ a1 a2 j1 j2
                           . have hold:∀ (w':World),w'.heap=w.heap->(Builtin.firstCells i.s len (.slice (some ⟨e.c,0,none⟩) len cc)).run P w'=.ok ((arr.toList.drop 0).take (len * i.s)).toArray w':=
                              fun w' hw'=>run_loadBlk (P:=P) (off:=0) (n:=len * i.s) (by rw [hw'];exact q1) (by omega)
                             obtain ⟨nc,hnc,hrun⟩:=append_grows (P:=P) (w:=w) (ty:=ty) (x':=x') (n:=n) (new:=l.toArray) ht ht2 hni hu hi hsz hby hzz rfl hlen (by omega) hsm hold hnew
                             have hor:=cut_rel hcut q4 (by omega)
                             have hoc:old=c:=by obtain ⟨_,r2,_⟩:=lcut_some hcut;rw [r2,List.drop_zero,List.take_of_length_le (by omega)]
                             rw [hoc] at hor
                             have hol:((arr.toList.drop 0).take (len * i.s)).length=len * i.s:=by rw [<- hor.1];omega
                             have hasz:=append_size (nc:=nc) (i:=i) (zz:=zz) (old:=(arr.toList.drop 0).take (len * i.s)) (l:=l) hlzz hol hll hnc
                             generalize hA:((arr.toList.drop 0).take (len * i.s)).toArray++l.toArray++Builtin.zeroCells zz.cells (nc - (len+n))=A at hrun hasz
                             generalize hw1:C5 { w with drawn:=w.drawn+1 } (.cells A i.e)=w1 at hrun
                             have hm2:=hm.draw (w.drawn+1)
                             have hw1c:w1.heap[w.heap.size]?=some (.cells A i.e (0,0)):=by rw [<- hw1];exact Fp { w with drawn:=w.drawn+1 } _
                             have hso2:SOk (Gd σ h.nx ⟨w.heap.size,nc * i.s,some k⟩) w1:=by rw [<- hw1];exact hm2.so.push _ hl2 rfl
                             have hkeep:∀ j,j<w.heap.size->w1.heap[j]?=w.heap[j]?:=fun j hj=>by rw [<- hw1];exact heap_push { w with drawn:=w.drawn+1 } _ j hj
                             refine ⟨Gd σ h.nx ⟨w.heap.size,nc * i.s,some k⟩,_,w1,hrun,?_,?_⟩
                             . exact .sl h.nx 0 _ _ i.s false ⟨w.heap.size,nc * i.s,some k⟩ nc (by simp [Gd]) (Nat.le_refl _) hnc (fun hh=>by cases hh) (fun _=>by show 0+nc * i.s<=nc * i.s;omega)
                             . refine ver_step hm.ai hm.so hm.ma hb ho hkn hl2 hf2 (by rw [List.length_append];omega) rfl hso2 (by rw [<- hw1,size_push];exact Nat.le_succ _) (by rw [<- hw1];exact ⟨rfl,rfl⟩) (fun j h1 _=>hkeep j h1) (.inl (Nat.le_refl _))
                                ⟨arr,arr,(lo,hi'),q1,by rw [hkeep _ (hm.so.rng b e hb)];exact q1,rfl,fun _ _=>rfl⟩ ?_
                               refine ⟨rfl,fun _=>⟨A,0,0,hw1c,hasz,by show (c++new).length<=nc * i.s;rw [hcl];exact Nat.mul_le_mul_right _ hnc,?_,fun hh=>(by cases hh),fun _ j _=>by omega⟩⟩
                               intro j a1 a2 j1 j2
                               rw [<- hA] at j2
                               exact Aq.mono (upd_le hf2) (append_cells _ (hor.append hnl) j a1 a2 j1 j2)
                         . cases he5
                       . cases he5
                     . cases he5
                   . cases he5
                 . cases he5
           . cases he
         . cases he
       . cases he
     . cases he
   . cases he
 . cases he
end Go.Ev
namespace Go.Ev
variable [Lim]
variable {P:Program} {G:Nat} {σ:Dj} {h h':H} {w w':World} {v:AV} {nt:Nat} {f:L2} {a:Act} {ctx:Ae}
theorem BOut.quiet {s:Sem Value} {v':Value} (hm:Ms G σ h w) (hr:s.run P w=.ok v' w) (hv:Aq σ v v'):BOut P G σ h w s v h:=⟨σ,v',w,hr,hv,Out.refl hm.ai hm.so hm.ma⟩
theorem copyA_sound {ts:Array TypeId} {ty dt:TypeId} {d x:AV} {d' x':Value} (he:copyA P dt d x h=.ok v h') (hd:Aq σ d d') (hx:Aq σ x x') (hm:Ms G σ h w) (ht:ts[0]?=some dt):
 BOut P G σ h w (Builtin.copy_ ts ty #[d',x']) v h':=by
 unfold copyA at he
 split at he
 . rename_i i hsl
   obtain ⟨inf,z,zz,hu,hi,hsz,hby,hz,hzz,hlz,hlzz,hrel⟩:=slInfo_some hsl
   have hso:∀ w',(sizeOf i.e).run P w'=.ok i.s w':=fun w'=>by simp [sizeOf,typeInfo,hi,hsz]
   split at he
   . rename_i n src hsrc
     obtain ⟨hlen,l,hnl,hll,hfc⟩:=src_run (P:=P) hsrc hx hm
     split at he
     . rename_i hv
       rw [vL_nil hv] at hd
       cases hd;cases he
       obtain ⟨l',q1,q2⟩:=hfc 0 (Nat.zero_le _) w rfl
       refine .quiet hm (v':=.int .i64 0) ?_ (.int _ _)
       simp [Builtin.copy_,ht,run_underlying hu,hlen,hso,Nat.min,q1,goInt]
     . rename_i b off len cap sz ex hv
       rw [vL_yes hv] at hd
       cases hd
       rotate_left
       . exfalso
         split at he
         . have he':OR.bad 132=OR.ok v h':=he
           cases he'
         . cases he
       rename_i e cc hb g1 g2 g3 g4
       split at he
       . rename_i cs hcs
         rcases Be he with ⟨h1,he1⟩|⟨_,he1⟩
         . have h1:Bn cs=true:=by
            cases hq:Nat.blt 0 sz with
            |false=>rw [hq] at h1;cases h1
            |true=>rw [hq] at h1;exact h1
           clear he
           cases hw:h.wr b off cs with
           |bad q=>rw [hw] at he1;cases he1
           |ok h2=>
            rw [hw] at he1
            cases he1
            obtain ⟨l',q1,q2⟩:=hfc (Nat.min n len) (Nat.min_le_left _ _) w rfl
            rw [ltake_eq] at hcs
            split at hcs
            . cases hcs
              have hrel2:=hnl.take (Nat.min n len * i.s)
              rw [<- q2] at hrel2
              obtain ⟨w',hr,hout⟩:=wr_step (P:=P) hw hm.ai hm.so hm.ma hb hrel2 (allOne_rel hrel2 h1)
              refine ⟨σ,.int .i64 (Nat.min n len),w',?_,.int _ _,hout⟩
              simp [Builtin.copy_,ht,run_underlying hu,hlen,hso,q1,goInt,hr]
            . cases hcs
         . cases he1
       . cases he
     . cases he
   . cases he
 . cases he
theorem capV_sound {ts:Array TypeId} {ty t:TypeId} {x:AV} {x':Value} (hk:lkInfo P t=.sl) (he:capV x h=.ok v h') (hx:Aq σ x x') (hm:Ms G σ h w) (ht:ts[0]?=some t):
 BOut P G σ h w (Builtin.cap_ ts ty #[x']) v h':=by
 have hs:=lkInfo_says P t
 rw [hk] at hs
 obtain ⟨e,hs⟩:=hs
 unfold capV at he
 split at he
 . rename_i hv
   rw [vL_nil hv] at hx
   cases hx;cases he
   exact .quiet hm (v':=.int .i64 0) (by simp [Builtin.cap_,ht,run_underlying hs,goInt]) (.int _ _)
 . rename_i b off len c sz hv
   rw [vL_yes hv] at hx
   cases hx;cases he
   rename_i e cc hb g1 g2 g3 g4
   have:=g3 rfl
   subst this
   exact .quiet hm (v':=.int .i64 cc) (by simp [Builtin.cap_,ht,run_underlying hs,goInt]) (.int _ _)
 . cases he
theorem lnK_sound {ts:Array TypeId} {ty t:TypeId} {x:AV} {x':Value} (he:lnK (lkInfo P t) x h=.ok v h') (hx:Aq σ x x') (hm:Ms G σ h w) (ht:ts[0]?=some t):
 BOut P G σ h w (Builtin.len_ ts ty #[x']) v h':=by
 by_cases hq:∃ r,x=.map r
 . obtain ⟨r,rfl⟩:=hq
   cases hx
   rename_i e hb
   have hs:=lkInfo_says P t
   cases hk:lkInfo P t with
   |bad=>rw [hk] at he;cases he
   |str=>rw [hk] at he;cases he
   |sl=>rw [hk] at he;cases he
   |map=>
    rw [hk] at he hs
    obtain ⟨k,et,hs⟩:=hs
    have he':lnM (.map r) h=.ok v h':=he
    unfold lnM entries at he'
    have hvm:vM (.map r)=.yes r:=rfl
    rw [hvm] at he'
    dsimp only at he'
    cases hg:h.m.get r with
    |map es=>
     rw [hg] at he'
     cases he'
     have hbr:=hm.ma r e hb
     rw [hg] at hbr
     obtain ⟨_,es',clock,q1,q2,q3⟩:=hbr
     have hgo:(getObj e.c).run P w=.ok (.map es' clock) w:=by simp [getObj,Sem.run,q1]
     refine .quiet hm (v':=.int .i64 es'.size) (by simp [Builtin.len_,ht,run_underlying hs,goInt,hgo]) ?_
     have:es.length=es'.size:=by rw [q2];simp
     rw [this]
     exact .int _ _
    |_=>rw [hg] at he';cases he'
 . obtain ⟨v',q1,q2,rfl⟩:=len_quiet (P:=P) (ty:=ty) hx (fun r hr=>hq ⟨r,hr⟩) he w ts ht
   exact .quiet hm q1 q2
theorem sdV_sound {ts:Array TypeId} {ty:TypeId} {x:AV} {x':Value} (he:sdV x h=.ok v h') (hx:Aq σ x x') (hm:Ms G σ h w):
 BOut P G σ h w (Builtin.unsafeSliceData_ ts ty #[x']) v h':=by
 unfold sdV at he
 split at he
 . rename_i hv
   rw [vL_nil hv] at hx
   cases hx;cases he
   exact .quiet hm rfl .nptr
 . rename_i b off len c sz ex hv
   rw [vL_yes hv] at hx
   cases hx
   rotate_left
   . cases he
   rename_i e cc hb g1 g2 g3 g4
   rcases Be he with ⟨_,he⟩|⟨h1,he⟩
   . cases he
   . cases he
     have:=beq_neN h1
     exact .quiet hm (Lib.run_unsafeSliceData_row w ts ty _ len cc (by omega)) (.ptr b off e hb)
 . cases he
theorem minmax_run (lt:Bool):∀ (l:List AV) (l':List Value) (k:IntKind) (a:Int) (r:IntKind × Int),minmax lt k a l=some r->Bd σ l l' ->
 (l'.foldlM (if lt then Builtin.min2 else Builtin.max2) (.int k a)).run P w=.ok (.int r.1 r.2) w:=by
 intro l
 induction l with
 |nil=>
  intro l' k a r he hl
  cases hl.unnil
  cases he
  rfl
 |cons y rest ih=>
  intro l' k a r he hl
  obtain ⟨y',l2,rfl,hy,hl2⟩:=hl.Fy
  unfold minmax at he
  split at he
  . rename_i k2 b hv
    rw [vI_yes hv] at hy
    cases hy
    have:=ih l2 k _ r he hl2
    cases lt with
    |true=>
     simp only [if_true] at this ⊢
     simp only [List.foldlM_cons,Builtin.min2,Sem.run_bind,Sem.run_pure,Result.andThen_ok]
     rw [<- this]
     rw [ilt_eq]
     by_cases hb:b<a
     . rw [if_pos hb,decide_eq_true hb]
     . rw [if_neg hb,decide_eq_false hb]
    |false=>
     simp only [Bool.false_eq_true,if_false] at this ⊢
     simp only [List.foldlM_cons,Builtin.max2,Sem.run_bind,Sem.run_pure,Result.andThen_ok]
     rw [<- this]
     rw [ilt_eq]
     by_cases hb:a<b
     . rw [if_pos hb,decide_eq_true hb]
     . rw [if_neg hb,decide_eq_false hb]
  . cases he
theorem mm_sound (lt:Bool) {ts:Array TypeId} {ty:TypeId} {l:List AV} {l':List Value} (he:mm lt l h=.ok v h') (hl:Bd σ l l') (hm:Ms G σ h w):
 BOut P G σ h w (if lt then Builtin.min_ ts ty l'.toArray else Builtin.max_ ts ty l'.toArray) v h':=by
 unfold mm at he
 split at he
 . rename_i x rest
   obtain ⟨y,l2,rfl,hy,hl2⟩:=hl.Fy
   split at he
   . rename_i k n hv
     rw [vI_yes hv] at hy
     cases hy
     split at he
     . rename_i k2 n2 hmm
       cases he
       have:=minmax_run (P:=P) (w:=w) lt rest l2 k n _ hmm hl2
       refine .quiet hm (v':=.int k2 n2) ?_ (.int _ _)
       cases lt<;>exact this
     . cases he
   . cases he
 . cases he
theorem freeze_blk {c n:Nat} {arr:Array Value} {t:TypeId} {lo hi:Nat} (hc:w.heap[c]?=some (.cells arr t (lo,hi))) (hn:n≠0):∃ fz,w.freeze ⟨c,0,none⟩ n=B6 w c (.cells arr t fz):=by
 refine ⟨if lo == hi then (0,0+n) else (min lo 0,max hi (0+n)),?_⟩
 unfold World.freeze B6
 rw [if_neg hn]
 congr 1
 apply Array.ext_getElem?
 intro j
 have hlt:=Dd hc
 rw [Array.getElem?_modify]
 by_cases hj:c=j
 . subst hj
   have:w.heap[c]=.cells arr t (lo,hi):=by rw [Array.getElem?_eq_getElem hlt] at hc;exact Option.some.inj hc
   simp [hlt,this]
 . simp [hj,Array.getElem?_setIfInBounds_ne hj]
theorem usV_sound {ts:Array TypeId} {ty t t2:TypeId} {p n:AV} {p' n':Value} (he:usV P t p n h=.ok v h') (hp:Aq σ p p') (hn:Aq σ n n') (hm:Ms G σ h w) (ht:ts=#[t,t2]):
 BOut P G σ h w (Builtin.unsafeString_ ts ty #[p',n']) v h':=by
 subst ht
 unfold usV at he
 split at he
 . rename_i h1 h2
   rw [vP_nil h1] at hp
   rw [natV_some h2] at hn
   cases hp;cases hn;cases he
   exact .quiet hm (Lib.run_unsafeString_none w t t2 ty none) (.str ByteArray.empty)
 . rename_i b off h1 h2
   rw [vP_yes h1] at hp
   rw [natV_some h2] at hn
   cases hp;cases hn;cases he
   exact .quiet hm (Lib.run_unsafeString_none w t t2 ty _) (.str ByteArray.empty)
 . rename_i b off m h0 h1 h2
   rw [vP_yes h1] at hp
   rw [natV_some h2] at hn
   cases hp;cases hn
   rename_i e hb
   split at he
   . rename_i c el k e' ho hpt
     split at he
     . rename_i cs st hu hsz hcut hst
       split at he
       . rename_i s hoc
         rcases Be he with ⟨h3,he1⟩|⟨_,he1⟩
         . rcases Be he1 with ⟨h4,he2⟩|⟨_,he2⟩
           . rcases Be he2 with ⟨h5,he3⟩|⟨_,he3⟩
             . clear he he1 he2
               cases he3
               have e3:=Cf h3
               have e4:=Cf h4
               have e5:=Ee h5
               subst e3
               subst e4
               have hkn:=ctrN_some hst
               have hbr:=hm.ma b e hb
               rw [ho] at hbr
               obtain ⟨arr,lo,hi',q1,q2,q3,q4,q5,q6⟩:=hbr.2 trivial
               obtain ⟨r1,r2,r3⟩:=lcut_some hcut
               have hor:=cut_rel hcut q4 (by omega)
               obtain ⟨k1,k2⟩:=ofCells_rel cs s _ hoc hor
               have hm0:m≠0:=fun hh=>h0 hh
               have hsl:s.length=m:=by
                have:=congrArg List.length k1
                rw [<- hor.1,r3] at this
                simpa using this.symm
               have hll:(s.map UInt8.ofNat).length=m:=by simpa using hsl
               obtain ⟨inf,j1,j2⟩:=Fs hsz
               have hcells:P.cellsOf el=1:=by simp [Program.cellsOf,j1,j2]
               have hrun:=Lib.run_unsafeString_row (P:=P) w t t2 ty el hpt hcells e.c arr.size (shape_blk q1) (s.map UInt8.ofNat) (by intro hh;rw [hh] at hll;simp at hll;omega) (by omega) (by omega) (by
                intro j x hj
                rw [Gp,cell_blk q1]
                have h6:((arr.toList.drop 0).take m)[j]?=some (.int .u8 x.toNat):=by
                 rw [k1]
                 rw [List.getElem?_map] at hj
                 cases hsj:s[j]? with
                 |none=>rw [hsj] at hj;cases hj
                 |some q=>
                  rw [hsj] at hj
                  cases hj
                  have hq:=k2 q (List.mem_of_getElem? hsj)
                  simp [hsj,UInt8.toNat_ofNat',Nat.mod_eq_of_lt hq]
                rw [List.getElem?_take] at h6
                split at h6
                . simpa using h6
                . cases h6)
               rw [hll] at hrun
               obtain ⟨fz,hfz⟩:=freeze_blk q1 hm0
               rw [hfz] at hrun
               have hwc:(B6 w e.c (.cells arr el fz)).heap[e.c]?=some (.cells arr el fz):=by rw [C1,if_pos ⟨rfl,Dd q1⟩]
               refine ⟨σ,_,_,hrun,?_,?_⟩
               . have hbs:bytesOf ⟨(s.map UInt8.ofNat).toArray⟩=s:=by
                  unfold bytesOf
                  simp only [List.map_map]
                  have:∀ l:List Nat,(∀ n∈l,n<256)->l.map (UInt8.toNat ∘ UInt8.ofNat)=l:=by
                   intro l hl
                   induction l with
                   |nil=>rfl
                   |cons q l ih=>
                    have hq:=hl q (by simp)
                    simp only [List.map_cons,Function.comp,UInt8.toNat_ofNat',Nat.mod_eq_of_lt (show q<2 ^ 8 from hq)]
                    rw [ih (fun n hn=>hl n (by simp [hn]))]
                  exact this s k2
                 have:=Aq.str (σ:=σ) ⟨(s.map UInt8.ofNat).toArray⟩
                 rw [hbs] at this
                 exact this
               . refine put_cls_step hm.ai hm.so hm.ma hb ho hkn (.inr ⟨rfl,rfl,?_⟩) rfl ?_
                 . intro x y hx hc hxb l2 t2 st2 hxo
                   have hbx:=hm.ma x y hx
                   rw [hxo] at hbx ⊢
                   refine ⟨hbx.1,fun hv=>?_⟩
                   obtain ⟨arr2,lo2,hi2,p1,p2,p3,p4,p5,p6⟩:=hbx.2 hv
                   rw [hc,q1] at p1
                   cases p1
                   exact ⟨arr,fz.1,fz.2,by rw [hc];exact hwc,p2,p3,p4,fun hh=>(by cases hh),fun hh=>hh.elim⟩
                 . exact ⟨hbr.1,fun _=>⟨arr,fz.1,fz.2,hwc,q2,q3,q4,fun hh=>(by cases hh),fun hh=>hh.elim⟩⟩
             . cases he3
           . cases he2
         . cases he1
       . cases he
     . cases he
   . cases he
 . cases he
end Go.Ev
