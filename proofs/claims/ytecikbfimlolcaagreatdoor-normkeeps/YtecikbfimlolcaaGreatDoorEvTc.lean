/- Lists of nodes of one's own, written as they are made. -/
import Derived.Test.YtecikbfimlolcaaGreatDoorEvTb
import Derived.Test.YtecikbfimlolcaaGreatDoorEvKh
set_option maxRecDepth 100000
noncomputable section
namespace Go.Proofs
open Go Go.Ev Go.Nm Tryz Go.Ev.Sx
attribute [local irreducible] Aa Al Af Ad
variable (ctx:Ac) (N:Nat)
structure ClR (tk:Nat) (h:H) (c:Cl):Prop where
 Mu:c.ws.length<=5
 words:Ig h c.w c.ws
 av:Av tk c.w
 one:Ge c.w=true
 cell:cellsOf c.w=some [c.w]
structure Hu (tk:Nat) (h:H) (v:AV) (l:List Cl):Prop where
 sl:R0 4 Hx h v l
 av:Av tk v
 ok:∀c∈l,ClR tk h c
structure ScR (tk:Nat) (h:H) (s:Sc):Prop where
 nn:s.name≠[]
 ne:s.A1≠[]
 Mu:s.A1.length<=5
 A1:Hu tk h s.cv s.A1
 one:Ge s.cv=true
 cell:cellsOf s.cv=some [s.cv]
 cz:∀b off len cap z ex,s.cv=.sl b off len cap z ex->0<len->b<tk/\∀k,B5 (h.m.get b)=some k->k<tk
structure W9 (tk:Nat) (h:H) (v:AV) (l:List Sc):Prop where
 ne:l≠[]
 Mu:l.length<=3
 sl:R0 4 Ze h v l
 av:Av tk v
 ok:∀s∈l,ScR tk h s
theorem ClR.By {tk:Nat} {h h1:H} {c:Cl} (hc:ClR tk h c) (e:Bi h h1):ClR tk h1 c:=⟨hc.Mu,Sl.By hc.words e,hc.av,hc.one,hc.cell⟩
theorem ClR.tg {tk:Nat} {h h1:H} {c:Cl} {vl:AV} (hc:ClR tk h c) (ht:H8 h tk vl) (e:TG tk vl h h1):ClR tk h1 c:=⟨hc.Mu,Sl.tg hc.words ht hc.av e,hc.av,hc.one,hc.cell⟩
theorem Hu.By {tk:Nat} {h h1:H} {v:AV} {l:List Cl} (hc:Hu tk h v l) (e:Bi h h1):Hu tk h1 v l:=⟨Sl.By hc.sl e,hc.av,λc hh=>(hc.ok c hh).By e⟩
theorem Hu.tg {tk:Nat} {h h1:H} {v vl:AV} {l:List Cl} (hc:Hu tk h v l) (ht:H8 h tk vl) (e:TG tk vl h h1):Hu tk h1 v l:=⟨Sl.tg hc.sl ht hc.av e,hc.av,λc hh=>(hc.ok c hh).tg ht e⟩
theorem Ail {tk:Nat} {h:H}:∀{l:List Cl},(∀c∈l,ClR tk h c)->Bm (l.flatMap Hx)=true
 |[],_=>rfl
 |c::l,hc=>by
  have ih:=Ail (l:=l) λx hx=>hc x (List.mem_cons_of_mem _ hx)
  have h1:=(hc c (List.mem_cons_self ..)).one
  simp [ih,h1]
def Ab1 (ss:List Sc) (nm:List Nat):List Cl:=(ss.filter λs=>decide (s.name=nm)).flatMap Sc.A1
theorem Ank {ss:List Sc} {s:Sc} {i:Int} (nm:List Nat) (h0:0<=i) (h:ss[i.toNat]?=some s):Ab1 (ss.take (i+1).toNat) nm=Ab1 (ss.take i.toNat) nm++(if s.name=nm then s.A1 else []):=by
 rw [show (i+1).toNat=i.toNat+1 by omega,List.take_add_one,h]
 by_cases e:s.name=nm<;>simp [Ab1,e]
theorem Ajm {ss:List Sc} (h:∀s∈ss,s.name≠[]):Ab1 ss []=[]:=by
 have:(ss.filter λs=>decide (s.name=[]))=[]:=List.filter_eq_nil_iff.2 λs hs=>by simp [h s hs]
 unfold Ab1
 rw [this]
 rfl
def AoL (ss:List Sc) (t o:List Nat) (lo:Nat) (r:AV) (h1:H):Prop:=∃l:List Cl,l=Ab1 ss t++Ab1 ss o/\l≠[]/\l.length<=30/\Fm 4 lo 96 h1 r l.length (l.flatMap Hx)/\∀c∈l,∃s∈ss,c∈s.A1
theorem AfL {Q:AV->H->Prop} (tk:Nat) (h:H) (sv:AV) (ss:List Sc) (hs:W9 tk h sv ss) (n1:Nat) (t1 t2 t8:AV) (nm:List Nat) (base:Nat) (hb:base<=15) (l0:List Cl)
 (Qz:∀(v:AV) (l:List Cl) (hd:H) (f:L2),l≠[]->l.length<=base+15->l=l0++Ab1 ss nm->Fm 4 h.nx 96 hd v l.length (l.flatMap Hx)->(∀c∈l,∃s∈ss,c∈s.A1)->Ai h hd->Bi h hd->Ah h Q (AoV ctx N n1 sv t1 t2 v t8 f hd)):
 ∀(k:Nat) (i:Int) (n:Nat) (l:List Cl) (v:AV) (hd:H) (f0:L2),i+(k:Int)=(ss.length:Int)->0<=i->k<n->(l.length:Int)<=base+5 * i->l=l0++Ab1 (ss.take i.toNat) nm->(l≠[]\/∃(m:Nat) (s:Sc),i<=(m:Int)/\ss[m]?=some s/\s.name=nm)->Fm 4 h.nx 96 hd v l.length (l.flatMap Hx)->(∀c∈l,∃s∈ss,c∈s.A1)->Ai h hd->Bi h hd->Ah h Q (All ctx N n1 n sv t1 t2 v t8 (.str nm) (.int .i64 i) f0 hd)
 |0,i,n,l,v,hd,f0,Qd,H4,hn,hl,hl0,hf,ho,hm,hg,hk=>by
  obtain ⟨n2,rfl⟩:∃n2,n=n2+1:=⟨n - 1,by omega⟩
  have k1:decide (i<(ss.length:Int))=false:=df
  have hlen:∀hh,Fo sv hh=.ok (.int .i64 (ss.length:Int)) hh:=λ_=>hs.sl.Gs
  have Hr:l≠[]:=by
   rcases hf with hf|⟨m,s,q1,q2,q3⟩
   . exact hf
   . have:=(List.getElem?_eq_some_iff.1 q2).1
     omega
  have hss:=hs.Mu
  rw [Apg]
  refine wk ?_
  exact Qz v l hd _ Hr om (by rw [hl0,List.take_of_length_le om]) ho hm hg hk
 |k+1,i,n,l,v,hd,f0,Qd,H4,hn,hl,hl0,hf,ho,hm,hg,hk=>by
  obtain ⟨n2,rfl⟩:∃n2,n=n2+1:=⟨n - 1,by omega⟩
  have ih:=AfL tk h sv ss hs n1 t1 t2 t8 nm base hb l0 Qz k (i+1) n2
  have k1:decide (i<(ss.length:Int))=true:=dt
  have hlen:∀hh,Fo sv hh=.ok (.int .i64 (ss.length:Int)) hh:=λ_=>hs.sl.Gs
  have hss:=hs.Mu
  have X4:((i.toNat:Nat):Int)=i:=Int.toNat_of_nonneg H4
  obtain ⟨s,hsi⟩:∃s,ss[i.toNat]?=some s:=⟨_,List.getElem?_eq_getElem om⟩
  have hsm:=List.mem_of_getElem? hsi
  have hso:=(hs.ok s hsm)
  obtain ⟨b,o,el⟩:=R0.elem (f:=Ze) (s:=4) (λ_=>rfl) (Sl.By hs.sl hk) hsi
  have x1:=el.ia
  rw [X4] at x1
  have x2:=el.part 0 _ rfl
  rw [Nat.add_zero] at x2
  have x3:=el.part 3 _ rfl
  clear el
  rw [Apg]
  repeat' (first|refine wk ?_|(refine zqq ?_ ?_<;>intro hc<;>(try (exfalso;omega)))|fail)
  . have X3:=Sl.By hso.A1.sl hk
    have hf5:=hso.Mu
    have Kf:=hg.lo
    obtain ⟨v',h',q1,q2,q3,q4,q5⟩:=Fm.AbQ (bytes:=56) (lo:=h.nx) ho X3.src X3.Rv om (Ail hso.A1.ok) Kf
    refine Ey q1 ?_
    clear q1
    rw [AoU]
    refine wk ?_
    refine ih (l++s.A1) v' h' _ om om om (by rw [List.length_append];omega) (by rw [Ank nm H4 hsi,if_pos (by assumption),hl0,List.append_assoc]) (.inl (by have:=hso.ne;simp [this])) ?_ (λc Hq=>?_) (q3 h (Nat.le_refl _) hg) (hk.trans q2)
    . rw [List.length_append,List.flatMap_append]
      exact q4
    . rcases List.mem_append.1 Hq with Hq|Hq
      . exact hm c Hq
      . exact ⟨s,hsm,Hq⟩
  . have hcn:¬ s.name=nm:=by assumption
    rw [AoU]
    refine wk ?_
    refine ih l v hd _ om om om om (by rw [Ank nm H4 hsi,if_neg hcn,List.append_nil];exact hl0) ?_ ho hm hg hk
    rcases hf with hf|⟨m,s2,q1,q2,q3⟩
    . exact .inl hf
    . refine .inr ⟨m,s2,?_,q2,q3⟩
      by_cases hmi:(m:Int)=i
      . subst hmi
        rw [Int.toNat_natCast] at hsi
        rw [hsi] at q2
        cases q2
        exact absurd q3 hcn
      . omega
  . have hcn:nm=[]:=by assumption
    subst hcn
    have e0:Ab1 (ss.take i.toNat) []=[]:=Ajm λs hs2=>(hs.ok s (List.mem_of_mem_take hs2)).nn
    refine Qz v l hd _ ?_ om (by rw [hl0,e0,Ajm λs hs2=>(hs.ok s hs2).nn]) ho hm hg hk
    rcases hf with hf|⟨m,s2,q1,q2,q3⟩
    . exact hf
    . exact absurd q3 (hs.ok s2 (List.mem_of_getElem? q2)).nn
def R40:Prop:=∀(tk:Nat) (ss:List Sc) (sv:AV) (t o:List Nat) (h:H),W9 tk h sv ss->(∃s∈ss,s.name=t)->Ah h (AoL ss t o h.nx) (ctx.call 40 [sv,.str t,.str o] h)
theorem r40 (hN:100<N) (tk:Nat) (ss:List Sc) (sv:AV) (t o:List Nat) (h:H) (hs:W9 tk h sv ss) (ht:∃s∈ss,s.name=t):Ah h (AoL ss t o h.nx) (Ay prog ctx N true 40 [sv,.str t,.str o] h):=by
 rw [e40]
 obtain ⟨N1,rfl⟩:∃N1,N=N1+3:=⟨N - 3,by omega⟩
 have hf:=hs.Mu
 rw [Ajk]
 (repeat' (first|refine wk ?_|(rw [AoS])))
 refine AfL ctx (N1+3) tk h sv ss hs (N1+2) _ _ _ t 0 om [] ?_ ss.length 0 _ [] .Bv h _ om om om (by simp) rfl ?_ (Fm.nil ..) (λc hc=>by cases hc) (Ai.refl h) (Bi.refl h)
 . intro v l hd f h1 h2 h7 h3 h4 h5 h6
   rw [AoW]
   refine wk ?_
   rw [Ajk]
   (repeat' (first|refine wk ?_|(rw [AoS])))
   refine AfL ctx (N1+3) tk h sv ss hs (N1+1) _ _ _ o 15 om l ?_ ss.length 0 _ l v hd _ om om om om (by simp [Ab1]) (.inl h1) h3 h4 h5 h6
   intro v l hd f h1 h2 h8 h3 h4 h5 h6
   rw [AoW]
   refine wk ?_
   rw [Ajk]
   refine wk ?_
   exact zr h5 ⟨l,by rw [h8,h7];rfl,h1,h2,h3,h4⟩
 . obtain ⟨s,h1,h2⟩:=ht
   obtain ⟨m,h3⟩:=List.getElem?_of_mem h1
   exact .inr ⟨m,s,by omega,h3,h2⟩
def R79:Prop:=∀(tk:Nat) (A1:List Cl) (cv:AV) (i:Int) (h:H),Hu tk h cv A1->A1.length<=30->0<=i->i<(A1.length:Int)->Ah h (λr _=>∃b:Bool,r=.bool b/\(i=0->b=true)) (ctx.call 79 [cv,.int .i64 i] h)
theorem AqZ (tk:Nat) (A1:List Cl) (cv:AV) (i:Int) (h:H) (hc:Hu tk h cv A1) (hl:A1.length<=30) (H4:0<=i) (hi:i<(A1.length:Int)):
 ∀(k:Nat) (m:Int) (n:Nat) (hd:H) (f0:L2),m+(k:Int)=i->0<=m->k<n->Ai h hd->Ah h (λr _=>∃b:Bool,r=.bool b/\(i=0->b=true)) (Alp ctx N n cv (.int .i64 i) (.int .i64 m) f0 hd)
 |0,m,n,hd,f0,hm,hm0,hn,hg=>by
  obtain ⟨n1,rfl⟩:∃n1,n=n1+1:=⟨n - 1,by omega⟩
  have k1:decide (m<i)=false:=df
  rw [Apl]
  refine wk ?_
  exact zr hg ⟨true,rfl,λ_=>rfl⟩
 |k+1,m,n,hd,f0,hm,hm0,hn,hg=>by
  obtain ⟨n1,rfl⟩:∃n1,n=n1+1:=⟨n - 1,by omega⟩
  have ih:=AqZ tk A1 cv i h hc hl H4 hi k (m+1) n1
  have k1:decide (m<i)=true:=dt
  have hmm:((m.toNat:Nat):Int)=m:=Int.toNat_of_nonneg hm0
  have X4:((i.toNat:Nat):Int)=i:=Int.toNat_of_nonneg H4
  obtain ⟨c1,hc1⟩:∃s,A1[m.toNat]?=some s:=⟨_,List.getElem?_eq_getElem om⟩
  obtain ⟨c2,hc2⟩:∃s,A1[i.toNat]?=some s:=⟨_,List.getElem?_eq_getElem om⟩
  have hk:=hg.keeps
  obtain ⟨b1,o1,el1⟩:=R0.elem (f:=Hx) (s:=4) (λ_=>rfl) (Sl.By hc.sl hk) hc1
  obtain ⟨b2,o2,el2⟩:=R0.elem (f:=Hx) (s:=4) (λ_=>rfl) (Sl.By hc.sl hk) hc2
  have x1:=el1.ia
  rw [hmm] at x1
  have x2:=el1.part 0 _ rfl
  rw [Nat.add_zero] at x2
  have x3:=el2.ia
  rw [X4] at x3
  have x4:=el2.part 0 _ rfl
  rw [Nat.add_zero] at x4
  clear el1 el2
  rw [Apl]
  repeat' (first|refine wk ?_|(refine zqq ?_ ?_<;>intro hc<;>(try (exfalso;omega)))|fail)
  . exact zr Ex ⟨false,rfl,λh0=>by omega⟩
  . exact ih _ _ om om om Ex
theorem r79 (hN:100<N) (tk:Nat) (A1:List Cl) (cv:AV) (i:Int) (h:H) (hc:Hu tk h cv A1) (hl:A1.length<=30) (H4:0<=i) (hi:i<(A1.length:Int)):Ah h (λr _=>∃b:Bool,r=.bool b/\(i=0->b=true)) (Ay prog ctx N true 79 [cv,.int .i64 i] h):=by
 rw [e79]
 exact AqZ ctx N tk A1 cv i h hc hl H4 hi i.toNat 0 N h _ om om om (Ai.refl h)
end Go.Proofs
namespace Go.Proofs
open Go Go.Ev Go.Nm Go.Ev.Sx
attribute [local irreducible] Aa Al Af Ad
variable (ctx:Ac) (N:Nat)
theorem Ahy {s len B1 bytes b off lo:Nat} {et:TypeId} {h:H} {y:AV} {c c' cs:List AV} (Sz:Nv h b cs) (ho:off+len * s<=cs.length) (hc:(cs.drop off).take (len * s)=c) (F6:Hd h s y=some (B1,c')) (Ox:c'.length=B1 * s) (hb:(len+B1) * (bytes+1)<1000000000000) (h1:Bm c'=true) (h0:0<B1) (Kf:lo<=h.nx):
 ∃v h',Ds et s bytes (.sl b off len len s true) y h=.ok v h'/\Ai h h'/\Fm s lo et h' v (len+B1) (c++c'):=by
 have hn:(c++c').length=(len+B1) * s:=by
  rw [List.length_append,Ox,<- hc,List.length_take,List.length_drop,Nat.add_mul]
  omega
 have Ae9:grow h et s (c++c') (len+B1)=.ok (.sl (Nat.succ h.nx) 0 (len+B1) (len+B1) s false) ((h.new (.Fb 0)).new (.cells (c++c') et (.Gt h.nx))):=rfl
 have A8P:Fm s lo et ((h.new (.Fb 0)).new (.cells (c++c') et (.Gt h.nx))) (.sl (Nat.succ h.nx) 0 (len+B1) (len+B1) s false) (len+B1) (c++c'):=by
  refine .inr (.inr ⟨h.nx+1,h.nx,0,rfl,Bf (h:=h.new (.Fb 0)) _,?_,by omega,Kf,by show h.nx+1<h.nx+1+1;omega,by show h.nx<h.nx+1+1;omega,by omega,hn⟩)
  rw [Cq (h:=h.new (.Fb 0)) _ h.nx (by show h.nx≠h.nx+1;omega)]
  exact Bf _
 have hr:Ds et s bytes (.sl b off len len s true) y h=(match Hd h s y with
  |some (n,new)=>C6 (.bad 121) (C6 (.bad 121) (C6 (.bad 121) (Lg ⟨et,s,bytes⟩ b off len len s true n new h) (Nat.beq s s)) (Bm new)) (Gj ((len+n) * (bytes+1)))
  |none=>.bad 123):=rfl
 have h4:Nat.ble (Nat.add len B1) len=false:=by
  cases hx:Nat.ble (Nat.add len B1) len with
  |false=>rfl
  |true=>
   have:len+B1<=len:=Nat.le_of_ble_eq_true hx
   omega
 have Du:(C6 (.bad 121) (C6 (.bad 121) (C6 (.bad 121) (Lg ⟨et,s,bytes⟩ b off len len s true B1 c' h) true) true) true:OR)=grow h et s (c++c') (len+B1):=by
  show (C6 _ _ (Nat.ble (Nat.add len B1) len):OR)=_
  rw [h4]
  show Sf ⟨et,s,bytes⟩ b off len (Nat.add len B1) c' h=_
  unfold Sf
  rw [AaS,Sz.rd]
  simp only [E5,ho,if_true,Dl,hc]
  rfl
 rw [hr,F6]
 simp only [h1,Fi,decide_eq_true hb,Nat.beq_refl]
 rw [Du]
 exact ⟨_,_,Ae9,((Ai.refl h).new _).new _,A8P⟩
def Oo (lo:Nat) (h:H) (v:AV) (l:List Nd):Prop:=NdO lo h v l\/∃b off cs,v=.sl b off l.length l.length 3 true/\Nv h b cs/\off+l.length * 3<=cs.length/\(cs.drop off).take (l.length * 3)=l.flatMap Bw/\lo<=b
theorem Oo.sl {lo:Nat} {h:H} {v:AV} {l:List Nd} (hv:Oo lo h v l):Ue h v l:=by
 rcases hv with hv|⟨b,off,cs,rfl,q1,q2,q3,q4⟩
 . exact hv.sl
 . exact .inr ⟨b,off,_,true,cs,rfl,Nat.le_refl _,q1,q2,q3⟩
theorem Oo.Y5 {lo Z6:Nat} {h:H} {v:AV} {l:List Nd} (hv:Oo lo h v l) (hl:Z6<=lo):Oo Z6 h v l:=by
 rcases hv with hv|⟨b,off,cs,rfl,q1,q2,q3,q4⟩
 . exact .inl (Yp hv hl)
 . exact .inr ⟨b,off,cs,rfl,q1,q2,q3,Nat.le_trans hl q4⟩
theorem Oo.gr {lo:Nat} {h h1:H} {v:AV} {l:List Nd} (hv:Oo lo h v l) (e:Ai h h1):Oo lo h1 v l:=by
 rcases hv with hv|⟨b,off,cs,rfl,q1,q2,q3,q4⟩
 . exact .inl (hv.gr e)
 . exact .inr ⟨b,off,cs,rfl,e.keeps.cont b cs q1,q2,q3,q4⟩
theorem Oo.tg {lo tk:Nat} {h h1:H} {v vl:AV} {l:List Nd} (hv:Oo lo h v l) (ht:H8 h tk vl) (Kf:tk<lo) (e:TG tk vl h h1):Oo lo h1 v l:=by
 rcases hv with hv|⟨b,off,cs,rfl,q1,q2,q3,q4⟩
 . exact .inl (Fm.tg hv ht Kf e)
 . have hs:Sl 3 h (.sl b off l.length l.length 3 true) l.length (l.flatMap Bw):=.inr ⟨b,off,_,true,cs,rfl,Nat.le_refl _,q1,q2,q3⟩
   rcases Sl.tg hs ht (λb' off len cap z ex hv h0=>by cases hv;omega) e with ⟨_,_,h4⟩|⟨b',Yk,cap,ex,D7,h4,q5,q6,q7,q8⟩
   . cases h4
   . cases h4
     exact .inr ⟨b,off,D7,rfl,q6,q7,q8,q4⟩
theorem Oo.one {lo:Nat} {h:H} {v:AV} {l:List Nd} (hv:Oo lo h v l):Ge v=true/\cellsOf v=some [v]:=B2 hv.sl
theorem Ab9:∀l:List Nd,Bm (l.flatMap Bw)=true:=Tk
theorem Z8 {tk:Nat} {vl:AV} {h hc:H} {v w:AV} {l m:List Nd} (he:TG tk vl h hc) (hv:Oo h.nx hc v l) (hw:Ue hc w m) (hm:m≠[]) (hl:l.length+m.length<=1000):
 ∃v' h',Ds 32 3 32 v w hc=.ok v' h'/\TG tk vl h h'/\Oo h.nx h' v' (l++m)/\hc.nx<=h'.nx:=by
 have hp:0<m.length:=List.length_pos_iff.2 hm
 rcases hv with hv|⟨b,off,cs,rfl,q1,q2,q3,q4⟩
 . obtain ⟨v',h',p1,p2,p3,p4,p5⟩:=Fm.AbQ (bytes:=32) (lo:=h.nx) hv hw.src hw.Rv om (Ab9 m) he.lo
   refine ⟨v',h',p1,?_,.inl ?_,p2.lo⟩
   . obtain ⟨k,hk,hg⟩:=he
     exact ⟨k,hk,p3 _ (Nat.le_refl _) hg⟩
   . rw [NdO,List.length_append,List.flatMap_append]
     exact p4
 . obtain ⟨v',h',p1,p2,p3⟩:=Ahy (bytes:=32) (et:=32) (lo:=h.nx) q1 q2 q3 hw.src hw.Rv om (Ab9 m) hp he.lo
   refine ⟨v',h',p1,he.gr p2,.inl ?_,p2.lo⟩
   rw [NdO,List.length_append,List.flatMap_append]
   exact p3
theorem Ut {tk:Nat} {vl:AV} {h hc:H} {v:AV} {l:List Nd} (x:Nd) (he:TG tk vl h hc) (hv:Oo h.nx hc v l) (hl:l.length<=900):
 ∃v' h',Ds 32 3 32 v (.sl hc.nx 0 1 1 3 true) (hc.new (.cells (Bw x) 32 .exact))=.ok v' h'/\TG tk vl h h'/\Oo h.nx h' v' (l++[x])/\hc.nx<=h'.nx:=by
 obtain ⟨v',h',p1,p2,p3,p4⟩:=Z8 (m:=[x]) (he.new (.cells (Bw x) 32 .exact)) (hv.gr ((Ai.refl hc).new _)) (Sl.lit (h:=hc) (Bf _) rfl rfl) (by simp) (by simp;omega)
 exact ⟨v',h',p1,p2,p3,Nat.le_trans (Nat.le_succ _) p4⟩
theorem Wl {lo:Nat} {h h1:H} (l:List Nd) (n:Nat) (hn:n=l.length) (hg:h1.m.get h.nx=.cells (l.flatMap Bw) 32 .exact) (hx:h1.nx=h.nx+1) (Kf:lo<=h.nx):Oo lo h1 (.sl h.nx 0 n n 3 true) l:=by
 subst hn
 have h5:=Aa9 (f:=Bw) (s:=3) (λ_=>rfl) l
 refine .inr ⟨h.nx,0,_,rfl,⟨by omega,32,.exact,hg,trivial⟩,by omega,?_,Kf⟩
 rw [List.drop_zero,List.take_of_length_le om]
def Se (D:Dom) (b:Bool) (sz lo:Nat) (r:AV) (h1:H):Prop:=∃t:Tr,E7 D b t/\size t<=sz/\Oo lo h1 r t.nodes
def AaR (l:List Cl):Dom:=⟨λn=>∃c∈l,c.name=n,λn w=>∃c∈l,c.name=n/\w∈c.ws⟩
def Sd:Nat->Nat
 |0=>3
 |d+1=>3 * Sd d+1
def R80 (d:Nat):Prop:=∀(tk:Nat) (vl:AV) (L:List Int) (cv:AV) (A1:List Cl) (m:Int) (h:H),(d:Int)=m->H9 tk vl L h->Hu tk h cv A1->A1≠[]->A1.length<=30->D6 tk vl h (Se (AaR A1) false (Sd d) h.nx) (ctx.call 80 [.ptr tk 0,cv,.int .i64 m] h)
def R41 (d:Nat):Prop:=∀(tk:Nat) (vl:AV) (L:List Int) (cv:AV) (A1:List Cl) (m:Int) (h:H),(d:Int)=m->H9 tk vl L h->Hu tk h cv A1->A1≠[]->A1.length<=30->D6 tk vl h (Se (AaR A1) true (Sd d) h.nx) (ctx.call 41 [.ptr tk 0,cv,.int .i64 m] h)
end Go.Proofs
