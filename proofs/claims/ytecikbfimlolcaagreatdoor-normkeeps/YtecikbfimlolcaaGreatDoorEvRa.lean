/- Queries: norm's normal form. -/
import Derived.Test.YtecikbfimlolcaaGreatDoorEvNf
set_option linter.all false
set_option maxRecDepth 100000
noncomputable section
namespace Go.Proofs
open Go Go.Ev Go.Nm Go.Ev.Sx
theorem B2 {s:Nat} {h:H} {v:AV} {len:Nat} {c:List AV} (hs:Sl s h v len c):Ge v=true/\cellsOf v=some [v]:=by
 rcases hs with ⟨_,_,rfl⟩|⟨b,off,cap,ex,cs,rfl,_⟩<;>exact ⟨rfl,rfl⟩
theorem Ah0 {ctx:Ac} {q:Bool} {g:FuncId} {args:List AV} {h:H} {Q:AV->H->Prop} (hc:Ah h Q (Ay PP ctx 1048576 q g args h)):Ah h Q (Fy PP ctx g args h):=by
 obtain ⟨v,h1,h2,h3⟩:=hc
 exact ⟨v,h1,Jn (Nat.le_refl _) h2,h3⟩
section
variable (ctx:Ac)
end
theorem N4 {p:Prop} (q:p:=by first|(simp (disch:=first|omega|(simp only [C9];omega)) [AtB,Ay3,Ay4,Aqt, *];done)|fail):p:=q
end Go.Proofs
namespace Go.Proofs
open Go Go.Ev Go.Nm Go.Ev.Sx
attribute [local irreducible] Aa Al Af Ad
variable (ctx:Ac) (N:Nat)
abbrev Ue (h:H) (v:AV) (l:List Nd):Prop:=R0 3 Bw h v l
abbrev NdO (lo:Nat) (h:H) (v:AV) (l:List Nd):Prop:=Fm 3 lo 32 h v l.length (l.flatMap Bw)
def Pz (op:Int):List Nat:=if op=1\/op=2\/op=3 then [] else if op=4\/op=5\/op=6 then [110,110] else if op=7 then [110] else if op=8 then [116,110,110] else if op=15\/op=16 then [116,116] else if op=17 then [116] else [110,110]
end Go.Proofs
namespace Go.Proofs
open Go Go.Ev Go.Nm Go.Ev.Sx
def ty (t:Tr):Nat:=if F4 t then 116 else 110
def mkT (x:Nd):List Tr->Tr
 |[a]=>.one x.op a
 |[a,b]=>.two x.op a b
 |[c,a,b]=>.three c a b
 |_=>.leaf x
theorem Alw {x:Nd} (h:Qt x=false):1<=x.op/\x.op<=17/\(x.op≠1->x.n=0)/\(x.op≠2->x.op≠3->x.Zn=[]):=by
 simp only [Qt,Bool.or_eq_false_iff,decide_eq_false_iff_not,Bool.and_eq_false_imp,Bool.not_eq_true',Bool.not_eq_false',decide_eq_true_eq,decide_eq_false_iff_not] at h
 obtain ⟨⟨⟨h1,h2⟩,h3⟩,h4⟩:=h
 refine ⟨by omega,by omega,λhh=>?_,λh5 h6=>?_⟩
 . by_cases hn:x.n=0
   . exact hn
   . have:=h3 hn;omega
 . by_cases hn:x.Zn=[]
   . exact hn
   . exfalso
     simp [hn,h5,h6] at h4
theorem Apq {st:List Tr} {x:Nd} (h1:1<=x.op) (h2:x.op<=17):Fa st x=if (Pz x.op).length<=st.length/\(st.drop (st.length - (Pz x.op).length)).map ty=Pz x.op then some (st.take (st.length - (Pz x.op).length)++[mkT x (st.drop (st.length - (Pz x.op).length))]) else none:=by
 have Mh:∀(ts:List Bool) (l:List Nat),l=ts.map (λb=>if b then 116 else 110)->∀q:List Tr,q.map F4=ts ↔ q.map ty=l:=by
  intro ts l hl q
  subst hl
  constructor
  . intro hq;rw [<- hq];simp [ty]
  . intro hq
    have h3:q.map (λt=>if F4 t then 116 else 110)=ts.map (λb=>if b then 116 else 110):=hq
    clear hq
    induction q generalizing ts with
    |nil=>cases ts with|nil=>rfl|cons a ts=>simp at h3
    |cons t q ih=>
     cases ts with
     |nil=>simp at h3
     |cons a ts=>
      simp only [List.map_cons,List.cons.injEq] at h3 ⊢
      refine ⟨?_,ih ts h3.2⟩
      cases ht:F4 t<;>cases a<;>simp [ht] at h3 ⊢
 have Vr:∀(ts:List Bool),Pz x.op=ts.map (λb=>if b then 116 else 110)->∀(f:List Tr->List Tr->Option (List Tr)),(match Gf st ts with|some (r,q)=>f r q|none=>none) =
  if (Pz x.op).length<=st.length/\(st.drop (st.length - (Pz x.op).length)).map ty=Pz x.op then f (st.take (st.length - (Pz x.op).length)) (st.drop (st.length - (Pz x.op).length)) else none:=by
  intro ts hts f
  have hl:(Pz x.op).length=ts.length:=by rw [hts];simp
  unfold Gf
  rw [hl]
  by_cases hc:ts.length<=st.length/\(st.drop (st.length - ts.length)).map F4=ts
  . rw [if_pos hc,if_pos ⟨hc.1,(Mh ts _ hts _).1 hc.2⟩]
  . rw [if_neg hc,if_neg (λhh=>hc ⟨hh.1,(Mh ts _ hts _).2 hh.2⟩)]
 have hlen:∀k,k<=st.length->(st.drop (st.length - k)).length=k:=λk hk=>by rw [List.length_drop];omega
 by_cases c1:x.op<=3
 . have ht:Pz x.op=[]:=by unfold Pz;rw [if_pos om]
   unfold Fa
   rw [if_pos c1,ht]
   simp [mkT]
 by_cases c2:x.op=7\/x.op=17
 . have ht:Pz x.op=[decide (x.op=17)].map (λb=>if b then 116 else 110):=by
    rcases c2 with c2|c2<;>rw [c2]<;>rfl
   have hg:=Vr [decide (x.op=17)] ht (λr q=>match q with|[a]=>some (r++[.one x.op a])|_=>none)
   unfold Fa
   rw [if_neg c1,if_pos c2]
   have Vs:(Pz x.op).length=1:=by rw [ht];rfl
   refine Eq.trans ?_ (hg.trans ?_)
   . cases Gf st [decide (x.op=17)] with
     |none=>rfl
     |some p=>obtain ⟨r,q⟩:=p;cases q with|nil=>rfl|cons a q=>cases q<;>rfl
   . by_cases hc:(Pz x.op).length<=st.length/\(st.drop (st.length - (Pz x.op).length)).map ty=Pz x.op
     . rw [if_pos hc,if_pos hc]
       obtain ⟨a,ha⟩:=List.length_eq_one_iff.1 ((hlen _ hc.1).trans Vs)
       rw [ha]
       rfl
     . rw [if_neg hc,if_neg hc]
 by_cases c3:x.op=8
 . have ht:Pz x.op=[true,false,false].map (λb=>if b then 116 else 110):=by rw [c3];rfl
   have hg:=Vr [true,false,false] ht (λr q=>match q with|[c,a,b]=>some (r++[.three c a b])|_=>none)
   unfold Fa
   rw [if_neg c1,if_neg c2,if_pos c3]
   have Vs:(Pz x.op).length=3:=by rw [ht];rfl
   refine Eq.trans ?_ (hg.trans ?_)
   . cases Gf st [true,false,false] with
     |none=>rfl
     |some p=>obtain ⟨r,q⟩:=p;match q with|[]=>rfl|[_]=>rfl|[_,_]=>rfl|[_,_,_]=>rfl|_::_::_::_::_=>rfl
   . by_cases hc:(Pz x.op).length<=st.length/\(st.drop (st.length - (Pz x.op).length)).map ty=Pz x.op
     . rw [if_pos hc,if_pos hc]
       have h9:=(hlen _ hc.1).trans Vs
       match hq:st.drop (st.length - (Pz x.op).length),h9 with
       |[c,a,b],_=>rfl
     . rw [if_neg hc,if_neg hc]
 . have ht:Pz x.op=[decide (x.op=15)||decide (x.op=16),decide (x.op=15)||decide (x.op=16)].map (λb=>if b then 116 else 110):=by
    by_cases c4:x.op=15\/x.op=16
    . rcases c4 with c4|c4<;>rw [c4]<;>rfl
    . have e1:¬ x.op=15:=by omega
      have e2:¬ x.op=16:=by omega
      unfold Pz
      rw [if_neg om]
      by_cases c5:x.op=4\/x.op=5\/x.op=6
      . rw [if_pos c5];simp [e1,e2]
      . rw [if_neg c5,if_neg om,if_neg om,if_neg om,if_neg om];simp [e1,e2]
   have hg:=Vr _ ht (λr q=>match q with|[a,b]=>some (r++[.two x.op a b])|_=>none)
   unfold Fa
   rw [if_neg c1,if_neg c2,if_neg c3]
   have Vs:(Pz x.op).length=2:=by rw [ht];rfl
   refine Eq.trans ?_ (hg.trans ?_)
   . cases Gf st [decide (x.op=15)||decide (x.op=16),decide (x.op=15)||decide (x.op=16)] with
     |none=>rfl
     |some p=>obtain ⟨r,q⟩:=p;match q with|[]=>rfl|[_]=>rfl|[_,_]=>rfl|_::_::_::_=>rfl
   . by_cases hc:(Pz x.op).length<=st.length/\(st.drop (st.length - (Pz x.op).length)).map ty=Pz x.op
     . rw [if_pos hc,if_pos hc]
       have h9:=(hlen _ hc.1).trans Vs
       match hq:st.drop (st.length - (Pz x.op).length),h9 with
       |[a,b],_=>rfl
     . rw [if_neg hc,if_neg hc]
end Go.Proofs
namespace Go.Proofs
open Go Go.Ev Go.Nm Go.Ev.Sx
attribute [local irreducible] Aa Al Af Ad
variable (ctx:Ac) (N:Nat)
theorem AgV {l:List Nd} {st U0:List Tr} {i:Nat} {x:Nd} {rest:List Nd} (h1:Qt x=false) (h2:Ou l i x=false) (hs:Fa st x=some U0):Dm l st i (x::rest)=Dm l U0 (i+1) rest:=by simp [Dm,h1,h2,hs]
theorem AgU {l:List Nd} {st:List Tr} {i:Nat} {x:Nd} {rest:List Nd} (h1:Qt x=false) (h2:Ou l i x=false) (hs:Fa st x=none):Dm l st i (x::rest)=none:=by simp [Dm,h1,h2,hs]
def F5 (p:Prop):Prop:=p
end Go.Proofs
namespace Go.Proofs
open Go Go.Ev Go.Nm Go.Ev.Sx
abbrev Zd (x:Int × Int):List AV:=[.int .i64 x.1,.int .i64 x.2]
attribute [local irreducible] Aa Al Af Ad
variable (ctx:Ac) (N:Nat)
abbrev OkS (h:H) (v:AV) (l:List (Int × Int)):Prop:=R0 2 Zd h v l
end Go.Proofs
namespace Go.Proofs
open Go Go.Ev Go.Nm Tryz Go.Ev.Sx
attribute [local irreducible] Aa Al Af Ad
variable (ctx:Ac) (N:Nat)
def W7 (s lo:Nat) (v:AV):Prop:=∀b off len cap z ex,v=.sl b off len cap z ex->0<len->lo<=b
theorem W7.mono {s lo Z6:Nat} {v:AV} (hl:W7 s lo v) (hh:Z6<=lo):W7 s Z6 v:=λb off len cap z ex hv h0=>Nat.le_trans hh (hl b off len cap z ex hv h0)
theorem W7.Bv (s lo:Nat):W7 s lo .Bv:=λb off len cap z ex hv=>by cases hv
theorem W7.own {s lo len:Nat} {et:TypeId} {h:H} {v:AV} {c:List AV} (ho:Fm s lo et h v len c):W7 s lo v:=by
 intro b off B1 cap z ex hv h0
 rcases ho with ⟨_,_,h1⟩|⟨_,_,b',Yk,cs,h1,_⟩|⟨b',k,st,h1,q2,q3,q4,_⟩
 . rw [h1] at hv;cases hv
 . rw [h1] at hv;cases hv;exact absurd h0 om
 . rw [h1] at hv;cases hv;exact q4
def A2Z:Nat->TypeId
 |3=>32
 |_=>33
theorem Wr.gr {s lo len:Nat} {et:TypeId} {h h1:H} {v:AV} (hw:Wr s et lo h v len) (e:Ai h h1):Wr s et lo h1 v len:=by
 rcases hw with W2|⟨b,off,cap,ex,cs,k,W2,h2,h3,h4,h5,h6⟩
 . exact .inl W2
 . have:=e.lo
   refine .inr ⟨b,off,cap,ex,cs,k,W2,by rw [e.Cf b h5];exact h2,h3,h4,by omega,?_⟩
   rcases h6 with h6|⟨c,st,h6,h7,h8,h9,Fh⟩
   . exact .inl h6
   . exact .inr ⟨c,st,h6,by rw [e.Cf c h9];exact h7,h8,by omega,Fh⟩
theorem Wr.put {s lo len c:Nat} {et:TypeId} {h:H} {v:AV} {o:AO} (hw:Wr s et lo h v len) (hc:c<lo):Wr s et lo (h.put c o) v len:=by
 rcases hw with W2|⟨b,off,cap,ex,cs,k,W2,h2,h3,h4,h5,h6⟩
 . exact .inl W2
 . refine .inr ⟨b,off,cap,ex,cs,k,W2,by rw [Aq _ _ _ om];exact h2,h3,h4,h5,?_⟩
   rcases h6 with h6|⟨c',st,h6,h7,h8,h9,Fh⟩
   . exact .inl h6
   . exact .inr ⟨c',st,h6,by rw [Aq _ _ _ om];exact h7,h8,h9,Fh⟩
theorem Wr.own {s lo len:Nat} {et:TypeId} {h:H} {v:AV} {c:List AV} (ho:Fm s lo et h v len c):Wr s et lo h v len:=by
 rcases ho with ⟨h0,_⟩|⟨h0,_⟩|⟨b,k,st,h1,q2,q3,q4,q5,q6,q7,q8,q9⟩
 . exact .inl h0
 . exact .inl h0
 . exact .inr ⟨b,0,len,false,c,.Gt k,h1,q2,by omega,q4,q6,.inr ⟨k,st,rfl,q3,q5,q7,λhh=>q8 hh.symm⟩⟩
structure Safe (s lo:Nat) (h:H) (v:AV) (len:Nat) (c:List AV):Prop where
 sl:Sl s h v len c
 beh:W7 s lo v
 wr:Wr s (A2Z s) lo h v len
theorem Safe.nil {s lo len:Nat} {h:H} {c:List AV} (h1:len=0) (h2:c=[]):Safe s lo h .Bv len c:=⟨.inl ⟨h1,h2,rfl⟩,W7.Bv s lo,.inl h1⟩
theorem Safe.own {s lo len:Nat} {h:H} {v:AV} {c:List AV} (ho:Fm s lo (A2Z s) h v len c):Safe s lo h v len c:=⟨ho.sl,W7.own ho,Wr.own ho⟩
theorem Safe.base {s lo len:Nat} {h h1:H} {v:AV} {c:List AV} (hs:Safe s lo h v len c) (e:Ai h h1):Safe s lo h1 v len c:=⟨hs.sl.By e.keeps,hs.beh,hs.wr.gr e⟩
theorem Safe.Y5 {s lo lo1 len:Nat} {h:H} {v:AV} {c:List AV} (hs:Safe s lo1 h v len c) (hl:lo<=lo1):Safe s lo h v len c:=⟨hs.sl,hs.beh.mono hl,hs.wr.mono hl⟩
theorem Safe.nl {s lo len:Nat} {h:H} {v:AV} {c:List AV} (hs:Safe s lo h v len c):Safe s lo (Ab h) v len c:=hs.base (Ai.refl h).nl
theorem Safe.rl {s lo len:Nat} {h:H} {v:AV} {c:List AV} {l:List Nat} (hs:Safe s lo h v len c):Safe s lo (Be l h) v len c:=⟨hs.sl.By ((Bi.refl h).Be l),hs.beh,hs.wr⟩
theorem Safe.new {s lo len:Nat} {h:H} {v:AV} {c:List AV} {o:AO} (hs:Safe s lo h v len c):Safe s lo (h.new o) v len c:=hs.base ((Ai.refl h).new o)
theorem Sl.AnO {s c len:Nat} {h:H} {v:AV} {cs l l0:List AV} {e0 e1:TypeId} (hs:Sl s h v len cs) (hg:h.m.get c=.cells l0 e0 .exact) (hl:l.length=l0.length) (Hr:0<len->∀b off n cap z ex,v=.sl b off n cap z ex->b≠c):Sl s (h.put c (.cells l e1 .exact)) v len cs:=by
 rcases hs with h1|⟨b,off,cap,ex,bs,rfl,q2,q3,q4,q5⟩
 . exact .inl h1
 . by_cases hb:b=c
   . subst hb
     obtain ⟨e,k,q6,q7⟩:=q3.cells
     rw [hg] at q6
     cases q6
     rcases Nat.eq_zero_or_pos len with h0|h0
     . subst h0
       refine .inr ⟨b,off,cap,ex,l,rfl,q2,⟨q3.lt,_,.exact,A2 ..,trivial⟩,by omega,?_⟩
       rw [<- q5]
       simp
     . exact absurd rfl (Hr h0 b off len cap s ex rfl)
   . refine .inr ⟨b,off,cap,ex,bs,rfl,q2,⟨q3.lt,?_⟩,q4,q5⟩
     obtain ⟨e,k,q6,q7⟩:=q3.cells
     refine ⟨e,k,by rw [Aq _ _ _ hb];exact q6,?_⟩
     cases k with
     |Cf k st=>
      have hk:k≠c:=λhh=>by have:=q7.2;rw [hh,hg] at this;cases this
      exact ⟨q7.1,by rw [Aq _ _ _ hk];exact q7.2⟩
     |_=>trivial
def Vu (n:Nat):AO->Bool
 |.cells l _ .exact=>Nat.beq l.length n
 |_=>false
@[simp] theorem A0y (n:Nat) (l:List AV) (e:TypeId):Vu n (.cells l e .exact)=Nat.beq l.length n:=rfl
theorem Pb {n:Nat} {o:AO} (hh:Vu n o=true):∃l e,o=.cells l e .exact/\n=l.length:=by
 match o,hh with
 |.cells l e .exact,hh=>exact ⟨l,e,rfl,(Nat.eq_of_beq_eq_true hh).symm⟩
theorem Safe.put {s lo c len:Nat} {h:H} {v:AV} {cs l:List AV} {e1:TypeId} (hs:Safe s lo h v len cs) (hc:c<lo) (hg:Vu l.length (h.m.get c)=true):Safe s lo (h.put c (.cells l e1 .exact)) v len cs:=by
 obtain ⟨l0,e0,hg,hl⟩:=Pb hg
 refine ⟨Sl.AnO hs.sl hg hl λh0 b off n cap z ex hv=>?_,hs.beh,hs.wr.put hc⟩
 rcases hs.sl with ⟨_,_,h1⟩|⟨b',Yk,Ll,ex',bs,h1,q2,_⟩
 . rw [h1] at hv;cases hv
 . have h2:=hs.beh b off n cap z ex hv
   rw [h1] at hv
   cases hv
   have:=h2 h0
   omega
abbrev FrN (lo:Nat) (h:H) (v:AV) (l:List Nd):Prop:=Safe 3 lo h v l.length (l.flatMap Bw)
abbrev FrO (lo:Nat) (h:H) (v:AV) (l:List (Int × Int)):Prop:=Safe 2 lo h v l.length (l.flatMap Zd)
theorem Ar0:∀l:List (Int × Int),Bm (l.flatMap Zd)=true
 |[]=>rfl
 |x::l=>by
  have ih:=Ar0 l
  simp [ih]
def R26:Prop:=∀(l:List Nd) (v:AV) (h:H),Ue h v l->l.length<=10000000->Ah h (λr h1=>FrN h.nx h1 r l) (ctx.call 26 [v] h)
def R27:Prop:=∀(l:List (Int × Int)) (v:AV) (h:H),OkS h v l->l.length<=10000000->Ah h (λr h1=>FrO h.nx h1 r l) (ctx.call 27 [v] h)
theorem cp {s bytes lo:Nat} {et:TypeId} {h:H} {v:AV} {len:Nat} {c:List AV} (hb:len * (bytes+1)<1000000000000) (hv:Sl s h v len c) (h1:Bm c=true) (Kf:lo<=h.nx):
 ∃w h',Ds et s bytes (.sl h.nx 0 0 0 s true) v (h.new (.cells [] et .exact))=.ok w h'/\Ai h h'/\Fm s lo et h' w len c:=by
 have e:Ai h (h.new (.cells [] et .exact)):=(Ai.refl h).new _
 have hv':=hv.By e.keeps
 obtain ⟨w,h',q1,q2,q3⟩:=Sg (h:=h.new (.cells [] et .exact)) (b:=h.nx) (off:=0) (cs:=[]) (bytes:=bytes) (et:=et) (lo:=lo) ⟨by show h.nx<h.nx+1;omega,et,.exact,Bf _,trivial⟩ (Nat.le_refl _) hv'.src hv'.Rv hb h1 (by show lo<=h.nx+1;omega)
 exact ⟨w,h',q1,e.trans q2,q3⟩
theorem A2V (h:H):Aj prog .eql 22 true .Bv .Bv h=.ok (.bool true) h:=by kernel_rfl
theorem A2X (b o l c s:Nat) (ex:Bool) (h:H):Aj prog .eql 22 true (.sl b o l c s ex) .Bv h=.ok (.bool false) h:=by kernel_rfl
theorem A2W (h:H):Aj prog .eql 23 true .Bv .Bv h=.ok (.bool true) h:=by kernel_rfl
theorem A2Y (b o l c s:Nat) (ex:Bool) (h:H):Aj prog .eql 23 true (.sl b o l c s ex) .Bv h=.ok (.bool false) h:=by kernel_rfl
theorem r26 (l:List Nd) (v:AV) (h:H) (hv:Ue h v l) (hl:l.length<=10000000):Ah h (λr h1=>FrN h.nx h1 r l) (Ay prog ctx N true 26 [v] h):=by
 rw [e26]
 rcases hv with ⟨h1,h2,rfl⟩|⟨b,off,cap,ex,cs,rfl,h2⟩
 . refine Ey (A2V h) (Zx ?_)
   exact Lo (Ai.refl h) (Safe.nil h1 h2)
 . obtain ⟨w,h',q1,q2,q3⟩:=cp (bytes:=32) (et:=32) (lo:=h.nx) om (show Ue h _ l from .inr ⟨b,off,cap,ex,cs,rfl,h2⟩) (Tk l) (Nat.le_refl _)
   refine Ey (A2X ..) (Ae5 ?_)
   refine Ey (v:=.sl h.nx 0 0 0 3 true) (h:=h.new (.cells [] 32 .exact)) rfl ?_
   exact Ey q1 (Lo q2 (Safe.own q3))
theorem r27 (l:List (Int × Int)) (v:AV) (h:H) (hv:OkS h v l) (hl:l.length<=10000000):Ah h (λr h1=>FrO h.nx h1 r l) (Ay prog ctx N true 27 [v] h):=by
 rw [e27]
 rcases hv with ⟨h1,h2,rfl⟩|⟨b,off,cap,ex,cs,rfl,h2⟩
 . refine Ey (A2W h) (Zx ?_)
   exact Lo (Ai.refl h) (Safe.nil h1 h2)
 . obtain ⟨w,h',q1,q2,q3⟩:=cp (bytes:=16) (et:=33) (lo:=h.nx) om (show OkS h _ l from .inr ⟨b,off,cap,ex,cs,rfl,h2⟩) (Ar0 l) (Nat.le_refl _)
   refine Ey (A2Y ..) (Ae5 ?_)
   refine Ey (v:=.sl h.nx 0 0 0 2 true) (h:=h.new (.cells [] 33 .exact)) rfl ?_
   exact Ey q1 (Lo q2 (Safe.own q3))
theorem Li {s lo len:Nat} {h:H} {v:AV} {c:List AV} (q:Safe s lo h v len c:=by first|(apply Safe.Y5;(focus (repeat' (first|with_reducible apply Safe.nl|with_reducible apply Safe.rl|with_reducible apply Safe.new|with_reducible apply Safe.put|(refine Safe.base (by assumption) ?_;exact Ex)|(apply Safe.base;rotate_left;assumption)|exact Ce|exact N4|fail)));exact Ce)|fail):Safe s lo h v len c:=q
end Go.Proofs
namespace Go.Proofs
open Go Go.Ev Go.Nm Go.Ev.Sx
attribute [local irreducible] Aa Al Af Ad
variable (ctx:Ac) (N:Nat)
structure Qr where
 c0:Int
 code:List Nd
 c2:Int
 c3:Int
 c4:Int
 c5:Int
 s6:List Nat
 c7:Int
 ord:List (Int × Int)
 c9:Int
 Wz:Bool
 Uw:List Nat
 W0:Int
 Wu:List Nat
 s14:List Nat
 s15:List Nat
 c16:Int
 E9:List Nd
 Oi:List Nat
 Mg:Int
abbrev qc (q:Qr) (vc vo vm:AV):List AV:=[.int .i64 q.c0,vc,.int .i64 q.c2,.int .i64 q.c3,.int .i64 q.c4,.int .i64 q.c5,.str q.s6,.int .i64 q.c7,vo,.int .i64 q.c9,.bool q.Wz,.str q.Uw,.int .i64 q.W0,.str q.Wu,.str q.s14,.str q.s15,.int .i64 q.c16,vm,.str q.Oi,.int .i64 q.Mg]
structure QV (h:H) (q:Qr) (vc vo vm:AV):Prop where
 c:Ue h vc q.code
 o:OkS h vo q.ord
 m:Ue h vm q.E9
theorem QV.By {h h1:H} {q:Qr} {vc vo vm:AV} (hq:QV h q vc vo vm) (e:Bi h h1):QV h1 q vc vo vm:=⟨hq.c.By e,hq.o.By e,hq.m.By e⟩
structure QS (lo:Nat) (h:H) (q:Qr) (vc vo vm:AV):Prop where
 c:FrN lo h vc q.code
 o:FrO lo h vo q.ord
 m:FrN lo h vm q.E9
theorem QS.qv {lo:Nat} {h:H} {q:Qr} {vc vo vm:AV} (hq:QS lo h q vc vo vm):QV h q vc vo vm:=⟨hq.c.sl,hq.o.sl,hq.m.sl⟩
def AgG (lo:Nat) (q:Qr) (r:AV) (h:H):Prop:=∃vc vo vm,r=.agg (qc q vc vo vm)/\QS lo h q vc vo vm
end Go.Proofs
namespace Go.Proofs
open Go Go.Ev Go.Nm Tryz Go.Ev.Sx
attribute [local irreducible] Aa Al Af Ad
variable (ctx:Ac) (N:Nat)
def Rn (l:List Nd):List Nd:=match Je l false with|some t=>if l.length<=200 then (normal t).nodes else l|none=>l
def Tb (l:List Nd):List Nd:=match Je l true with|some t=>if l.length<=200 then (if same (normal t) (fixed true)=true then [] else (normal t).nodes) else l|none=>l
def Oa (q:Qr):Qr:={ q with code:=Rn q.code,E9:=Tb q.E9 }
def N28:Prop:=∀(c:Bool) (l:List Nd) (v:AV) (h:H) (lo:Nat),FrN lo h v l->l.length<=3000->Ah h (λr _=>r=Yy (Je l c)) (ctx.call 28 [v,.bool c] h)
def N29:Prop:=∀(t:Tr) (h:H),Kq t->size t<=200->ctx.call 29 [A3 t] h=.ok (A3 (normal t)) h
def N31:Prop:=∀(h:H),ctx.call 31 [.bool true] h=.ok (A3 (fixed true)) h
def N30:Prop:=∀(a b:Tr) (h:H),size a<=1000->size b<=1000->ctx.call 30 [A3 a,A3 b] h=.ok (.bool (same a b)) h
def NNd:Prop:=∀(t:Tr) (h:H),size t<=1000->Ah h (λr h1=>FrN h.nx h1 r t.nodes) (Hn prog ctx (A3 t) (mnm prog 109 0) [] h)
abbrev zq:List AV:=[(.int .i64 0),.Bv,(.int .i64 0),(.int .i64 0),(.int .i64 0),(.int .i64 0),(.str []),(.int .i64 0),.Bv,(.int .i64 0),(.bool false),(.str []),(.int .i64 0),(.str []),(.str []),(.str []),(.int .i64 0),.Bv,(.str []),(.int .i64 0)]
set_option maxHeartbeats 2000000 in
theorem j10 (Pv:N28 ctx) (Kr:N29 ctx) (J3:N30 ctx) (N7:N31 ctx) (hnd:NNd ctx) (hbs:∀l c t,Je l c=some t->size t=l.length/\Kq t) (hns:∀t,Kq t->size (normal t)<=size t) (q:Qr) (w1 wo w3:AV) (f0:L2) {h0 h:H} (he:Ai h0 h) (Kf:h0.nx+2<=h.nx) (hg:h.m.get h0.nx=.cells (qc q w1 wo w3) 26 .exact) (hg2:h.m.get (h0.nx+1)=.cells zq 26 .exact) (qs:QS (h0.nx+2) h q w1 wo w3) (hl3:q.E9.length<=3000):
 Ah h0 (AgG h0.nx { q with E9:=Tb q.E9 }) (AkT ctx N (.ptr h0.nx 0) (.ptr (h0.nx+1) 0) f0 h):=by
 obtain ⟨s1,s2,s3⟩:=qs
 obtain ⟨p11,p12⟩:=B2 s1.sl
 obtain ⟨p21,p22⟩:=B2 s2.sl
 obtain ⟨p31,p32⟩:=B2 s3.sl
 have hlen:∀hh,Fo w3 hh=.ok (.int .i64 (q.E9.length:Int)) hh:=λ_=>s3.sl.Gs
 rw [AwG]
 refine wk ?_
 refine X0 (Pv true q.E9 w3 _ _ s3 hl3) λv3 h3 e3 q3=>?_
 subst q3
 have BdA:=e3.lo
 have Bbc:=e3.Cf
 cases hb:Je q.E9 true with
 |none=>
  have hs:Tb q.E9=q.E9:=by unfold Tb;rw [hb]
  rw [show Yy none=.Bj [.B3,.bool false] from rfl]
  clear hbs hns Pv Kr J3 N7 hnd
  refine wk ?_
  refine Lo ?_ ⟨w1,wo,w3,rfl,?_,?_,?_⟩
  . exact Ex
  . (exact Li)
  . (exact Li)
  . show FrN _ _ _ (Tb q.E9)
    rw [hs]
    (exact Li)
 |some t=>
  obtain ⟨b1,b2⟩:=hbs _ _ _ hb
  have b3:=hns t b2
  rw [show Yy (some t)=.Bj [A3 t,.bool true] from rfl]
  by_cases k:(q.E9.length:Int)<=200
  . have k1:=decide_eq_true k
    have Fc:size t<=200:=by omega
    have AdN:size (normal t)<=1000:=by omega
    have Aqf:∀hh,ctx.call 29 [A3 t] hh=.ok (A3 (normal t)) hh:=λhh=>Kr t hh b2 Fc
    have Ayk:∀hh,ctx.call 31 [.bool true] hh=.ok (A3 (fixed true)) hh:=N7
    have Ayj:∀hh,ctx.call 30 [A3 (normal t),A3 (fixed true)] hh=.ok (.bool (same (normal t) (fixed true))) hh:=λhh=>J3 _ _ hh AdN (by rw [Ct];omega)
    have hn1:∀hh,Ah hh (λr h1=>FrN hh.nx h1 r (normal t).nodes) (Hn prog ctx (A3 (normal t)) (mnm prog 109 0) [] hh):=λhh=>hnd _ hh AdN
    have hs:Tb q.E9=if same (normal t) (fixed true)=true then [] else (normal t).nodes:=by unfold Tb;rw [hb];exact if_pos om
    clear hbs hns Pv Kr J3 N7 hnd k hb b3 b1 b2
    generalize A3 t=T at *
    generalize hT':A3 (normal t)=T' at *
    generalize A3 (fixed true)=F at *
    generalize same (normal t) (fixed true)=B at *
    generalize (normal t).nodes=L at *
    refine wk ?_
    refine X0 (hn1 _) λv12 Gd e12 AzL=>?_
    obtain ⟨p41,p42⟩:=B2 AzL.sl
    have A2U:=e12.lo
    have AxO:=e12.Cf
    clear hn1
    cases B
    . rw [if_neg (by decide)] at hs
      refine wk ?_
      refine Lo ?_ ⟨w1,wo,v12,rfl,?_,?_,?_⟩
      . exact Ex
      . (exact Li)
      . (exact Li)
      . show FrN _ _ _ (Tb q.E9)
        rw [hs]
        (exact Li)
    . rw [if_pos rfl] at hs
      refine wk ?_
      refine Lo ?_ ⟨w1,wo,.Bv,rfl,?_,?_,?_⟩
      . exact Ex
      . (exact Li)
      . (exact Li)
      . show FrN _ _ _ (Tb q.E9)
        rw [hs]
        exact Safe.nil rfl rfl
  . have k1:=decide_eq_false k
    have hs:Tb q.E9=q.E9:=by unfold Tb;rw [hb];exact if_neg om
    clear hbs hns Pv Kr J3 N7 hnd k hb b3 b1 b2
    generalize A3 t=T at *
    refine wk ?_
    refine Lo ?_ ⟨w1,wo,w3,rfl,?_,?_,?_⟩
    . exact Ex
    . (exact Li)
    . (exact Li)
    . show FrN _ _ _ (Tb q.E9)
      rw [hs]
      (exact Li)
def R10:Prop:=∀(q:Qr) (vc vo vm:AV) (h:H),QV h q vc vo vm->q.code.length<=3000->q.ord.length<=3000->q.E9.length<=3000->Ah h (AgG h.nx (Oa q)) (ctx.call 10 [.agg (qc q vc vo vm)] h)
set_option maxHeartbeats 4000000 in
theorem r10 (U7:R26 ctx) (U8:R27 ctx) (Pv:N28 ctx) (Kr:N29 ctx) (J3:N30 ctx) (N7:N31 ctx) (hnd:NNd ctx) (hbs:∀l c t,Je l c=some t->size t=l.length/\Kq t) (hns:∀t,Kq t->size (normal t)<=size t) (q:Qr) (vc vo vm:AV) (h:H) (hq:QV h q vc vo vm) (Vs:q.code.length<=3000) (P4:q.ord.length<=3000) (hl3:q.E9.length<=3000):Ah h (AgG h.nx (Oa q)) (Ay prog ctx N false 10 [.agg (qc q vc vo vm)] h):=by
 rw [e10]
 obtain ⟨hc,ho,hm⟩:=hq
 obtain ⟨oc1,oc2⟩:=B2 hc
 obtain ⟨oo1,oo2⟩:=B2 ho
 obtain ⟨om1,om2⟩:=B2 hm
 have jj:=λ(q':Qr) (w1 wo w3:AV) (f0:L2) (h1:H)=>j10 ctx N Pv Kr J3 N7 hnd hbs hns q' w1 wo w3 f0 (h0:=h) (h:=h1)
 replace jj:=(show F5 _ from jj)
 obtain ⟨c0,code,c2,c3,c4,c5,s6,c7,ord,c9,Wz,Uw,W0,Wu,s14,s15,c16,E9,Oi,Mg⟩:=q
 simp only at hc ho hm Vs P4 hl3
 replace hbs:=(show F5 _ from hbs)
 replace hns:=(show F5 _ from hns)
 (repeat' (first|refine wd ?_|((with_reducible (first|apply Fj|apply zc2));exact U7 code vc _ (Sl.By hc M0) om;intro vv hh ee E8 Bu qq;(first|(have eqt:=Ai.quiet ee;try simp only [C9] at E8 Bu eqt)|(try simp only [C9] at E8 Bu));obtain ⟨ob,cw⟩:=B2 qq.1;have sf:=qq;(try simp only [C9] at sf))|((with_reducible (first|apply Fj|apply zc2));exact U7 E9 vm _ (Sl.By hm M0) om;intro vv hh ee E8 Bu qq;(first|(have eqt:=Ai.quiet ee;try simp only [C9] at E8 Bu eqt)|(try simp only [C9] at E8 Bu));obtain ⟨ob,cw⟩:=B2 qq.1;have sf:=qq;(try simp only [C9] at sf))|((with_reducible (first|apply Fj|apply zc2));exact U8 ord vo _ (Sl.By ho M0) om;intro vv hh ee E8 Bu qq;(first|(have eqt:=Ai.quiet ee;try simp only [C9] at E8 Bu eqt)|(try simp only [C9] at E8 Bu));obtain ⟨ob,cw⟩:=B2 qq.1;have sf:=qq;(try simp only [C9] at sf))))
 clear hc ho hm
 refine X0 (Pv false code _ _ 0 ?_ Vs) λv21 O8 e21 q21=>?_
 . (exact Li)
 subst q21
 have AvK:=e21.lo
 have AxP:=e21.Cf
 rename_i w1 _ _ _ _ _ sf1 _ _ _ w3 _ _ _ _ _ sf3 _ _ _
 simp only [Z9,ArH,AcQ,Ait] at AvK
 have A3J:O8.m.get h.nx=.cells (qc ⟨c0,code,c2,c3,c4,c5,s6,c7,ord,c9,Wz,Uw,W0,Wu,s14,s15,c16,E9,Oi,Mg⟩ w1 vv w3) 26 .exact:=N4
 have A4w:O8.m.get (h.nx+1)=.cells zq 26 .exact:=N4
 have hs1:FrN (h.nx+2) O8 w1 code:=Li
 have hs3:FrN (h.nx+2) O8 w3 E9:=Li
 have hs2:FrO (h.nx+2) O8 vv ord:=Li
 have gR:Ai h O8:=Ex
 have A3U:h.nx+2<=O8.nx:=by omega
 have hlen:∀hh,Fo w1 hh=.ok (.int .i64 (code.length:Int)) hh:=λ_=>hs1.sl.Gs
 unfold Oa
 simp only
 obtain ⟨p11,p12⟩:=B2 hs1.sl
 clear AxP e21 AvK sf1 sf3
 cases hb:Je code false with
 |none=>
  have hs:Rn code=code:=by unfold Rn;rw [hb]
  rw [hs,show Yy none=.Bj [.B3,.bool false] from rfl]
  clear hbs hns Pv Kr J3 N7 hnd
  refine wk ?_
  exact (show ∀(q':Qr) (w1 wo w3:AV) (f0:L2) (h1:H),_ from jj) ⟨c0,code,c2,c3,c4,c5,s6,c7,ord,c9,Wz,Uw,W0,Wu,s14,s15,c16,E9,Oi,Mg⟩ w1 vv w3 _ O8 gR A3U A3J A4w ⟨hs1,hs2,hs3⟩ hl3
 |some t=>
  obtain ⟨b1,b2⟩:=(show ∀l c t,Je l c=some t->size t=l.length/\Kq t from hbs) _ _ _ hb
  have b3:=(show ∀t,Kq t->size (normal t)<=size t from hns) t b2
  rw [show Yy (some t)=.Bj [A3 t,.bool true] from rfl]
  by_cases k:(code.length:Int)<=200
  . have k1:=decide_eq_true k
    have Fc:size t<=200:=by omega
    have AdN:size (normal t)<=1000:=by omega
    have Aqf:∀hh,ctx.call 29 [A3 t] hh=.ok (A3 (normal t)) hh:=λhh=>Kr t hh b2 Fc
    have hn1:∀hh,Ah hh (λr h1=>FrN hh.nx h1 r (normal t).nodes) (Hn prog ctx (A3 (normal t)) (mnm prog 109 0) [] hh):=λhh=>hnd _ hh AdN
    have hs:Rn code=(normal t).nodes:=by unfold Rn;rw [hb];exact if_pos om
    rw [hs]
    clear hbs hns Pv Kr J3 N7 hnd k hb b3 b1 b2
    generalize A3 t=T at *
    generalize A3 (normal t)=T' at *
    generalize (normal t).nodes=L at *
    refine wk ?_
    refine X0 (hn1 _) λv12 Gd e12 AzL=>?_
    obtain ⟨p41,p42⟩:=B2 AzL.sl
    have A2U:=e12.lo
    have AxO:=e12.Cf
    clear hn1
    refine wk ?_
    exact (show ∀(q':Qr) (w1 wo w3:AV) (f0:L2) (h1:H),_ from jj) ⟨c0,L,c2,c3,c4,c5,s6,c7,ord,c9,Wz,Uw,W0,Wu,s14,s15,c16,E9,Oi,Mg⟩ v12 vv w3 _ _ Ex Ce N4 N4 ⟨Li,Li,Li⟩ hl3
  . have k1:=decide_eq_false k
    have hs:Rn code=code:=by unfold Rn;rw [hb];exact if_neg om
    rw [hs]
    clear hbs hns Pv Kr J3 N7 hnd k hb b3 b1 b2
    generalize A3 t=T at *
    refine wk ?_
    exact (show ∀(q':Qr) (w1 wo w3:AV) (f0:L2) (h1:H),_ from jj) ⟨c0,code,c2,c3,c4,c5,s6,c7,ord,c9,Wz,Uw,W0,Wu,s14,s15,c16,E9,Oi,Mg⟩ w1 vv w3 _ O8 gR A3U A3J A4w ⟨hs1,hs2,hs3⟩ hl3
end Go.Proofs
