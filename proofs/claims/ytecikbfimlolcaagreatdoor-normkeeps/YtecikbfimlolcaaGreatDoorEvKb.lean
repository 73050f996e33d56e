/- The parts of Check: kind, limits, factor, bits. -/
import Derived.Test.YtecikbfimlolcaaGreatDoorEvKa
set_option linter.all false
set_option maxRecDepth 100000
noncomputable section
namespace Go.Proofs
open Go Go.Ev Go.Nm Tryz Go.Ev.Sx
attribute [local irreducible] Aa Al Af Ad
variable (ctx:Ac) (N:Nat)
def Af7 (w:List Nat):AV:=.agg [.str w,.bool false]
def AtL (w:List Nat):AV × AV:=(Af7 w,.agg [])
def Bgz (a b:List Nat):Bool:=match Gy prog 351 (Af7 a) (Af7 b) with|some false=>true|_=>false
theorem Avi:(R9.all λa=>Fe prog 351 (Af7 a)&&R9.all λb=>decide (a=b)||Bgz a b)=true:=by kernel_rfl
theorem A9r {a:List Nat} (h:a∈R9):Fe prog 351 (Af7 a)=true:=by
 have:=List.all_eq_true.1 Avi a h
 rw [Bool.and_eq_true] at this
 exact this.1
theorem BcW {a b:List Nat} (h:a∈R9) (h2:b∈R9) (hn:a≠b):Gy prog 351 (Af7 a) (Af7 b)=some false:=by
 have:=List.all_eq_true.1 Avi a h
 rw [Bool.and_eq_true] at this
 have:=List.all_eq_true.1 this.2 b h2
 rw [decide_eq_false hn] at this
 unfold Bgz at this
 cases hk:Gy prog 351 (Af7 a) (Af7 b) with
 |none=>rw [hk] at this;cases this
 |some c=>
  rw [hk] at this
  cases c
  . rfl
  . cases this
theorem AvQ {w:List Nat} (hw:w∈R9):∀{l:List (List Nat)},(∀a∈l,a∈R9)->w ∉ l->Z7 (Gy prog 351 (Af7 w)) (Af7 w) (.agg []) (l.map AtL)=some ((l++[w]).map AtL)
 |[],_,_=>rfl
 |a::l,hl,hn=>by
  have ih:=AvQ hw (l:=l) (λx hx=>hl x (List.mem_cons_of_mem _ hx)) λhx=>hn (List.mem_cons_of_mem _ hx)
  have h1:=BcW hw (hl a (List.mem_cons_self ..)) λe=>hn (e ▸ List.mem_cons_self ..)
  show (match Gy prog 351 (Af7 w) (Af7 a) with
   |some true=>some ((Af7 w,AV.agg [])::l.map AtL)
   |some false=>match Z7 (Gy prog 351 (Af7 w)) (Af7 w) (.agg []) (l.map AtL) with|some r=>some (AtL a::r)|none=>none
   |none=>none)=_
  rw [h1]
  simp only
  rw [ih]
  rfl
theorem AzZ (v:AV) (l:List (List Nat)) (h:H) (hs:Ig h v l) (hm:∀w∈l,w∈R9) (hd0:l.Nodup) (hl:l.length<=5):
 ∀(k:Nat) (i:Int) (n:Nat) (hd:H) (f0:L2),i+(k:Int)=(l.length:Int)->0<=i->k<n->Ai h hd->h.nx<hd.nx->hd.m.get h.nx=.map ((l.take i.toNat).map AtL)->Ah h (λr _=>r=.bool false) (As8 ctx N n v (.map h.nx) v (.int .i64 (l.length:Int)) (.int .i64 i) f0 hd)
 |0,i,n,hd,f0,Qd,H4,Zo,hg,hx,hgm=>by
  obtain ⟨n1,rfl⟩:∃n1,n=n1+1:=⟨n - 1,by omega⟩
  have k1:decide (i<(l.length:Int))=false:=df
  have hlen:∀hh,Fo v hh=.ok (.int .i64 (l.length:Int)) hh:=λ_=>hs.Gs
  have hlm:lnM (.map h.nx) hd=.ok (.int .i64 (l.length:Int)) hd:=by
   show (match (match hd.m.get h.nx with|.map es=>some es|_=>none) with|some es=>OR.ok (.int .i64 (.ofNat es.length)) hd|none=>.bad 127)=_
   rw [hgm]
   show OR.ok (.int .i64 (.ofNat (((l.take i.toNat).map AtL).length))) hd=_
   rw [List.length_map,List.take_of_length_le om]
   rfl
  rw [Ayw]
  refine wk ?_
  exact zr hg (by simp)
 |k+1,i,n,hd,f0,Qd,H4,Zo,hg,hx,hgm=>by
  obtain ⟨n1,rfl⟩:∃n1,n=n1+1:=⟨n - 1,by omega⟩
  have ih:=AzZ v l h hs hm hd0 hl k (i+1) n1
  have k1:decide (i<(l.length:Int))=true:=dt
  have X4:((i.toNat:Nat):Int)=i:=Int.toNat_of_nonneg H4
  obtain ⟨x,Gb⟩:∃x,l[i.toNat]?=some x:=⟨_,List.getElem?_eq_getElem om⟩
  obtain ⟨b1,o1,el⟩:=R0.elem (f:=Aeb) (s:=1) (λ_=>rfl) (Sl.By hs hg.keeps) Gb
  have hxm:=hm x (List.mem_of_getElem? Gb)
  have x1:=el.ia
  rw [X4] at x1
  have x2:=el.part 0 _ rfl
  rw [Nat.add_zero] at x2
  have Na:x ∉ l.take i.toNat:=by
   intro Vc
   obtain ⟨j,hj⟩:=List.getElem?_of_mem Vc
   have hj1:j<i.toNat:=by
    have:=(List.getElem?_eq_some_iff.1 hj).1
    rw [List.length_take] at this
    omega
   rw [List.getElem?_take_of_lt hj1] at hj
   have h1:=(List.getElem?_eq_some_iff.1 hj)
   have h2:=(List.getElem?_eq_some_iff.1 Gb)
   have:=(List.getElem_inj hd0).1 (h1.2.trans h2.2.symm)
   omega
  have Bkv:∀hh:H,hh.m.get h.nx=hd.m.get h.nx->As5 prog 351 (.agg []) (.map h.nx) (.agg [.str x,.bool false]) (.agg []) hh=.ok (.Bj []) (hh.put h.nx (.map ((l.take (i+1).toNat).map AtL))):=by
   intro hh he
   rw [A53,he,hgm,AqR,show (AV.agg [.str x,.bool false])=Af7 x from rfl,if_pos (A9r hxm)]
   rw [AvQ hxm (λa ha=>hm a (List.mem_of_mem_take ha)) Na,A0x]
   rw [show (i+1).toNat=i.toNat+1 by omega,List.take_add_one,Gb]
   rfl
  clear el X4 hs
  rw [Ayw]
  have hi5:=Bkv hd rfl
  refine wk ?_
  exact ih _ _ om om om (hg.put _ _ (Nat.le_refl _)) hx (by rw [List.map_take];exact A2 ..)
def BeJ:Prop:=∀(v:AV) (l:List (List Nat)) (h:H),Ig h v l->(∀w∈l,w∈R9)->l.Nodup->l.length<=5->Ah h (λr _=>r=.bool false) (ctx.call 268 [v] h)
theorem Bl5 (hN:100<N) (v:AV) (l:List (List Nat)) (h:H) (hs:Ig h v l) (hm:∀w∈l,w∈R9) (hd0:l.Nodup) (hl:l.length<=5):Ah h (λr _=>r=.bool false) (Ay prog ctx N false 268 [v] h):=by
 rw [BjE]
 refine Ey (v:=.map h.nx) (h:=h.new (.map [])) rfl ?_
 refine Ey hs.Gs ?_
 exact AzZ ctx N v l h hs hm hd0 hl l.length 0 N _ _ om om om ((Ai.refl h).new _) (Nat.lt_succ_self _) (Bf _)
structure CsD (h:H) (v:AV) (l:List Cl):Prop where
 r:CsR h v l
 w:∀c∈l,Ig h c.w c.ws
 ok:∀c∈l,c.name∈N1/\AdD c.a c.b c.ws
 gk:S0 h
theorem CsD.By {h h1:H} {v:AV} {l:List Cl} (hs:CsD h v l) (e:Bi h h1):CsD h1 v l:=⟨hs.r.By e,λc hc=>Sl.By (hs.w c hc) e,hs.ok,hs.gk.By e⟩
theorem Bdb {u:Nat} {w:List Nat} (h:w∈R9.take u):w∈R9:=List.mem_of_mem_take h
theorem Bg5 (u:Nat):(R9.take u).Nodup:=List.Sublist.nodup (List.take_sublist u R9) (by decide)
def BeH:Prop:=∀(c:Cl) (h:H),S0 h->Ig h c.w c.ws->c.ws≠[]->AdD c.a c.b c.ws->Ah h (λr _=>r=.int .i64 0) (ctx.call 241 [.agg (Hx c)] h)
theorem Bl1 (BjY:BeI ctx) (BjZ:BeJ ctx) (c:Cl) (h:H) (hk:S0 h) (hw:Ig h c.w c.ws) (Hr:c.ws≠[]) (hv:AdD c.a c.b c.ws):Ah h (λr _=>r=.int .i64 0) (Ay prog ctx N true 241 [.agg (Hx c)] h):=by
 rw [BjA]
 obtain ⟨nm,a,b,w,ws⟩:=c
 simp only at hw Hr hv
 rcases hv with ⟨h0,_⟩|⟨u,u1,u5,hu,ha,hb⟩
 . exact absurd h0 Hr
 . have hlu:ws.length=u:=by rw [hu,List.length_take];show min u 5=u;omega
   subst ha
   have hlen:∀hh,Fo w hh=.ok (.int .i64 (u:Int)) hh:=λhh=>by rw [<- hlu];exact hw.Gs
   have k1:decide ((64:Int)<(u:Int))=false:=df
   have hm:∀s∈ws,s∈R9:=λs hs=>Bdb (u:=u) (hu ▸ hs)
   have hm3:∀s∈ws,s∈R2++N1++R9:=λs hs=>List.mem_append_right _ (hm s hs)
   have hnd:ws.Nodup:=hu ▸ Bg5 u
   have hl5:ws.length<=5:=by omega
   obtain ⟨o1,o2⟩:=B2 hw
   replace hm3:=(show F5 _ from hm3)
   replace hm:=(show F5 _ from hm)
   clear hu
   (repeat' (first|refine wk ?_|((with_reducible (first|apply Fj|apply zc2));exact BjY _ ws _ (hk.By M0) (Sl.By hw M0) hm3 hl5;intro vv hh ee E8 Bu qq;(try simp only [C9] at E8 Bu);subst qq)|((with_reducible (first|apply Fj|apply zc2));exact BjZ _ ws _ (Sl.By hw M0) hm hnd hl5;intro vv hh ee E8 Bu qq;(try simp only [C9] at E8 Bu);subst qq)))
   exact zr Ex rfl
def A7R:Prop:=∀(v:AV) (l:List Cl) (i:Int) (h:H),CsD h v l->(l.map Cl.name).Nodup->0<=i->i<(l.length:Int)->Ah h (λr _=>r=.int .i64 0) (ctx.call 195 [v,.int .i64 i] h)
theorem Blp (A5n:A7Y ctx) (BjW:BeG ctx) (BjX:BeH ctx) (v:AV) (l:List Cl) (i:Int) (h:H) (hs:CsD h v l) (hnd:(l.map Cl.name).Nodup) (H4:0<=i) (hi:i<(l.length:Int)):Ah h (λr _=>r=.int .i64 0) (Ay prog ctx N true 195 [v,.int .i64 i] h):=by
 rw [Bjy]
 have X4:((i.toNat:Nat):Int)=i:=Int.toNat_of_nonneg H4
 obtain ⟨c,hx⟩:∃x,l[i.toNat]?=some x:=⟨_,List.getElem?_eq_getElem om⟩
 have hxm:=List.mem_of_getElem? hx
 obtain ⟨b1,o1,el⟩:=R0.elem (f:=Hx) (s:=4) (λ_=>rfl) hs.r.sl hx
 have x1:=el.ia
 rw [X4] at x1
 have x2:=el.all
 obtain ⟨w1,w2⟩:=hs.r.one c hxm
 obtain ⟨hn1,hv⟩:=hs.ok c hxm
 have hww:=hs.w c hxm
 have hnm:c.name∈R2++N1++R9:=List.mem_append_left _ (List.mem_append_right _ hn1)
 have A0B:∀d∈l.take i.toNat,d.name≠c.name:=by
  intro d hd he
  obtain ⟨j,hj⟩:=List.getElem?_of_mem hd
  have hj1:j<i.toNat:=by
   have:=(List.getElem?_eq_some_iff.1 hj).1
   rw [List.length_take] at this
   omega
  rw [List.getElem?_take_of_lt hj1] at hj
  have h1:(l.map Cl.name)[j]?=some d.name:=by rw [List.getElem?_map,hj];rfl
  have h2:(l.map Cl.name)[i.toNat]?=some d.name:=by rw [List.getElem?_map,hx,he];rfl
  have h3:=List.getElem?_eq_some_iff.1 h1
  have h4:=List.getElem?_eq_some_iff.1 h2
  have:=(List.getElem_inj hnd).1 (h3.2.trans h4.2.symm)
  omega
 have hlen:∀hh,Fo c.w hh=.ok (.int .i64 (c.ws.length:Int)) hh:=λ_=>hww.Gs
 have Z3:=hs.r
 have hk:=hs.gk
 clear el hs hnd
 (repeat' (first|refine wk ?_|((with_reducible (first|apply Fj|apply zc2));exact A5n _ _ (hk.By M0) hnm;intro vv hh ee E8 Bu qq;(try simp only [C9] at E8 Bu);subst qq)))
 have g1:=Bu h.nx om
 have g2:hh.m.get h.nx=.cells (Hx c) 96 .exact:=g1.trans (A2 ..)
 have Z0:Bi h hh:=M0
 have X3:=Z3.By Z0
 have hnx:h.nx<hh.nx:=by omega
 obtain ⟨v',q1,q2⟩:=Sl.hiS (P:=prog) (t:=48) (e:=96) (bytes:=56) (u:=i.toNat) (by kernel_rfl) X3.sl om
 rw [X4] at q1
 have hq:CsR hh v' (l.take i.toNat):=by
  have P4:(l.take i.toNat).length=i.toNat:=by rw [List.length_take];omega
  refine ⟨?_,λd hd=>X3.one d (List.mem_of_mem_take hd),by have:=X3.Mu;omega⟩
  show Sl 4 hh v' (l.take i.toNat).length ((l.take i.toNat).flatMap Hx)
  rw [P4]
  have h5:∀(l:List Cl) (u:Nat),(l.flatMap Hx).take (u * 4)=(l.take u).flatMap Hx:=by
   intro l
   induction l with
   |nil=>intro u;simp
   |cons a l ih=>
    intro u
    cases u with
    |zero=>simp
    |succ u=>
     rw [show (u+1) * 4=u * 4+4 by omega]
     simp [ih]
  rw [<- h5]
  exact q2
 obtain ⟨nm,a,b,w,ws⟩:=c
 simp only at g2 hww hlen hv w1 w2 A0B
 refine Ey (q1 _) ?_
 have A5o:=λh1 e1=>BjW ⟨nm,a,b,w,ws⟩ h.nx v' _ h1 (hq.By e1) A0B
 replace A5o:=(show F5 _ from A5o)
 clear hq q1 q2 X3 Z3 A0B
 have h2:=(show ∀(h1:H) (e1:Bi hh h1),_ from A5o) hh (Bi.refl hh) g2 hnx
 refine Fj h2 λv1 h1 e1 l1 Aad r1=>?_
 subst r1
 have g3:=(Aad h.nx hnx).trans g2
 rcases List.eq_nil_or_concat ws with hw0|hw0
 . subst hw0
   obtain ⟨_,va,vb,vc⟩:([]:List (List Nat))=[]/\-3<=a/\a<=b/\b<=20:=by
    rcases hv with hv|⟨u,u1,u5,hu,_⟩
    . exact hv
    . have:=congrArg List.length hu
      rw [List.length_take] at this
      simp at this
      have h5:R9.length=5:=rfl
      omega
   have k1:decide (a < -1000000)=false:=df
   have k2:decide ((1000000:Int)<b)=false:=df
   have k3:decide (b<a)=false:=df
   refine wk ?_
   exact zr Ex rfl
 . have Hr:ws≠[]:=by
    obtain ⟨l',b',hb'⟩:=hw0
    rw [hb']
    simp
   have AhE:=List.length_pos_iff.2 Hr
   have k1:decide ((0:Int)<(ws.length:Int))=true:=dt
   have BkC:Ig h1 w ws:=Sl.By hww (Z0.trans e1.keeps)
   have hc0:=BjX ⟨nm,a,b,w,ws⟩
   (repeat' (first|refine wk ?_|((with_reducible (first|apply Fj|apply zc2));exact hc0 _ ((hk.By (Z0.trans e1.keeps)).By M0) (Sl.By BkC M0) Hr hv;intro vv hh ee E8 Bu qq;(try simp only [C9] at E8 Bu);subst qq)))
   exact zr Ex rfl
structure ScD (h:H) (s:Sc):Prop where
 nm:s.name∈R2
 pm:(s.pub=false/\1<=s.many/\s.many<=4)\/(s.pub=true/\s.many=0)
 ne:s.A1≠[]
 Mu:s.A1.length<=5
 nd:(s.A1.map Cl.name).Nodup
 cs:CsD h s.cv s.A1
 one:Ge s.cv=true/\cellsOf s.cv=some [s.cv]
theorem ScD.By {h h1:H} {s:Sc} (hs:ScD h s) (e:Bi h h1):ScD h1 s:=⟨hs.nm,hs.pm,hs.ne,hs.Mu,hs.nd,hs.cs.By e,hs.one⟩
abbrev okS (r:AV):Prop:=r=.Bj [.int .i64 0,.int .i64 (-1)]
def Bio:Prop:=∀(s:Sc) (h:H),ScD h s->Ah h (λr _=>r=.bool false) (ctx.call 209 [.agg (Ze s)] h)
def Biq:Prop:=∀(s:Sc) (h:H),ScD h s->Ah h (λr _=>r=.bool false) (ctx.call 211 [.agg (Ze s)] h)
def Bir:Prop:=∀(s:Sc) (h:H),ScD h s->Ah h (λr _=>r=.bool false) (ctx.call 212 [.agg (Ze s)] h)
def Bis:Prop:=∀(s:Sc) (h:H),ScD h s->Ah h (λr _=>r=.bool false) (ctx.call 213 [.agg (Ze s)] h)
theorem Bls (A5n:A7Y ctx) (s:Sc) (h:H) (hs:ScD h s):Ah h (λr _=>r=.bool false) (Ay prog ctx N true 209 [.agg (Ze s)] h):=by
 rw [Bj1]
 have hnm:s.name∈R2++N1++R9:=List.mem_append_left _ (List.mem_append_left _ hs.nm)
 obtain ⟨o1,o2⟩:=hs.one
 have hk:=hs.cs.gk
 clear hs
 (repeat' (first|refine wk ?_|((with_reducible (first|apply Fj|apply zc2));exact A5n _ _ (hk.By M0) hnm;intro vv hh ee E8 Bu qq;(try simp only [C9] at E8 Bu);subst qq)))
 exact zr Ex rfl
theorem Blu (s:Sc) (h:H) (hs:ScD h s):Ah h (λr _=>r=.bool false) (Ay prog ctx N true 211 [.agg (Ze s)] h):=by
 rw [Bj3]
 obtain ⟨o1,o2⟩:=hs.one
 have hp:=hs.pm
 obtain ⟨nm,p,m,cv,A1⟩:=s
 simp only at o1 o2 hp
 clear hs
 rcases hp with ⟨rfl,h1,h2⟩|⟨rfl,rfl⟩
 . have k1:decide (m<1)=false:=df
   have k2:decide ((50:Int)<m)=false:=df
   refine wk ?_
   exact zr Ex rfl
 . repeat' (first|with_reducible (first|apply A7|apply A8|apply A9|apply Ba)|(with_reducible (first|apply Cy|apply Cz|apply C0|apply C1);(conv=>lhs;simp (disch:=first|exact dA|fail) [lw, *]);with_reducible (first|apply A7|apply A8|apply A9|apply Ba|apply Cu|(refine Cv (by simp) ?_)|apply Cx))|(with_reducible (first|apply Kl|apply Km);(conv=>lhs;simp only [zw,Bool.not_true]))|(refine zqq ?_ ?_<;>intro hc<;>(try (exfalso;omega)))|fail)
   exact zr Ex rfl
theorem Blv (s:Sc) (h:H) (hs:ScD h s):Ah h (λr _=>r=.bool false) (Ay prog ctx N true 212 [.agg (Ze s)] h):=by
 rw [Bj4]
 obtain ⟨o1,o2⟩:=hs.one
 have hlen:∀hh,Fo s.cv hh=.ok (.int .i64 (s.A1.length:Int)) hh:=λ_=>hs.cs.r.sl.Gs
 have Hr:=hs.ne
 clear hs
 refine wk ?_
 exact zr Ex (by simp [Hr])
theorem Blw (s:Sc) (h:H) (hs:ScD h s):Ah h (λr _=>r=.bool false) (Ay prog ctx N true 213 [.agg (Ze s)] h):=by
 rw [Bj5]
 obtain ⟨o1,o2⟩:=hs.one
 have hlen:∀hh,Fo s.cv hh=.ok (.int .i64 (s.A1.length:Int)) hh:=λ_=>hs.cs.r.sl.Gs
 have hf:=hs.Mu
 have k1:decide ((16:Int)<(s.A1.length:Int))=false:=df
 clear hs
 refine wk ?_
 exact zr Ex rfl
theorem AzV (Aw5:A7R ctx) (s:Sc) (b:Nat) (h:H) (hs:ScD h s) (hb:b<h.nx) (hg0:h.m.get b=.cells (Ze s) 73 .exact):
 ∀(k:Nat) (i:Int) (n:Nat) (hd:H) (f0:L2),i+(k:Int)=(s.A1.length:Int)->0<=i->k<n->Ai h hd->Ah h (λr _=>okS r) (Asu ctx N n (.ptr b 0) (.int .i64 (s.A1.length:Int)) (.int .i64 i) f0 hd)
 |0,i,n,hd,f0,Qd,H4,Zo,hg=>by
  obtain ⟨n1,rfl⟩:∃n1,n=n1+1:=⟨n - 1,by omega⟩
  have k1:decide (i<(s.A1.length:Int))=false:=df
  rw [Ayo]
  refine wk ?_
  exact zr hg rfl
 |k+1,i,n,hd,f0,Qd,H4,Zo,hg=>by
  obtain ⟨n1,rfl⟩:∃n1,n=n1+1:=⟨n - 1,by omega⟩
  have ih:=AzV Aw5 s b h hs hb hg0 k (i+1) n1
  have hf:=hs.Mu
  have k1:decide (i<(s.A1.length:Int))=true:=dt
  have hg1:=(hg.Cf b hb).trans hg0
  have X3:=hs.cs.By hg.keeps
  have hnd:=hs.nd
  have hil:i<(s.A1.length:Int):=by omega
  obtain ⟨o1,o2⟩:=hs.one
  clear hs
  rw [Ayo]
  (repeat' (first|refine wk ?_|(refine Pd (Aw5 _ _ _ _ X3 hnd H4 hil) ?_;intro vv hh ee E8 Bu qq;subst qq)|fail))
  exact ih _ _ om om om Ex
def BeD:Prop:=∀(s:Sc) (h:H),ScD h s->Ah h (λr _=>okS r) (ctx.call 214 [.agg (Ze s)] h)
theorem Blx (Aw5:A7R ctx) (hN:100<N) (s:Sc) (h:H) (hs:ScD h s):Ah h (λr _=>okS r) (Ay prog ctx N true 214 [.agg (Ze s)] h):=by
 rw [Bj6]
 obtain ⟨o1,o2⟩:=hs.one
 have hlen:∀hh,Fo s.cv hh=.ok (.int .i64 (s.A1.length:Int)) hh:=λ_=>hs.cs.r.sl.Gs
 have hf:=hs.Mu
 have g1:Ai h (h.new (.cells (Ze s) 73 .exact)):=(Ai.refl h).new _
 have hl:=AzV ctx N Aw5 s h.nx (h.new (.cells (Ze s) 73 .exact)) (hs.By g1.keeps) (Nat.lt_succ_self _) (Bf _) s.A1.length 0 N (h.new (.cells (Ze s) 73 .exact))
 replace hl:=(show F5 _ from hl)
 clear hs
 refine wk ?_
 exact Ah.of g1 ((show ∀(f0:L2),_ from hl) _ om om om (Ai.refl _))
theorem cv0 (g:FuncId) (hb:Bg prog g=true) (x:AV) (h:H):cvV (.fn (.func g) [] []) [x] prog ctx h=ctx.call g [x] h:=by
 rw [AeY,if_pos hb]
 rfl
theorem BfC (x y:AV) (h:H):cvV (.fn (.func 207) [] []) [x,y] prog ctx h=ctx.call 207 [x,y] h:=by
 rw [AeY,if_pos (by kernel_rfl)]
 rfl
theorem BfD (x y z:AV) (h:H):cvV (.fn (.func 208) [] [y,z]) [x] prog ctx h=ctx.call 208 [x,y,z] h:=by
 rw [AeY,if_pos (by kernel_rfl)]
 rfl
def Be7:Prop:=∀(g:FuncId) (e:Int) (h:H),Ah h (λr h1=>∃b1 b2,r=.fn (.func 208) [] [.ptr b1 0,.ptr b2 0]/\b1<h1.nx/\b2<h1.nx/\h1.m.get b1=.cells [.fn (.func g) [] []] 204 .exact/\h1.m.get b2=.cells [.int .i64 e] 45 .exact) (ctx.call 207 [.fn (.func g) [] [],.int .i64 e] h)
theorem Blq (g:FuncId) (e:Int) (h:H):Ah h (λr h1=>∃b1 b2,r=.fn (.func 208) [] [.ptr b1 0,.ptr b2 0]/\b1<h1.nx/\b2<h1.nx/\h1.m.get b1=.cells [.fn (.func g) [] []] 204 .exact/\h1.m.get b2=.cells [.int .i64 e] 45 .exact) (Ay prog ctx N true 207 [.fn (.func g) [] [],.int .i64 e] h):=by
 rw [Bjz]
 (have zz0:=@Ba2;have zz1:=@A6q;refine wk ?_)
 refine zr Ex ⟨_,_,rfl,Ce,Ce,?_,Bf (h:=h.new _) _⟩
 rw [Cq (h:=h.new _) _ h.nx (by show h.nx≠h.nx+1;omega)]
 exact Bf _
def RG4:Prop:=∀g,(g=209\/g=211\/g=212\/g=213)->∀(s:Sc) (h:H),ScD h s->Ah h (λr _=>r=.bool false) (ctx.call g [.agg (Ze s)] h)
theorem bd4 {g:FuncId} (hg:g=209\/g=211\/g=212\/g=213):Bg prog g=true:=by
 rcases hg with rfl|rfl|rfl|rfl<;>kernel_rfl
def Bbs:Prop:=∀(g:FuncId) (b1 b2:Nat) (s:Sc) (h:H),(g=209\/g=211\/g=212\/g=213)->ScD h s->b1<h.nx->h.m.get b1=.cells [.fn (.func g) [] []] 204 .exact->Ah h (λr _=>okS r) (ctx.call 208 [.agg (Ze s),.ptr b1 0,.ptr b2 0] h)
theorem Blr (h4:RG4 ctx) (g:FuncId) (b1 b2:Nat) (s:Sc) (h:H) (hg4:g=209\/g=211\/g=212\/g=213) (hs:ScD h s) (Qy:b1<h.nx) (hg1:h.m.get b1=.cells [.fn (.func g) [] []] 204 .exact):Ah h (λr _=>okS r) (Ay prog ctx N true 208 [.agg (Ze s),.ptr b1 0,.ptr b2 0] h):=by
 rw [Bj0]
 obtain ⟨o1,o2⟩:=hs.one
 have Hr:b1≠h.nx:=by omega
 have hcv:=cv0 ctx g (bd4 hg4) (.agg (Ze s))
 have hG1:=h4 g hg4 s (h.new (.cells (Ze s) 73 .exact)) (hs.By ((Ai.refl h).new _).keeps)
 replace hcv:=(show F5 _ from hcv)
 replace hG1:=(show F5 _ from hG1)
 clear hs hg4 h4
 refine wk ?_
 refine gvR ?_
 rw [show cvV (.fn (.func g) [] []) [.agg (Ze s)] prog ctx (h.new (.cells (Ze s) 73 .exact))=ctx.call g [.agg (Ze s)] (h.new (.cells (Ze s) 73 .exact)) from (show ∀h,_ from hcv) _]
 refine Fj (show Ah (h.new (.cells (Ze s) 73 .exact)) (λr _=>r=.bool false) _ from hG1) λv1 h1 e1 l1 Aad q1=>?_
 subst q1
 refine wk ?_
 exact zr Ex rfl
def A7t (h1:H) (f:AV):Prop:=f=.fn (.func 214) [] []\/∃g p1 p2,f=.fn (.func 208) [] [.ptr p1 0,.ptr p2 0]/\(g=209\/g=211\/g=212\/g=213)/\p1<h1.nx/\h1.m.get p1=.cells [.fn (.func g) [] []] 204 .exact
theorem A7t.run {h1:H} {f:AV} (hf:A7t h1 f) (Bc1:Bbs ctx) (Bc2:∀(s:Sc) (h:H),ScD h s->Ah h (λr _=>okS r) (ctx.call 214 [.agg (Ze s)] h)) (s:Sc) (hd:H) (hs:ScD hd s) (g:Ai h1 hd):Ah hd (λr _=>okS r) (cvV f [.agg (Ze s)] prog ctx hd):=by
 rcases hf with rfl|⟨g4,p1,p2,rfl,q1,q2,q3⟩
 . rw [cv0 ctx 214 (by kernel_rfl)]
   exact Bc2 s hd hs
 . rw [BfD]
   exact Bc1 g4 p1 p2 s hd q1 hs (Nat.lt_of_lt_of_le q2 g.lo) ((g.Cf p1 q2).trans q3)
def A3z (r:AV) (h1:H):Prop:=∃F:List AV,F.length=5/\R0 1 (λx:AV=>[x]) h1 r F/\∀f∈F,A7t h1 f
def Be0:Prop:=∀(h:H),Ah h A3z (ctx.call 150 [] h)
theorem Blj (A5m:Be7 ctx) (h:H):Ah h A3z (Ay prog ctx N false 150 [] h):=by
 rw [Bju]
 simp only [mM,mL,mC,BfC]
 refine Fj (A5m 209 19 h) λv1 h1 e1 l1 Aad q1=>?_
 obtain ⟨a1,a2,rfl,x1,x2,x3,x4⟩:=q1
 refine Fj (A5m 211 2 h1) λv2 h2 e2 l2 Aae q2=>?_
 obtain ⟨b1,b2,rfl,y1,y2,y3,y4⟩:=q2
 refine Fj (A5m 212 3 h2) λv3 h3 e3 l3 Ary q3=>?_
 obtain ⟨c1,c2,rfl,z1,z2,z3,z4⟩:=q3
 refine Fj (A5m 213 4 h3) λv4 h4 e4 l4 A9W q4=>?_
 obtain ⟨d1,d2,rfl,w1,w2,w3,w4⟩:=q4
 have g:=((e1.trans e2).trans e3).trans e4
 have ga:=(e2.trans e3).trans e4
 have gb:=e3.trans e4
 clear A5m
 refine wk ?_
 have key:∀(gid:FuncId) (p1 p2:Nat),(gid=209\/gid=211\/gid=212\/gid=213)->p1<h4.nx->h4.m.get p1=.cells [.fn (.func gid) [] []] 204 .exact->∀(o:AO),A7t (h4.new o) (.fn (.func 208) [] [.ptr p1 0,.ptr p2 0]):=by
  intro gid p1 p2 hg hp hgp o
  exact .inr ⟨gid,p1,p2,rfl,hg,Nat.lt_succ_of_lt hp,(Cq _ _ om).trans hgp⟩
 refine zr (g.new _) ⟨[_,_,_,_,_],rfl,Sl.lit (h:=h4) (Bf _) rfl rfl,?_⟩
 intro f hf
 simp only [List.mem_cons,List.not_mem_nil,or_false] at hf
 rcases hf with rfl|rfl|rfl|rfl|rfl
 . exact key 209 a1 a2 (.inl rfl) om ((ga.Cf a1 x1).trans x3) _
 . exact key 211 b1 b2 (.inr (.inl rfl)) om ((gb.Cf b1 y1).trans y3) _
 . exact key 212 c1 c2 (.inr (.inr (.inl rfl))) om ((e4.Cf c1 z1).trans z3) _
 . exact key 213 d1 d2 (.inr (.inr (.inr rfl))) om w3 _
 . exact .inl rfl
theorem A5P (s:Sc) (b:Nat) (v:AV) (F:List AV) (h:H) (hs:ScD h s) (hb:b<h.nx) (hg0:h.m.get b=.cells (Ze s) 73 .exact) (hF:F.length=5) (hv:R0 1 (λx:AV=>[x]) h v F) (hC:∀f∈F,∀(s:Sc) (hd:H),ScD hd s->Ai h hd->Ah hd (λr _=>okS r) (cvV f [.agg (Ze s)] prog ctx hd)):
 ∀(k:Nat) (i:Int) (n:Nat) (hd:H) (f0:L2),i+(k:Int)=5->0<=i->k<n->Ai h hd->Ah h (λr _=>okS r) (AyE ctx N n (.ptr b 0) v (.int .i64 5) (.int .i64 i) f0 hd)
 |0,i,n,hd,f0,Qd,H4,Zo,hg=>by
  obtain ⟨n1,rfl⟩:∃n1,n=n1+1:=⟨n - 1,by omega⟩
  have k1:decide (i<(5:Int))=false:=df
  rw [A4j]
  refine wk ?_
  exact zr hg rfl
 |k+1,i,n,hd,f0,Qd,H4,Zo,hg=>by
  obtain ⟨n1,rfl⟩:∃n1,n=n1+1:=⟨n - 1,by omega⟩
  have ih:=A5P s b v F h hs hb hg0 hF hv hC k (i+1) n1
  have k1:decide (i<(5:Int))=true:=dt
  have X4:((i.toNat:Nat):Int)=i:=Int.toNat_of_nonneg H4
  obtain ⟨x,hx⟩:∃x,F[i.toNat]?=some x:=⟨_,List.getElem?_eq_getElem om⟩
  obtain ⟨b1,o1,el⟩:=R0.elem (f:=λx:AV=>[x]) (s:=1) (λ_=>rfl) (Sl.By hv hg.keeps) hx
  have x1:=el.ia
  rw [X4] at x1
  have x2:=el.part 0 _ rfl
  rw [Nat.add_zero] at x2
  have hg1:=(hg.Cf b hb).trans hg0
  have hc:=hC x (List.mem_of_getElem? hx) s hd (hs.By hg.keeps) hg
  obtain ⟨w1,w2⟩:=hs.one
  replace ih:=(show F5 _ from ih)
  replace hc:=(show F5 _ from hc)
  clear el X4 hx hs hC hv
  rw [A4j]
  refine wk ?_
  refine Fj (show Ah hd (λr _=>okS r) (cvV x [.agg (Ze s)] prog ctx hd) from hc) λv1 h1 e1 l1 Aad q1=>?_
  obtain rfl:v1=.Bj [.int .i64 0,.int .i64 (-1)]:=q1
  refine wk ?_
  exact (show ∀(hd:H) (f0:L2),_ from ih) _ _ om om om Ex
def R94:Prop:=∀(s:Sc) (h:H),ScD h s->Ah h (λr _=>okS r) (ctx.call 94 [.agg (Ze s)] h)
theorem r94 (BjS:Be0 ctx) (Bc1:Bbs ctx) (Bc2:BeD ctx) (hN:100<N) (s:Sc) (h:H) (hs:ScD h s):Ah h (λr _=>okS r) (Ay prog ctx N false 94 [.agg (Ze s)] h):=by
 rw [e94]
 obtain ⟨o1,o2⟩:=hs.one
 have g1:Ai h (h.new (.cells (Ze s) 73 .exact)):=(Ai.refl h).new _
 refine Ey (v:=.ptr h.nx 0) (h:=h.new (.cells (Ze s) 73 .exact)) rfl ?_
 refine Fj (BjS (h.new (.cells (Ze s) 73 .exact))) λv1 h1 e1 l1 Aad q1=>?_
 obtain ⟨F,f1,f2,f3⟩:=q1
 refine Ey (f2.Gs) ?_
 rw [f1]
 exact Ah.of (g1.trans e1) (A5P ctx N s h.nx v1 F h1 (hs.By (g1.trans e1).keeps) (Nat.lt_of_lt_of_le (Nat.lt_succ_self _) e1.lo) ((Aad h.nx (Nat.lt_succ_self _)).trans (Bf _)) f1 f2 (λf hf s hd hs g=>(f3 f hf).run ctx Bc1 Bc2 s hd hs g) 5 0 N h1 _ om om om (Ai.refl _))
structure SsD (h:H) (v:AV) (l:List Sc):Prop where
 r:SsR h v l
 d:∀s∈l,ScD h s
 nd:(l.map Sc.name).Nodup
theorem SsD.By {h h1:H} {v:AV} {l:List Sc} (hs:SsD h v l) (e:Bi h h1):SsD h1 v l:=⟨hs.r.By e,λs h2=>(hs.d s h2).By e,hs.nd⟩
abbrev okA (r:AV):Prop:=r=.Bj [.int .i64 0,.int .i64 (-1),.int .i64 (-1)]
theorem A0i:∀(l:List Sc) (u:Nat),(l.flatMap Ze).take (u * 4)=(l.take u).flatMap Ze
 |[],u=>by simp
 |a::l,0=>by simp
 |a::l,u+1=>by
  have ih:=A0i l u
  rw [show (u+1) * 4=u * 4+4 by omega]
  simp [ih]
theorem A5M (h94:R94 ctx) (h84:R84 ctx) (v:AV) (l:List Sc) (h:H) (hs:SsD h v l) (hl:l.length<=5):
 ∀(k:Nat) (i:Int) (n:Nat) (hd:H) (f0:L2),i+(k:Int)=(l.length:Int)->0<=i->k<n->Ai h hd->Ah h (λr _=>okA r) (AyA ctx N n v v (.int .i64 (l.length:Int)) (.int .i64 i) f0 hd)
 |0,i,n,hd,f0,Qd,H4,Zo,hg=>by
  obtain ⟨n1,rfl⟩:∃n1,n=n1+1:=⟨n - 1,by omega⟩
  have k1:decide (i<(l.length:Int))=false:=df
  rw [A3Y]
  refine wk ?_
  exact zr hg rfl
 |k+1,i,n,hd,f0,Qd,H4,Zo,hg=>by
  obtain ⟨n1,rfl⟩:∃n1,n=n1+1:=⟨n - 1,by omega⟩
  have ih:=A5M h94 h84 v l h hs hl k (i+1) n1
  have k1:decide (i<(l.length:Int))=true:=dt
  have X4:((i.toNat:Nat):Int)=i:=Int.toNat_of_nonneg H4
  obtain ⟨s,hx⟩:∃x,l[i.toNat]?=some x:=⟨_,List.getElem?_eq_getElem om⟩
  have hsm:=List.mem_of_getElem? hx
  have hs2:=hs.By hg.keeps
  obtain ⟨b1,o1,el⟩:=R0.elem (f:=Ze) (s:=4) (λ_=>rfl) hs2.r.sl hx
  have x1:=el.ia
  rw [X4] at x1
  have x2:=el.all
  have hsd:=hs2.d s hsm
  obtain ⟨w1,w2⟩:=hsd.one
  have Kf:=hg.lo
  have A0B:∀d∈l.take i.toNat,d.name≠s.name:=by
   intro d hd2 he
   obtain ⟨j,hj⟩:=List.getElem?_of_mem hd2
   have hj1:j<i.toNat:=by
    have:=(List.getElem?_eq_some_iff.1 hj).1
    rw [List.length_take] at this
    omega
   rw [List.getElem?_take_of_lt hj1] at hj
   have h1:(l.map Sc.name)[j]?=some d.name:=by rw [List.getElem?_map,hj];rfl
   have h2:(l.map Sc.name)[i.toNat]?=some d.name:=by rw [List.getElem?_map,hx,he];rfl
   have h3:=List.getElem?_eq_some_iff.1 h1
   have h4:=List.getElem?_eq_some_iff.1 h2
   have:=(List.getElem_inj hs.nd).1 (h3.2.trans h4.2.symm)
   omega
  obtain ⟨v',q1,q2⟩:=Sl.hiS (P:=prog) (t:=36) (e:=73) (bytes:=56) (u:=i.toNat) (by kernel_rfl) hs2.r.sl om
  rw [X4] at q1
  have hq:SsR hd v' (l.take i.toNat):=by
   have P4:(l.take i.toNat).length=i.toNat:=by rw [List.length_take];omega
   refine ⟨?_,λd hd2=>hs2.r.one d (List.mem_of_mem_take hd2),by omega⟩
   show Sl 4 hd v' (l.take i.toNat).length ((l.take i.toNat).flatMap Ze)
   rw [P4,<- A0i]
   exact q2
  have hfn:=λhx e=>h84 v' (l.take i.toNat) s.name hx (hq.By e)
  have BcA:=λhx e=>h94 s hx (hsd.By e)
  replace hfn:=(show F5 _ from hfn)
  replace BcA:=(show F5 _ from BcA)
  replace ih:=(show F5 _ from ih)
  clear el X4 hx hs hs2 hsd q2 hq h84 h94
  obtain ⟨nm,p,m,cv,A1⟩:=s
  simp only at w1 w2 A0B
  rw [A3Y]
  refine wd ?_
  refine Fj ((show ∀(hx:H) (e:Bi hd hx),_ from BcA) _ M0) λv1 h1 e1 l1 Aad r1=>?_
  obtain rfl:v1=.Bj [.int .i64 0,.int .i64 (-1)]:=r1
  simp only [C9] at l1 Aad
  have g4:=(Aad hd.nx om).trans (A2 ..)
  refine wd ?_
  refine Fj ((show ∀(hx:H) (e:Bi hd hx),_ from hfn) _ M0) λv2 h2 e2 l2 Aae r2=>?_
  obtain rfl:v2=.Bj [.int .i64 0,.bool false]:=r2.1 A0B
  simp only [C9] at l2 Aae
  have eqt:=Ai.quiet e2
  try simp only [C9] at eqt
  refine wd ?_
  exact (show ∀(hd:H) (f0:L2),_ from ih) _ _ om om om Ex
def R59:Prop:=∀(v:AV) (l:List Sc) (h:H),SsD h v l->l.length<=3->Ah h (λr _=>okA r) (ctx.call 59 [v] h)
theorem r59 (h94:R94 ctx) (h84:R84 ctx) (hN:100<N) (v:AV) (l:List Sc) (h:H) (hs:SsD h v l) (hl:l.length<=3):Ah h (λr _=>okA r) (Ay prog ctx N false 59 [v] h):=by
 rw [e59]
 have hlen:∀hh,Fo v hh=.ok (.int .i64 (l.length:Int)) hh:=λ_=>hs.r.sl.Gs
 have k1:decide ((16:Int)<(l.length:Int))=false:=df
 have hg:=A5M ctx N h94 h84 v l h hs om l.length 0 N h
 replace hg:=(show F5 _ from hg)
 clear hs
 refine wk ?_
 exact (show ∀(f0:L2),_ from hg) _ om om om (Ai.refl h)
abbrev qsC (q:Qr) (vc vo vm sv:AV) (a b:Sc) (cv:AV):List AV:=[.int .i64 q.c0,vc,.int .i64 q.c2,.int .i64 q.c3,.int .i64 q.c4,.int .i64 q.c5,.str q.s6,.int .i64 q.c7,vo,.int .i64 q.c9,.bool q.Wz,.str q.Uw,.int .i64 q.W0,.str q.Wu,.str q.s14,.str q.s15,.int .i64 q.c16,vm,.str q.Oi,.int .i64 q.Mg,sv,.str a.name,.bool a.pub,.int .i64 a.many,a.cv,.str b.name,.bool b.pub,.int .i64 b.many,b.cv,cv]
def scZ:Sc:=⟨[],false,0,.Bv,[]⟩
def Bet (ss:List Sc) (q:Qr) (b:Sc):Prop:=(q.Wu=[]/\b=scZ)\/(q.Wu≠[]/\b∈ss/\b.name=q.Wu)
def AdE (ss:List Sc) (q:Qr) (vc vo vm sv:AV) (lo:Nat) (r:AV) (h1:H):Prop:=∃(x:Nat) (a b:Sc) (cv:AV),r=.Bj [.ptr x 0,.bool true]/\lo<=x/\x<h1.nx/\h1.m.get x=.cells (qsC q vc vo vm sv a b cv) 93 .exact/\a∈ss/\a.name=q.Uw/\Bet ss q b/\CsR h1 cv (a.A1++b.A1)
def R46:Prop:=∀(ss:List Sc) (q:Qr) (vc vo vm sv:AV) (h:H),SsD h sv ss->ss.length<=3->Ge vc=true/\cellsOf vc=some [vc]->Ge vo=true/\cellsOf vo=some [vo]->Ge vm=true/\cellsOf vm=some [vm]->(∃a∈ss,a.name=q.Uw)->(q.Wu=[]\/∃b∈ss,b.name=q.Wu)->Ah h (AdE ss q vc vo vm sv h.nx) (ctx.call 46 [.agg (qc q vc vo vm),sv] h)
theorem AjN:∀{l:List Cl},(∀c∈l,Ge c.w=true/\cellsOf c.w=some [c.w])->Bm (l.flatMap Hx)=true
 |[],_=>rfl
 |c::l,hc=>by
  have ih:=AjN (l:=l) λx hx=>hc x (List.mem_cons_of_mem _ hx)
  have h1:=(hc c (List.mem_cons_self ..)).1
  simp [ih,h1]
theorem Ab3 {h h1 hA:H} {L:List Nat} {tk lo:Nat} (e1:Ai h hA) (e2:Ai h h1) (hL:∀z∈L,z∈hA.lg\/z=tk\/lo<=z) (ht:h.nx<=tk) (Kf:h.nx<=lo):Ai h (Be L h1):=
 ⟨e2.lo,e2.Cf,λz hz=>by
  rcases hL z hz with h3|rfl|h3
  . exact e1.lg z h3
  . exact .inr ht
  . exact .inr (Nat.le_trans Kf h3)⟩
theorem AtK {lo:Nat} {h:H} {v w:AV} {l m:List Cl} (ho:Fm 4 lo 96 h v l.length (l.flatMap Hx)) (hw:CsR h w m) (hl:l.length+m.length<=50) (Kf:lo<=h.nx) (hlg:h.lg=[]):
 ∃v' h',Ds 96 4 56 v w h=.ok v' h'/\Fm 4 lo 96 h' v' (l++m).length ((l++m).flatMap Hx)/\Bi h h'/\h.nx<=h'.nx/\(∀b,b<lo->h'.m.get b=h.m.get b)/\(∀x∈h'.lg,lo<=x)/\∀h0,h0.nx<=lo->Ai h0 h->Ai h0 h':=by
 obtain ⟨v',h',q1,q2,q3,q4,q5⟩:=Fm.AbQ (bytes:=56) (lo:=lo) ho hw.sl.src hw.sl.Rv om (AjN hw.one) Kf
 refine ⟨v',h',q1,?_,q2,q2.lo,q5,?_,q3⟩
 . rw [List.length_append,List.flatMap_append]
   exact q4
 . intro x hx
   rcases (q3 ⟨h.m,lo,[]⟩ (Nat.le_refl _) ⟨Kf,λb hb=>rfl,λx hx=>by rw [hlg] at hx;cases hx⟩).lg x hx with h1|h1
   . cases h1
   . exact h1
set_option maxHeartbeats 2000000 in
theorem r46 (h84:R84 ctx) (ss:List Sc) (q:Qr) (vc vo vm sv:AV) (h:H) (hs:SsD h sv ss) (hl3:ss.length<=3) (p1:Ge vc=true/\cellsOf vc=some [vc]) (p2:Ge vo=true/\cellsOf vo=some [vo]) (p3:Ge vm=true/\cellsOf vm=some [vm]) (ht:∃a∈ss,a.name=q.Uw) (ho:q.Wu=[]\/∃b∈ss,b.name=q.Wu):Ah h (AdE ss q vc vo vm sv h.nx) (Ay prog ctx N false 46 [.agg (qc q vc vo vm),sv] h):=by
 rw [e46]
 obtain ⟨c1,c2⟩:=p1
 obtain ⟨o1,o2⟩:=p2
 obtain ⟨m1,m2⟩:=p3
 obtain ⟨s1,s2⟩:=B2 hs.r.sl
 have hfn:=λnm hx e=>h84 sv ss nm hx (hs.r.By e)
 have hE:∀(i:Nat) (s:Sc),ss[i]?=some s->∃b o,(∀hh,Gc 4 sv (.int .i64 (i:Int)) hh=.ok (.ptr b o) hh)/\b<h.nx/\(∀hh,Bi h hh->Ae (some (some 4)) (.ptr b o) hh=.ok (.agg (Ze s)) hh)/\∀hh,Bi h hh->Ae (some none) (.ptr b (o+3)) hh=.ok s.cv hh:=by
  intro i s hi
  have B6:=(List.getElem?_eq_some_iff.1 hi).1
  obtain ⟨b1,o1,el⟩:=R0.elem (f:=Ze) (s:=4) (λ_=>rfl) hs.r.sl hi
  obtain ⟨off,cap,ex,hv⟩:=Acg hs.r.sl B6 el
  refine ⟨b1,o1,el.ia,?_,el.all,el.part 3 _ rfl⟩
  rcases hs.r.sl with ⟨_,_,h1⟩|⟨b',Yk,Ll,ex',cs,h1,q2,q3,_⟩
  . rw [h1] at hv;cases hv
  . rw [h1] at hv
    cases hv
    exact q3.lt
 have hD:=hs.d
 replace hfn:=(show F5 _ from hfn)
 replace hE:=(show F5 _ from hE)
 clear h84 hs
 obtain ⟨c0,code,d2,d3,c4,c5,s6,c7,ord,c9,Wz,Uw,W0,Yc,Sk,Uo,U3,E9,Oi,Mg⟩:=q
 simp only at ht ho
 refine wk ?_
 refine Fj ((show ∀(nm:List Nat) (hx:H) (e:Bi h hx),_ from hfn) Uw _ M0) λv7 h7 e7 l7 AvU q7=>?_
 obtain ⟨i,a,hi,han,rfl⟩:=q7.2 ht
 have gr7:Ai h h7:=Ex
 simp only [C9] at l7 AvU
 have g7:=(AvU (h.nx+1) om).trans (Bf (h:=h.new _) _)
 have g7q:=(AvU h.nx om).trans ((Cq (h:=h.new _) _ h.nx (by show h.nx≠h.nx+1;omega)).trans (Bf _))
 obtain ⟨b1,p1,x1,Wx,x2,x3⟩:=(show ∀(i:Nat) (s:Sc),_ from hE) i a hi
 have ha:=List.mem_of_getElem? hi
 obtain ⟨w1,w2⟩:=(hD a ha).one
 have hac:=λhx e=>((hD a ha).By (h1:=hx) e).cs.r
 have haf:=(hD a ha).Mu
 replace hac:=(show F5 _ from hac)
 obtain ⟨an,ap,am,acv,acs⟩:=a
 simp only at han w1 w2 hac haf x3
 subst han
 clear e7 q7 AvU
 refine wd ?_
 have gP:Ai h (Ab (h7.put (h.nx+1) (.cells (qsC ⟨c0,code,d2,d3,c4,c5,s6,c7,ord,c9,Wz,an,W0,Yc,Sk,Uo,U3,E9,Oi,Mg⟩ vc vo vm sv ⟨an,ap,am,acv,acs⟩ scZ .Bv) 93 .exact))):=Ex
 obtain ⟨cv,h8,y1,y2,y3,y4,y5,y6,y7⟩:=AtK (lo:=h.nx+2) (l:=[]) (m:=acs) (w:=acv) (Fm.nil 4 (h.nx+2) 96 _) ((show ∀(hx:H) (e:Bi h hx),_ from hac) _ gP.keeps) (by simp;omega) (by show h.nx+2<=h7.nx;omega) rfl
 simp only [List.nil_append] at y2
 have g8:=(y5 (h.nx+1) om).trans (A2 ..)
 have g8q:=(y5 h.nx om).trans ((Aq _ _ _ om).trans g7q)
 have gr8:Ai h h8:=y7 h om gP
 simp only [C9] at y4
 obtain ⟨o3,o4⟩:=B2 y2.sl
 refine Ey y1 ?_
 clear y1 y7 g7 g7q x1 x2 x3 y5
 refine wd ?_
 refine Pu (h.nx+1) h.nx ?_ λLz Wp=>?_
 . simp only [List.forall_mem_cons,List.not_mem_nil,false_imp_iff,implies_true,and_true]
   repeat' (refine And.intro ?_ ?_)
   all_goals first|(left;simp;done)|(refine .inr ⟨λx hx=>.inr ?_,?_⟩;(focus first|(have hz:=y6 x (D4 _ _ _ hx).1;omega)|(have hz:=(D4 _ _ _ hx).1;simp at hz;omega));(repeat' (refine And.intro ?_ ?_));all_goals first|(exact Ar ..)|(refine Ax _ _ _ _ _ _ _ _ _ _ _ _ ?_;decide)|exact Ci ..)
 . generalize hE:Be Lz _=hz
   have grz:Ai h hz:=by rw [<- hE];exact Ab3 (hA:=h7.put (h.nx+1) _) Ex Ex Wp (Nat.le_succ _) (Nat.le_refl _)
   have gz:hz.m.get (h.nx+1)=.cells (qsC ⟨c0,code,d2,d3,c4,c5,s6,c7,ord,c9,Wz,an,W0,Yc,Sk,Uo,U3,E9,Oi,Mg⟩ vc vo vm sv ⟨an,ap,am,acv,acs⟩ scZ cv) 93 .exact:=by rw [<- hE];exact A2 ..
   have gzq:hz.m.get h.nx=.cells (qc ⟨c0,code,d2,d3,c4,c5,s6,c7,ord,c9,Wz,an,W0,Yc,Sk,Uo,U3,E9,Oi,Mg⟩ vc vo vm) 26 .exact:=by
    rw [<- hE]
    exact (Aq _ _ _ om).trans g8q
   have oz:Fm 4 (h.nx+2) 96 hz cv acs.length (acs.flatMap Hx):=by
    rw [<- hE]
    exact Fm.rl (Fm.To (h:=Ab h8) (Fm.rl (lg:=[]) y2) om ((congrArg (Vu 30) g8).trans rfl))
   have xz:hz.nx=h8.nx:=by rw [<- hE];rfl
   clear hE Wp y2 y3 y6 gr8 g8 g8q gr7 gP o3 o4
   obtain ⟨o3,o4⟩:=B2 oz.sl
   have BfZ:AdE ss ⟨c0,code,d2,d3,c4,c5,s6,c7,ord,c9,Wz,an,W0,[],Sk,Uo,U3,E9,Oi,Mg⟩ vc vo vm sv h.nx (.Bj [.ptr (h.nx+1) 0,.bool true]) hz->True:=λ_=>trivial
   rcases ho with rfl|⟨b,hb,rfl⟩
   . refine wk ?_
     refine zr grz ⟨h.nx+1,⟨an,ap,am,acv,acs⟩,scZ,cv,rfl,Nat.le_succ _,by omega,gz,ha,rfl,.inl ⟨rfl,rfl⟩,?_⟩
     rw [show acs++scZ.A1=acs from List.append_nil _]
     exact ⟨oz.sl,λc hc=>(((hD _ ha).cs).r).one c hc,by omega⟩
   . have hbn:b.name≠[]:=by
      have:=(hD b hb).nm
      intro hh
      rw [hh] at this
      revert this
      decide
     have k1:decide (b.name=[])=false:=decide_eq_false hbn
     refine wk ?_
     refine Fj ((show ∀(nm:List Nat) (hx:H) (e:Bi h hx),_ from hfn) b.name _ grz.keeps) λv9 h9 e9 l9 A0Q q9=>?_
     obtain ⟨i2,b',hi2,A8q,rfl⟩:=q9.2 ⟨b,hb,rfl⟩
     have gr9:Ai h h9:=grz.trans e9
     have g9:=(A0Q (h.nx+1) om).trans gz
     have o9:=oz.gr e9
     obtain ⟨b2,p2,x1,Vz,x2,x3⟩:=(show ∀(i:Nat) (s:Sc),_ from hE) i2 b' hi2
     have Wg:=List.mem_of_getElem? hi2
     obtain ⟨w3,w4⟩:=(hD b' Wg).one
     have hbc:=λhx e=>((hD b' Wg).By (h1:=hx) e).cs.r
     have hbf:=(hD b' Wg).Mu
     replace hbc:=(show F5 _ from hbc)
     rw [<- A8q] at hbn k1 gzq gz g9
     simp only [<- A8q]
     obtain ⟨bn,bp,bm,bcv,bcs⟩:=b'
     simp only at hbn k1 w3 w4 hbc hbf x3 g9
     clear e9 q9 A0Q gz gzq oz grz BfZ
     refine wd ?_
     have gP:Ai h (Ab (h9.put (h.nx+1) (.cells (qsC ⟨c0,code,d2,d3,c4,c5,s6,c7,ord,c9,Wz,an,W0,bn,Sk,Uo,U3,E9,Oi,Mg⟩ vc vo vm sv ⟨an,ap,am,acv,acs⟩ ⟨bn,bp,bm,bcv,bcs⟩ cv) 93 .exact))):=Ex
     have oP:Fm 4 (h.nx+2) 96 (Ab (h9.put (h.nx+1) (.cells (qsC ⟨c0,code,d2,d3,c4,c5,s6,c7,ord,c9,Wz,an,W0,bn,Sk,Uo,U3,E9,Oi,Mg⟩ vc vo vm sv ⟨an,ap,am,acv,acs⟩ ⟨bn,bp,bm,bcv,bcs⟩ cv) 93 .exact))) cv acs.length (acs.flatMap Hx):=Fm.rl (lg:=[]) (Fm.To o9 om ((congrArg (Vu 30) g9).trans rfl))
     obtain ⟨cv2,Fh,y1,y2,y3,y4,y5,y6,y7⟩:=AtK (lo:=h.nx+2) (l:=acs) (m:=bcs) (w:=bcv) oP ((show ∀(hx:H) (e:Bi h hx),_ from hbc) _ gP.keeps) om (by show h.nx+2<=h9.nx;omega) rfl
     have g10:=(y5 (h.nx+1) om).trans (A2 ..)
     have Bqh:Ai h Fh:=y7 h om gP
     simp only [C9] at y4
     obtain ⟨o5,o6⟩:=B2 y2.sl
     refine Ey y1 ?_
     clear y1 y7 g9 x1 x2 x3 y5 oP o9
     refine wd ?_
     refine Pu (h.nx+1) h.nx ?_ λLz Wp=>?_
     . simp only [List.forall_mem_cons,List.not_mem_nil,false_imp_iff,implies_true,and_true]
       repeat' (refine And.intro ?_ ?_)
       all_goals first|(left;simp;done)|(refine .inr ⟨λx hx=>.inr ?_,?_⟩;(focus first|(have hz:=y6 x (D4 _ _ _ hx).1;omega)|(have hz:=(D4 _ _ _ hx).1;simp at hz;omega));(repeat' (refine And.intro ?_ ?_));all_goals first|(exact Ar ..)|(refine Ax _ _ _ _ _ _ _ _ _ _ _ _ ?_;decide)|exact Ci ..)
     . have grf:Ai h (Be Lz (Ab ((Ab Fh).put (h.nx+1) (.cells (qsC ⟨c0,code,d2,d3,c4,c5,s6,c7,ord,c9,Wz,an,W0,bn,Sk,Uo,U3,E9,Oi,Mg⟩ vc vo vm sv ⟨an,ap,am,acv,acs⟩ ⟨bn,bp,bm,bcv,bcs⟩ cv2) 93 .exact)))):=Ab3 (hA:=h9.put (h.nx+1) _) Ex Ex Wp (Nat.le_succ _) (Nat.le_refl _)
       repeat' (first|refine wk ?_|(refine zqq ?_ ?_<;>intro hc<;>(try (exfalso;omega)))|fail)
       refine zr grf ⟨h.nx+1,⟨an,ap,am,acv,acs⟩,⟨bn,bp,bm,bcv,bcs⟩,cv2,rfl,Nat.le_succ _,?_,A2 ..,ha,rfl,.inr ⟨hbn,Wg,rfl⟩,?_⟩
       . show h.nx+1<Fh.nx
         omega
       . refine ⟨?_,λc hc=>?_,by rw [List.length_append];show acs.length+bcs.length<=50;omega⟩
         . exact (Fm.rl (lg:=Lz) (Fm.To (e1:=93) (l:=qsC ⟨c0,code,d2,d3,c4,c5,s6,c7,ord,c9,Wz,an,W0,bn,Sk,Uo,U3,E9,Oi,Mg⟩ vc vo vm sv ⟨an,ap,am,acv,acs⟩ ⟨bn,bp,bm,bcv,bcs⟩ cv2) (h:=Ab Fh) (Fm.rl (lg:=[]) y2) (show h.nx+1<h.nx+2 by omega) ((congrArg (Vu 30) g10).trans rfl))).sl
         . rcases List.mem_append.1 hc with hc|hc
           . exact (((hD _ ha).cs).r).one c hc
           . exact (((hD _ Wg).cs).r).one c hc
end Go.Proofs
namespace Go.Proofs
open Go Go.Ev Go.Nm Tryz Go.Ev.Sx
attribute [local irreducible] Aa Al Af Ad
variable (ctx:Ac) (N:Nat)
structure Qst (ss:List Sc) (q:Qr) (vc vo vm sv:AV) (x:Nat) (a b:Sc) (cv:AV) (h:H):Prop where
 lt:x<h.nx
 get:h.m.get x=.cells (qsC q vc vo vm sv a b cv) 93 .exact
 ha:a∈ss
 hn:a.name=q.Uw
 hb:Bet ss q b
 cs:CsR h cv (a.A1++b.A1)
 sd:SsD h sv ss
 l3:ss.length<=3
 c:Ue h vc q.code
 o:OkS h vo q.ord
 m:Ue h vm q.E9
theorem Qst.gr {ss:List Sc} {q:Qr} {vc vo vm sv:AV} {x:Nat} {a b:Sc} {cv:AV} {h h1:H} (K:Qst ss q vc vo vm sv x a b cv h) (e:Ai h h1):Qst ss q vc vo vm sv x a b cv h1:=
 ⟨Nat.lt_of_lt_of_le K.lt e.lo,(e.Cf x K.lt).trans K.get,K.ha,K.hn,K.hb,K.cs.By e.keeps,K.sd.By e.keeps,K.l3,Sl.By K.c e.keeps,Sl.By K.o e.keeps,Sl.By K.m e.keeps⟩
abbrev ok0 (r:AV) (_:H):Prop:=r=.int .i64 0
variable {ss:List Sc} {q:Qr} {vc vo vm sv:AV} {x:Nat} {a b:Sc} {cv:AV} {h:H}
theorem r47 (h59:R59 ctx) (K:Qst ss q vc vo vm sv x a b cv h):Ah h ok0 (Ay prog ctx N true 47 [.ptr x 0] h):=by
 rw [e47]
 have hg:=K.get
 have hx:=K.lt
 have hs:=K.sd
 have hl:=K.l3
 clear K
 (repeat' (first|refine wk ?_|(refine Pd (h59 _ _ _ hs hl) ?_;intro vv hh ee E8 Bu qq;subst qq)|fail))
 exact zr Ex rfl
def R86:Prop:=∀(ss:List Sc) (q:Qr) (vc vo vm sv:AV) (x:Nat) (a b:Sc) (cv v:AV) (l:List Int) (h:H),h.m.get x=.cells (qsC q vc vo vm sv a b cv) 93 .exact->x<h.nx->R0 1 (λn:Int=>[AV.int .i64 n]) h v l->l.length<=50->Ah h (λr _=>r=.bool (decide (q.c0∈l))) (ctx.call 86 [.ptr x 0,v] h)
theorem r86 (BjP:Bew ctx) (hg:h.m.get x=.cells (qsC q vc vo vm sv a b cv) 93 .exact) (hx:x<h.nx) (v:AV) (l:List Int) (hv:R0 1 (λn:Int=>[AV.int .i64 n]) h v l) (hl:l.length<=50):Ah h (λr _=>r=.bool (decide (q.c0∈l))) (Ay prog ctx N true 86 [.ptr x 0,v] h):=by
 rw [e86]
 (repeat' (first|refine wk ?_|(refine Pd (BjP _ v l _ hv hl) ?_;intro vv hh ee E8 Bu qq;subst qq)|fail))
 exact zr Ex rfl
def R85:Prop:=∀(ss:List Sc) (q:Qr) (vc vo vm sv:AV) (x:Nat) (a b:Sc) (cv:AV) (h:H),h.m.get x=.cells (qsC q vc vo vm sv a b cv) 93 .exact->x<h.nx->Ah h (λr _=>r=.bool (decide (q.c0∈[2,4,5]))) (ctx.call 85 [.ptr x 0] h)
theorem r85 (h86:R86 ctx) (hg:h.m.get x=.cells (qsC q vc vo vm sv a b cv) 93 .exact) (hx:x<h.nx):Ah h (λr _=>r=.bool (decide (q.c0∈[2,4,5]))) (Ay prog ctx N true 85 [.ptr x 0] h):=by
 rw [e85]
 have g1:Ai h (h.new (.cells [.int .i64 2,.int .i64 4,.int .i64 5] 3 .exact)):=(Ai.refl h).new _
 have h1:=h86 [] q vc vo vm sv x a b cv (.sl h.nx 0 3 3 1 true) [2,4,5] (h.new (.cells [.int .i64 2,.int .i64 4,.int .i64 5] 3 .exact)) ((g1.Cf x hx).trans hg) (Nat.lt_succ_of_lt hx) (Sl.lit (Bf _) rfl rfl) (by simp)
 replace h1:=(show F5 _ from h1)
 refine wk ?_
 refine Fj (show Ah _ _ (ctx.call 86 [.ptr x 0,.sl h.nx 0 3 3 1 true] (h.new (.cells [.int .i64 2,.int .i64 4,.int .i64 5] 3 .exact))) from h1) λv1 h2 e2 l2 Aae q2=>?_
 subst q2
 exact zr Ex rfl
theorem r49 (h84:R84 ctx) (K:Qst ss q vc vo vm sv x a b cv h):Ah h ok0 (Ay prog ctx N true 49 [.ptr x 0] h):=by
 rw [e49]
 have hg:=K.get
 have hx:=K.lt
 have hs:=K.sd.r
 have Wj:∃s∈ss,s.name=q.Uw:=⟨a,K.ha,K.hn⟩
 clear K
 refine wk ?_
 refine zc2 (h84 sv ss q.Uw _ (hs.By M0)) λv1 h1 e1 l1 Aad q1=>?_
 obtain ⟨i,s,_,_,rfl⟩:=q1.2 Wj
 refine wk ?_
 exact zr Ex rfl
theorem r50 (K:Qst ss q vc vo vm sv x a b cv h) (hq:q.W0=0\/a.pub=false/\1<=q.W0/\q.W0<=4):Ah h ok0 (Ay prog ctx N true 50 [.ptr x 0] h):=by
 rw [e50]
 have hg:=K.get
 have hx:=K.lt
 obtain ⟨c0,code,d2,d3,c4,c5,s6,c7,ord,c9,Wz,Uw,W0,Yc,Sk,Uo,U3,E9,Oi,Mg⟩:=q
 obtain ⟨an,ap,am,acv,acs⟩:=a
 simp only at hq
 clear K
 rcases hq with rfl|⟨rfl,h1,h2⟩
 . refine wk ?_
   exact zr Ex rfl
 . have k1:decide (W0<0)=false:=df
   have k2:decide ((50:Int)<W0)=false:=df
   have k3:decide (W0=0)=false:=df
   refine wk ?_
   exact zr Ex rfl
end Go.Proofs
namespace Go.Proofs
open Go Go.Ev Go.Nm Tryz Go.Ev.Sx
attribute [local irreducible] Aa Al Af Ad
variable (ctx:Ac) (N:Nat)
variable {ss:List Sc} {q:Qr} {vc vo vm sv:AV} {x:Nat} {a b:Sc} {cv:AV} {h:H}
theorem is1 (h86:R86 ctx) (hg:h.m.get x=.cells (qsC q vc vo vm sv a b cv) 93 .exact) (hx:x<h.nx) (n:Int) (hy:H) (e:Ai h hy):Ah (hy.new (.cells [.int .i64 n] 3 .exact)) (λr _=>r=.bool (decide (q.c0=n))) (ctx.call 86 [.ptr x 0,.sl hy.nx 0 1 1 1 true] (hy.new (.cells [.int .i64 n] 3 .exact))):=by
 have g1:Ai h (hy.new (.cells [.int .i64 n] 3 .exact)):=e.new _
 have:=h86 [] q vc vo vm sv x a b cv (.sl hy.nx 0 1 1 1 true) [n] _ ((g1.Cf x hx).trans hg) (Nat.lt_of_lt_of_le hx g1.lo) (Sl.lit (Bf _) rfl rfl) (by simp)
 simpa using this
theorem is3 (h86:R86 ctx) (hg:h.m.get x=.cells (qsC q vc vo vm sv a b cv) 93 .exact) (hx:x<h.nx) (n m k:Int) (hy:H) (e:Ai h hy):Ah (hy.new (.cells [.int .i64 n,.int .i64 m,.int .i64 k] 3 .exact)) (λr _=>r=.bool (decide (q.c0=n\/q.c0=m\/q.c0=k))) (ctx.call 86 [.ptr x 0,.sl hy.nx 0 3 3 1 true] (hy.new (.cells [.int .i64 n,.int .i64 m,.int .i64 k] 3 .exact))):=by
 have g1:Ai h (hy.new (.cells [.int .i64 n,.int .i64 m,.int .i64 k] 3 .exact)):=e.new _
 have:=h86 [] q vc vo vm sv x a b cv (.sl hy.nx 0 3 3 1 true) [n,m,k] _ ((g1.Cf x hx).trans hg) (Nat.lt_of_lt_of_le hx g1.lo) (Sl.lit (Bf _) rfl rfl) (by simp)
 simpa using this
theorem A6m (h85:R85 ctx) (hg:h.m.get x=.cells (qsC q vc vo vm sv a b cv) 93 .exact) (hx:x<h.nx) (hy:H) (e:Ai h hy):Ah hy (λr _=>r=.bool (decide (q.c0=2\/q.c0=4\/q.c0=5))) (ctx.call 85 [.ptr x 0] hy):=by
 have:=h85 [] q vc vo vm sv x a b cv hy ((e.Cf x hx).trans hg) (Nat.lt_of_lt_of_le hx e.lo)
 simpa using this
theorem r58 (K:Qst ss q vc vo vm sv x a b cv h) (hq:1<=q.Mg/\q.Mg<=12):Ah h ok0 (Ay prog ctx N true 58 [.ptr x 0] h):=by
 rw [e58]
 have hg:=K.get
 have hx:=K.lt
 clear K
 have k1:decide (q.Mg<1)=false:=df
 have k2:decide ((256:Int)<q.Mg)=false:=df
 refine wk ?_
 exact zr Ex rfl
def R92:Prop:=∀(s:List Nat) (h:H),s∈Sw->Ah h ok0 (ctx.call 92 [.str s] h)
def Bbz:Prop:=∀(s:List Nat) (h:H),s∈Sw->Ah h (λr _=>r=.Bj [.int .i64 1,.int .i64 0]) (ctx.call 93 [.str s,.str [49]] h)
def Bb5:Prop:=∀(s:List Nat) (h:H),s∈Sw->Ah h (λr _=>r=.Bj [.int .i64 (-1),.int .i64 0]) (ctx.call 93 [.str s,.str [49,48,48,48,48,48,48]] h)
theorem r57 (h92:R92 ctx) (Bc8:Bbz ctx) (Bc9:Bb5 ctx) (K:Qst ss q vc vo vm sv x a b cv h) (hq:q.Oi∈Sw):Ah h ok0 (Ay prog ctx N false 57 [.ptr x 0] h):=by
 rw [e57]
 have hg:=K.get
 have hx:=K.lt
 clear K
 have hl:q.Oi.length<=7:=by
  have:∀s∈Sw,s.length<=7:=by decide
  exact this _ hq
 have k1:decide ((40:Int)<(q.Oi.length:Int))=false:=df
 (repeat' (first|refine wk ?_|(refine Pd (h92 _ _ hq) ?_;intro vv hh ee E8 Bu qq;subst qq)|(refine Pd (Bc8 _ _ hq) ?_;intro vv hh ee E8 Bu qq;subst qq)|(refine Pd (Bc9 _ _ hq) ?_;intro vv hh ee E8 Bu qq;subst qq)|fail))
 repeat' (first|refine wk ?_|(refine zqq ?_ ?_<;>intro hc<;>(try (exfalso;omega)))|fail)
 exact zr Ex rfl
theorem A9y {n:Int} (h:1<=n/\n<=10):n=1\/n=2\/n=3\/n=4\/n=5\/n=6\/n=7\/n=8\/n=9\/n=10:=by omega
def R90:Prop:=∀(n:Int) (h:H),Ah h (λr _=>r=.bool (decide (n < -1000000)||decide (1000000<n))) (ctx.call 90 [.int .i64 n] h)
theorem Bcu (h90:R90 ctx) (n:Int) (h:H) (h1:-3<=n) (h2:n<=100):Ah h (λr _=>r=.bool false) (ctx.call 90 [.int .i64 n] h):=by
 have:=h90 n h
 rw [decide_eq_false (show ¬ n < -1000000 by omega),decide_eq_false (show ¬ (1000000:Int)<n by omega)] at this
 exact this
set_option maxHeartbeats 1000000 in
theorem r54 (h85:R85 ctx) (h86:R86 ctx) (h90:R90 ctx) (K:Qst ss q vc vo vm sv x a b cv h) (hk:1<=q.c0/\q.c0<=10) {A1:List Cl} {q0:Qr} (kv:KV A1 q0 q):Ah h ok0 (Ay prog ctx N true 54 [.ptr x 0] h):=by
 rw [e54]
 have hg:=K.get
 have hx:=K.lt
 obtain ⟨o1,o2⟩:=B2 K.c
 obtain ⟨o3,o4⟩:=B2 K.o
 obtain ⟨o5,o6⟩:=B2 K.m
 have hI:=is1 ctx (q:=q) h86 hg hx
 have hV:=A6m ctx (q:=q) h85 hg hx
 have hF:=Bcu ctx h90
 have p1:=kv.AyG
 have p2:=kv.pq2
 have p3:=kv.bd2
 clear K kv h85 h86 h90
 obtain ⟨c0,code,d2,d3,c4,c5,s6,c7,ord,c9,Wz,Uw,W0,Yc,Sk,Uo,U3,E9,Oi,Mg⟩:=q
 simp only at hk p1 p2 p3 hI hV
 obtain ⟨p3,p4⟩:=p3
 have fin:∀hy,Ai h hy->Ah h ok0 (.ok (.int .i64 0) hy):=λhy e=>zr e rfl
 by_cases hv:c0=2\/c0=4\/c0=5
 . obtain ⟨_,y1,y2,y3⟩:=p1 hv
   have k1:decide (c0=2\/c0=4\/c0=5)=true:=decide_eq_true hv
   have k2:decide (d3<d2)=false:=df
   have f1:=λhh=>hF d2 hh om om
   have f2:=λhh=>hF d3 hh om om
   rw [k1] at hV
   clear p1 hF k1
   by_cases h5:c0=5
   . subst h5
     obtain ⟨w1,w2,w3⟩:=p2 rfl
     have k3:decide ((64:Int)<=d3 - d2)=false:=df
     have k4:decide (c4<1)=false:=df
     have k5:decide (c5<=c4)=false:=df
     have k6:decide ((100:Int)<c5)=false:=df
     repeat' (first|with_reducible (first|apply A7|apply A8|apply A9|apply Ba)|((with_reducible (first|apply Fj|apply zc2));exact hV _ Ex;intro vv hh ee E8 Bu qq;(try simp only [C9] at E8 Bu);subst qq)|((with_reducible (first|apply Fj|apply zc2));exact hI _ _ Ex;intro vv hh ee E8 Bu qq;(try simp only [C9] at E8 Bu);subst qq)|(refine Pd (f1 _) ?_;intro vv hh ee E8 Bu qq;subst qq)|(refine Pd (f2 _) ?_;intro vv hh ee E8 Bu qq;subst qq)|(with_reducible (first|apply Cy|apply Cz|apply C0|apply C1);(conv=>lhs;simp (disch:=first|exact dA|fail) [lw, *,hg,k2,k3,k4,k5,k6]);with_reducible (first|apply A7|apply A8|apply A9|apply Ba|apply Cu|(refine Cv (by simp) ?_)|apply Cx))|(with_reducible (first|apply Kl|apply Km);(conv=>lhs;simp only [zw,k2,k3,k4,k5,k6,Int.reduceEq,decide_true,decide_false]))|(refine zqq ?_ ?_<;>intro hc<;>(try (exfalso;omega)))|fail)
     exact zr Ex rfl
   . have k3:decide (c0=5)=false:=decide_eq_false h5
     have k4:decide (c0=7)=false:=df
     have hI5:=hI 5
     have hI7:=hI 7
     rw [k3] at hI5
     rw [k4] at hI7
     clear hI p2 hv hk
     repeat' (first|with_reducible (first|apply A7|apply A8|apply A9|apply Ba)|((with_reducible (first|apply Fj|apply zc2));exact hV _ Ex;intro vv hh ee E8 Bu qq;(try simp only [C9] at E8 Bu);subst qq)|((with_reducible (first|apply Fj|apply zc2));exact hI5 _ Ex;intro vv hh ee E8 Bu qq;(try simp only [C9] at E8 Bu);subst qq)|((with_reducible (first|apply Fj|apply zc2));exact hI7 _ Ex;intro vv hh ee E8 Bu qq;(try simp only [C9] at E8 Bu);subst qq)|(refine Pd (f1 _) ?_;intro vv hh ee E8 Bu qq;subst qq)|(refine Pd (f2 _) ?_;intro vv hh ee E8 Bu qq;subst qq)|(with_reducible (first|apply Cy|apply Cz|apply C0|apply C1);(conv=>lhs;simp (disch:=first|exact dA|fail) [lw, *,hg,k2]);with_reducible (first|apply A7|apply A8|apply A9|apply Ba|apply Cu|(refine Cv (by simp) ?_)|apply Cx))|(with_reducible (first|apply Kl|apply Km);(conv=>lhs;simp only [zw,k2,k3,k4]))|(refine zqq ?_ ?_<;>intro hc<;>(try (exfalso;omega)))|fail)
     exact zr Ex rfl
 . have k1:decide (c0=2\/c0=4\/c0=5)=false:=decide_eq_false hv
   have k3:decide (c0=5)=false:=df
   have hI5:=hI 5
   have hI7:=hI 7
   rw [k1] at hV
   rw [k3] at hI5
   have f3:=λhh=>hF c7 hh om om
   clear hI p1 p2 hF k1
   cases k4:decide (c0=7)
   . rw [k4] at hI7
     clear hv
     repeat' (first|with_reducible (first|apply A7|apply A8|apply A9|apply Ba)|((with_reducible (first|apply Fj|apply zc2));exact hV _ Ex;intro vv hh ee E8 Bu qq;(try simp only [C9] at E8 Bu);subst qq)|((with_reducible (first|apply Fj|apply zc2));exact hI5 _ Ex;intro vv hh ee E8 Bu qq;(try simp only [C9] at E8 Bu);subst qq)|((with_reducible (first|apply Fj|apply zc2));exact hI7 _ Ex;intro vv hh ee E8 Bu qq;(try simp only [C9] at E8 Bu);subst qq)|(refine Pd (f3 _) ?_;intro vv hh ee E8 Bu qq;subst qq)|(with_reducible (first|apply Cy|apply Cz|apply C0|apply C1);(conv=>lhs;simp (disch:=first|exact dA|fail) [lw, *,hg]);with_reducible (first|apply A7|apply A8|apply A9|apply Ba|apply Cu|(refine Cv (by simp) ?_)|apply Cx))|(with_reducible (first|apply Kl|apply Km);(conv=>lhs;simp only [zw,k3]))|(refine zqq ?_ ?_<;>intro hc<;>(try (exfalso;omega)))|fail)
     exact zr Ex rfl
   . rw [k4] at hI7
     clear hv
     repeat' (first|with_reducible (first|apply A7|apply A8|apply A9|apply Ba)|((with_reducible (first|apply Fj|apply zc2));exact hV _ Ex;intro vv hh ee E8 Bu qq;(try simp only [C9] at E8 Bu);subst qq)|((with_reducible (first|apply Fj|apply zc2));exact hI5 _ Ex;intro vv hh ee E8 Bu qq;(try simp only [C9] at E8 Bu);subst qq)|((with_reducible (first|apply Fj|apply zc2));exact hI7 _ Ex;intro vv hh ee E8 Bu qq;(try simp only [C9] at E8 Bu);subst qq)|(refine Pd (f3 _) ?_;intro vv hh ee E8 Bu qq;subst qq)|(with_reducible (first|apply Cy|apply Cz|apply C0|apply C1);(conv=>lhs;simp (disch:=first|exact dA|fail) [lw, *,hg]);with_reducible (first|apply A7|apply A8|apply A9|apply Ba|apply Cu|(refine Cv (by simp) ?_)|apply Cx))|(with_reducible (first|apply Kl|apply Km);(conv=>lhs;simp only [zw,k3]))|(refine zqq ?_ ?_<;>intro hc<;>(try (exfalso;omega)))|fail)
     exact zr Ex rfl
end Go.Proofs
