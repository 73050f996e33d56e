/- How an abstract state -/
import GoSem.Dispatch
import Derived.Calls
set_option linter.all false
noncomputable section
namespace Go.Ev
variable {p:Prop}
def om(q:p:=by omega):p:=q
def Ak:=@Array.getD_eq_getD_getElem?
def C7:=@Bool.eq_iff_iff
def C8:=@Option.getD_some
def Ck:=@Option.some.inj
def Cm:=@List.length_take
def Cn:=@List.getElem?_map
def Co:=@List.map_cons
def Cp:=@List.drop_zero
def D2:=@Nat.mul_le_mul_right
def Dt:=@List.take_append_drop
def Ea:=@decide_true
def Ee:=@Nat.sub_le
def Ew:=@Nat.le_of_ble_eq_true
def F0:=@List.append_nil
def Fa:=@Int.mul_le_mul
def Fk:=@Nat.mul_le_mul
def Fl:=@if_false
def Fq:=@List.mapM_cons
def G4:=@implies_true
def G9:=@Bool.not_false
def Ga:=@List.take_add_one
def Gf:=@List.cons.injEq
def Gw:=@List.mem_append_right
def Gx:=@List.length_nil
def I2:=@Nat.min_le_left
def I8:=@List.length_set
def Ia:=@List.cons_append
def Ic:=@Array.ext'
def Iq:=@Int.zero_add
def Ir:=@Nat.le_total
def Is:=@UInt8.toNat_inj
def J1:=@Nat.le_add_right
def J2:=@Nat.succ_le_succ
def Je:=@Nat.le_of_mul_le_mul_left
def Jf:=@Nat.gcd_one_right
def Jg:=@List.take_sublist
def Jh:=@congrArg
def Ji:=@Nat.one_mul
def Jj:=@and_true
def Jl:=@Nat.gcd_dvd_right
def Jr:=@if_true
def Jx:=@Bool.not_true
def Jy:=@Nat.add_assoc
def K7:=@List.zip_cons_cons
def K8:=@List.take_left
def K9:=@Nat.mul_right_comm
def Kd:=@List.length_pos_iff
def Kg:=@Nat.one_le_two_pow
def Ki:=@Nat.add_sub_cancel
def Km:=@Bool.and_false
def Ko:=@List.singleton_append
def Kq:=@List.getElem_inj
def Ks:=@Nat.div_eq_of_lt
def Kt:=@List.mem_flatMap
def Ku:=@List.all_cons
def Kv:=@List.map_take
def Kw:=@Int.ofNat_eq_natCast
def Kx:=@List.toList_toArray
def L0:=@List.range_eq_range'
def L3:=@List.drop_replicate
def L8:=@Nat.gcd_pos_of_pos_right
def Lb:=@Nat.ne_of_lt
def Ld:=@Bool.or_eq_true
def Li:=@List.getElem?_toArray
def Lm:=@Int.toNat_natCast
def Lp:=@Array.getElem?_eq_some_iff
def Lx:=@List.length_replicate
def Lz:=@not_true_eq_false
def Mh:=@Bool.false_eq_true
def Mq:=@Nat.sub_self
def Mw:=@Option.isSome_iff_exists
def Mx:=@List.getElem?_take_of_lt
def My:=@Nat.add_sub_cancel_left
def Mz:=@Int.eq_ofNat_of_zero_le
def O1:=@Nat.two_pow_pos
def O5:=@List.getElem?_set
def Oa:=@Nat.div_le_self
def Od:=@List.all_eq_true
def Of:=@List.mem_map_of_mem
def Oh:=@List.getElem?_of_mem
def Ol:=@Array.toList_append
def Oq:=@Nat.pow_lt_pow_iff_right
def Ot:=@Nat.mul_comm
def Ou:=@Nat.zero_mul
def Ov:=@Nat.pow_succ
def P3:=@Nat.beq_refl
def P9:=@Nat.mul_assoc
def Pc:=@Nat.le_succ
def Pl:=@false_imp_iff
def Pr:=@List.drop_eq_getElem_cons
def Pz:=@Nat.lt_trans
def Qf:=@Nat.div_one
def Qg:=@and_self
def Ql:=@Nat.lt_of_le_of_lt
def Qt:=@Nat.zero_le
def R4:=@List.take_of_length_le
def Rd:=@Array.getElem?_toList
def Re:=@List.drop_length
def Rk:=@List.take_zero
def Rl:=@Nat.mod_lt
def Rn:=@Nat.gcd_zero_right
def Rx:=@Nat.zero_add
def S5:=@List.replicate_append_replicate
def Sa:=@Nat.lt_succ_of_lt
def Sc:=@Bool.and_eq_true
def T0:=@List.mem_singleton
def T2:=@List.mem_append
def T3:=@List.nil_append
def T5:=@List.length_eq_zero_iff
def T7:=@List.eq_nil_or_concat
def T8:=@Nat.le_of_lt
def T9:=@List.concat_eq_append
def Tb:=@Int.toNat_of_nonneg
def Tl:=@List.forall_mem_cons
def Ts:=@List.drop_of_length_le
def Tz:=@List.set_eq_take_append_cons_drop
def U0:=@Array.getElem?_eq_getElem
def Uh:=@Option.bind_eq_some_iff
def Ui:=@Nat.lt_or_ge
def V5:=@List.flatMap_append
def Vl:=@List.mem_of_getElem?
def Vw:=@Nat.add_zero
def W8:=@decide_eq_true_eq
def Wf:=@List.mem_cons
def Wm:=@List.mem_cons_self
def Wq:=@List.append_assoc
def Wr:=@List.mem_cons_of_mem
def Ws:=@decide_eq_true
def Ww:=@List.not_mem_nil
def X2:=@if_neg
def Xh:=@List.getElem?_eq_some_iff
def Xi:=@List.length_append
def Xo:=@if_pos
def Xy:=@Nat.le_trans
def Y3:=@Nat.lt_succ_self
def Y7:=@List.length_cons
def Ye:=@Nat.le_refl
def Yg:=@decide_eq_false
def Yq:=@List.getElem?_eq_getElem
def Yy:=@Nat.lt_of_lt_of_le
def ae:=@Nat.mul_one
def ag:=@Nat.add_mul
def ah:=@List.map_append
def aj:=@Array.getElem?_setIfInBounds_ne
def ak:=@List.getElem?_eq_none
def ao:=@Nat.eq_of_beq_eq_true
def aq:=@Nat.pow_le_pow_right
def au:=@List.drop_drop
def aw:=@List.mem_append_left
def ax:=@List.mem_of_mem_take
def ay:=@List.getElem?_cons_succ
def az:=@of_decide_eq_true
def bf:=@Bool.eq_false_or_eq_true
def bg:=@List.length_drop
def bh:=@of_decide_eq_false
def bj:=@Int.natCast_nonneg
def bk:=@List.mem_filter
def br:=@Nat.ble_eq_true_of_le
def bt:=@Array.getElem?_append_left
def bu:=@List.getElem?_append_right
def bz:=@Nat.div_lt_of_lt_mul
def cf:=@Nat.testBit_or
def cg:=@List.take_length
def cj:=@decide_eq_decide
def ck:=@List.getElem?_append_left
def cq:=@Nat.mul_le_mul_left
def cu:=@Nat.eq_zero_or_pos
def cy:=@List.getElem?_take
def da:=@List.getElem?_drop
def dc:=@List.getElem?_cons_zero
def de:=@List.take_take
def dg:=@List.ext_getElem?
def dh:=@List.flatMap_cons
def dk:=@Array.mem_of_getElem?
def dl:=@List.getElem_mem
def dm:=@Nat.mod_eq_of_lt
def du:=@List.foldl_cons
def dw:=@Nat.min_eq_left
def dx:=@Nat.not_lt_zero
def dy:=@Option.map_some
def dz:=@List.mem_map
def ea:=@List.drop_take
def ec:=@List.mem_range
def ed:=@Array.mapM_eq_mapM_toList
def ef:=@Option.some.injEq
def eo:=@List.range'_succ
def eu:=@Int.le_trans
def ew:=@Nat.sub_zero
def ey:=@Option.map_none
def ez:=@List.length_map
def fb:=@or_false
def fe[Decidable p](q:p:=by decide):p:=q
def mg(n:Nat)(q:0<n:=by omega):∃k,n=k+1:=⟨n-1,om⟩
def df[Decidable p](q:¬ p:=by omega):decide p=false:=Yg q
def dt[Decidable p](q:p:=by omega):decide p=true:=Ws q
inductive AV where
|top
|bool (b:Bool)
|int (k:IntKind) (n:Int)
|str (s:List Nat)
|Ob
|ptr (b off:Nat)
|Bv
|sl (b off len cap sz:Nat) (ex:Bool)
|Td
|map (r:Nat)
|fn (f:Fn) (first cap:List AV)
|Iy
|I6 (t:TypeId) (v:AV)
|B3
|agg (cs:List AV)
|Bj (vs:List AV)
inductive CK where
|exact
|fz (N3:Nat)
|Gt (N3:Nat)
|Cf (N3 Tx:Nat)
inductive D8 where
|d0|d1|d2|d3|d4|d5|d6|d7
inductive On where
|d0|d1|d2|d3|d4|d5|d6|d7|d8|d9|d10|d11|d12|d13|d14|d15
def A7X(_:Nat):On:=.d15
def A7W(n:Nat):On:=Nat.rec .d14 (λm _=>A7X m) n
def A7V(n:Nat):On:=Nat.rec .d13 (λm _=>A7W m) n
def A7U(n:Nat):On:=Nat.rec .d12 (λm _=>A7V m) n
def A7T(n:Nat):On:=Nat.rec .d11 (λm _=>A7U m) n
def A7S(n:Nat):On:=Nat.rec .d10 (λm _=>A7T m) n
def eg9(n:Nat):On:=Nat.rec .d9 (λm _=>A7S m) n
def eg8(n:Nat):On:=Nat.rec .d8 (λm _=>eg9 m) n
def eg7(n:Nat):On:=Nat.rec .d7 (λm _=>eg8 m) n
def eg6(n:Nat):On:=Nat.rec .d6 (λm _=>eg7 m) n
def eg5(n:Nat):On:=Nat.rec .d5 (λm _=>eg6 m) n
def eg4(n:Nat):On:=Nat.rec .d4 (λm _=>eg5 m) n
def eg3(n:Nat):On:=Nat.rec .d3 (λm _=>eg4 m) n
def eg2(n:Nat):On:=Nat.rec .d2 (λm _=>eg3 m) n
def eg1(n:Nat):On:=Nat.rec .d1 (λm _=>eg2 m) n
def eg0(n:Nat):On:=Nat.rec .d0 (λm _=>eg1 m) n
abbrev Xl:Nat->On:=eg0
def dg7(_:Nat):D8:=.d7
def dg6(n:Nat):D8:=Nat.rec .d6 (λm _=>dg7 m) n
def dg5(n:Nat):D8:=Nat.rec .d5 (λm _=>dg6 m) n
def dg4(n:Nat):D8:=Nat.rec .d4 (λm _=>dg5 m) n
def dg3(n:Nat):D8:=Nat.rec .d3 (λm _=>dg4 m) n
def dg2(n:Nat):D8:=Nat.rec .d2 (λm _=>dg3 m) n
def dg1(n:Nat):D8:=Nat.rec .d1 (λm _=>dg2 m) n
def dg0(n:Nat):D8:=Nat.rec .d0 (λm _=>dg1 m) n
abbrev V8:Nat->D8:=dg0
instance:DecidableEq D8:=λa b=>by cases a<;>cases b<;>first|exact isTrue rfl|exact isFalse (λh=>by cases h)
instance:DecidableEq On:=λa b=>by cases a<;>cases b<;>first|exact isTrue rfl|exact isFalse (λh=>by cases h)
structure L1 where
 (a0 a1 a2 a3 a4 a5 a6 a7 a8 a9 I9 Ja a12 Jb Jc Jd:AV)
def L1.L4(d:On):L1->AV:=On.rec L1.a0 L1.a1 L1.a2 L1.a3 L1.a4 L1.a5 L1.a6 L1.a7 L1.a8 L1.a9 L1.I9 L1.Ja L1.a12 L1.Jb L1.Jc L1.Jd d
def L1.u0(s:L1):AV->L1:=L1.rec (λ_ a1 a2 k b l m f c g h d a i e j v=>⟨v,a1,a2,k,b,l,m,f,c,g,h,d,a,i,e,j⟩) s
def L1.u1(s:L1):AV->L1:=L1.rec (λd _ a2 l b m n g c h i e a j f k v=>⟨d,v,a2,l,b,m,n,g,c,h,i,e,a,j,f,k⟩) s
def L1.u2(s:L1):AV->L1:=L1.rec (λd a1 _ l b m n g c h i e a j f k v=>⟨d,a1,v,l,b,m,n,g,c,h,i,e,a,j,f,k⟩) s
def L1.u3(s:L1):AV->L1:=L1.rec (λd a1 a2 _ b l m g c h i e a j f k v=>⟨d,a1,a2,v,b,l,m,g,c,h,i,e,a,j,f,k⟩) s
def L1.u4(s:L1):AV->L1:=L1.rec (λc a1 a2 k _ l m f b g h d a i e j v=>⟨c,a1,a2,k,v,l,m,f,b,g,h,d,a,i,e,j⟩) s
def L1.u5(s:L1):AV->L1:=L1.rec (λd a1 a2 l b _ m g c h i e a j f k v=>⟨d,a1,a2,l,b,v,m,g,c,h,i,e,a,j,f,k⟩) s
def L1.u6(s:L1):AV->L1:=L1.rec (λd a1 a2 l b m _ g c h i e a j f k v=>⟨d,a1,a2,l,b,m,v,g,c,h,i,e,a,j,f,k⟩) s
def L1.u7(s:L1):AV->L1:=L1.rec (λd a1 a2 k b l m _ c g h e a i f j v=>⟨d,a1,a2,k,b,l,m,v,c,g,h,e,a,i,f,j⟩) s
def L1.u8(s:L1):AV->L1:=L1.rec (λc a1 a2 k b l m f _ g h d a i e j v=>⟨c,a1,a2,k,b,l,m,f,v,g,h,d,a,i,e,j⟩) s
def L1.u9(s:L1):AV->L1:=L1.rec (λd a1 a2 k b l m g c _ h e a i f j v=>⟨d,a1,a2,k,b,l,m,g,c,v,h,e,a,i,f,j⟩) s
def L1.u10(s:L1):AV->L1:=L1.rec (λd a1 a2 k b l m g c h _ e a i f j v=>⟨d,a1,a2,k,b,l,m,g,c,h,v,e,a,i,f,j⟩) s
def L1.u11(s:L1):AV->L1:=L1.rec (λd a1 a2 k b l m f c g h _ a i e j v=>⟨d,a1,a2,k,b,l,m,f,c,g,h,v,a,i,e,j⟩) s
def L1.u12(s:L1):AV->L1:=L1.rec (λc a1 a2 k a l m f b g h d _ i e j v=>⟨c,a1,a2,k,a,l,m,f,b,g,h,d,v,i,e,j⟩) s
def L1.u13(s:L1):AV->L1:=L1.rec (λd a1 a2 k b l m g c h i e a _ f j v=>⟨d,a1,a2,k,b,l,m,g,c,h,i,e,a,v,f,j⟩) s
def L1.u14(s:L1):AV->L1:=L1.rec (λd a1 a2 k b l m f c g h e a i _ j v=>⟨d,a1,a2,k,b,l,m,f,c,g,h,e,a,i,v,j⟩) s
def L1.u15(s:L1):AV->L1:=L1.rec (λd a1 a2 k b l m g c h i e a j f _ v=>⟨d,a1,a2,k,b,l,m,g,c,h,i,e,a,j,f,v⟩) s
def L1.Gu(d:On):L1->AV->L1:=On.rec L1.u0 L1.u1 L1.u2 L1.u3 L1.u4 L1.u5 L1.u6 L1.u7 L1.u8 L1.u9 L1.u10 L1.u11 L1.u12 L1.u13 L1.u14 L1.u15 d
def L1.all(x:AV):L1:=⟨x,x,x,x,x,x,x,x,x,x,x,x,x,x,x,x⟩
def L1.G7 d e s v:L1.L4 d (L1.Gu e s v)=if d=e then v else L1.L4 d s:=by cases d<;>cases e<;>rfl
def L1.G6 d x:L1.L4 d (L1.all x)=x:=by cases d<;>rfl
structure L2 where
 (a0 a1 a2 a3 a4 a5 a6 a7 a8 a9 I9 Ja a12 Jb Jc Jd:L1)
def L2.L4(d:On):L2->L1:=On.rec L2.a0 L2.a1 L2.a2 L2.a3 L2.a4 L2.a5 L2.a6 L2.a7 L2.a8 L2.a9 L2.I9 L2.Ja L2.a12 L2.Jb L2.Jc L2.Jd d
def L2.u0(s:L2):L1->L2:=L2.rec (λ_ a1 a2 k b l m f c g h d a i e j v=>⟨v,a1,a2,k,b,l,m,f,c,g,h,d,a,i,e,j⟩) s
def L2.u1(s:L2):L1->L2:=L2.rec (λd _ a2 l b m n g c h i e a j f k v=>⟨d,v,a2,l,b,m,n,g,c,h,i,e,a,j,f,k⟩) s
def L2.u2(s:L2):L1->L2:=L2.rec (λd a1 _ l b m n g c h i e a j f k v=>⟨d,a1,v,l,b,m,n,g,c,h,i,e,a,j,f,k⟩) s
def L2.u3(s:L2):L1->L2:=L2.rec (λd a1 a2 _ b l m g c h i e a j f k v=>⟨d,a1,a2,v,b,l,m,g,c,h,i,e,a,j,f,k⟩) s
def L2.u4(s:L2):L1->L2:=L2.rec (λc a1 a2 k _ l m f b g h d a i e j v=>⟨c,a1,a2,k,v,l,m,f,b,g,h,d,a,i,e,j⟩) s
def L2.u5(s:L2):L1->L2:=L2.rec (λd a1 a2 l b _ m g c h i e a j f k v=>⟨d,a1,a2,l,b,v,m,g,c,h,i,e,a,j,f,k⟩) s
def L2.u6(s:L2):L1->L2:=L2.rec (λd a1 a2 l b m _ g c h i e a j f k v=>⟨d,a1,a2,l,b,m,v,g,c,h,i,e,a,j,f,k⟩) s
def L2.u7(s:L2):L1->L2:=L2.rec (λd a1 a2 k b l m _ c g h e a i f j v=>⟨d,a1,a2,k,b,l,m,v,c,g,h,e,a,i,f,j⟩) s
def L2.u8(s:L2):L1->L2:=L2.rec (λc a1 a2 k b l m f _ g h d a i e j v=>⟨c,a1,a2,k,b,l,m,f,v,g,h,d,a,i,e,j⟩) s
def L2.u9(s:L2):L1->L2:=L2.rec (λd a1 a2 k b l m g c _ h e a i f j v=>⟨d,a1,a2,k,b,l,m,g,c,v,h,e,a,i,f,j⟩) s
def L2.u10(s:L2):L1->L2:=L2.rec (λd a1 a2 k b l m g c h _ e a i f j v=>⟨d,a1,a2,k,b,l,m,g,c,h,v,e,a,i,f,j⟩) s
def L2.u11(s:L2):L1->L2:=L2.rec (λd a1 a2 k b l m f c g h _ a i e j v=>⟨d,a1,a2,k,b,l,m,f,c,g,h,v,a,i,e,j⟩) s
def L2.u12(s:L2):L1->L2:=L2.rec (λc a1 a2 k a l m f b g h d _ i e j v=>⟨c,a1,a2,k,a,l,m,f,b,g,h,d,v,i,e,j⟩) s
def L2.u13(s:L2):L1->L2:=L2.rec (λd a1 a2 k b l m g c h i e a _ f j v=>⟨d,a1,a2,k,b,l,m,g,c,h,i,e,a,v,f,j⟩) s
def L2.u14(s:L2):L1->L2:=L2.rec (λd a1 a2 k b l m f c g h e a i _ j v=>⟨d,a1,a2,k,b,l,m,f,c,g,h,e,a,i,v,j⟩) s
def L2.u15(s:L2):L1->L2:=L2.rec (λd a1 a2 k b l m g c h i e a j f _ v=>⟨d,a1,a2,k,b,l,m,g,c,h,i,e,a,j,f,v⟩) s
def L2.Gu(d:On):L2->L1->L2:=On.rec L2.u0 L2.u1 L2.u2 L2.u3 L2.u4 L2.u5 L2.u6 L2.u7 L2.u8 L2.u9 L2.u10 L2.u11 L2.u12 L2.u13 L2.u14 L2.u15 d
def L2.all(x:L1):L2:=⟨x,x,x,x,x,x,x,x,x,x,x,x,x,x,x,x⟩
def L2.G7 d e s v:L2.L4 d (L2.Gu e s v)=if d=e then v else L2.L4 d s:=by cases d<;>cases e<;>rfl
def L2.G6 d x:L2.L4 d (L2.all x)=x:=by cases d<;>rfl
inductive AO where
|none
|cells (c:List AV) (elem:TypeId) (k:CK)
|map (es:List (AV × AV))
|Fb (n:Nat)
|loop (st:Nat) (Lw:Option Code) (fr:L2) (params:List Nat) (assign body:Code)
|dfr (taken:Bool)
abbrev uz:=List AV
abbrev uw:=List Nat
abbrev cd(l:uz)(t:TypeId):AO:=.cells l t .exact
abbrev ch:Int->AV:=.int .u8
abbrev cm:Int->AV:=.int .u64
abbrev ct:AV:=.bool false
abbrev ux:AV:=.bool true
abbrev uq:uz:=.replicate 24 (ch 0)
abbrev uk:uw:=[48,49,50,51,52,53,54,55,56,57,97,98,99,100,101,102,103,104,105,106,107,108,109,110,111,112,113,114,115,116,117,118,119,120,121,122]
abbrev uv:uw:=[48,48,48,48,48,48,48,48,48]
abbrev uj:uw:=[49,48,49,47,49,48,48]
abbrev uy:uw:=[49,49,47,49,48]
abbrev ub:uw:=[57,47,50,53,54]
abbrev uc:uw:=[102,97,99,116,111,114]
abbrev uf:uw:=[49,48,48,48,48,48,48]
abbrev ug:uw:=[119,104,101,114,101]
abbrev uh:uw:=[101,120,112,114,101,115,115,105,111,110]
abbrev ul:uw:=[99,111,110,115,105,115,116,101,110,116]
abbrev um:uw:=[112,101,111,112,108,101]
abbrev ur:uw:=[99,111,108,111,117,114]
abbrev us:uw:=[104,105,115,116,111,103,114,97,109]
abbrev wx:uw:=[112,108,97,99,101,115]
abbrev wv:uw:=[107,101,101,112]
abbrev wj:uw:=[106,111,105,110]
abbrev wy:uw:=[98,105,116,115]
abbrev wg:uw:=[49,47,49,50,56]
abbrev bw:uw:=[103,114,101,101,110]
abbrev tx:uw:=[51,47,50]
structure K1 where
 (a0 a1 a2 a3 a4 a5 a6 a7:AO)
def K1.L4(d:D8):K1->AO:=D8.rec K1.a0 K1.a1 K1.a2 K1.a3 K1.a4 K1.a5 K1.a6 K1.a7 d
def K1.u0(s:K1):AO->K1:=K1.rec (λ_ a1 a2 c a d e b v=>⟨v,a1,a2,c,a,d,e,b⟩) s
def K1.u1(s:K1):AO->K1:=K1.rec (λb _ a2 d a e f c v=>⟨b,v,a2,d,a,e,f,c⟩) s
def K1.u2(s:K1):AO->K1:=K1.rec (λb a1 _ d a e f c v=>⟨b,a1,v,d,a,e,f,c⟩) s
def K1.u3(s:K1):AO->K1:=K1.rec (λb a1 a2 _ a d e c v=>⟨b,a1,a2,v,a,d,e,c⟩) s
def K1.u4(s:K1):AO->K1:=K1.rec (λa a1 a2 c _ d e b v=>⟨a,a1,a2,c,v,d,e,b⟩) s
def K1.u5(s:K1):AO->K1:=K1.rec (λb a1 a2 d a _ e c v=>⟨b,a1,a2,d,a,v,e,c⟩) s
def K1.u6(s:K1):AO->K1:=K1.rec (λb a1 a2 d a e _ c v=>⟨b,a1,a2,d,a,e,v,c⟩) s
def K1.u7(s:K1):AO->K1:=K1.rec (λb a1 a2 c a d e _ v=>⟨b,a1,a2,c,a,d,e,v⟩) s
def K1.Gu(d:D8):K1->AO->K1:=D8.rec K1.u0 K1.u1 K1.u2 K1.u3 K1.u4 K1.u5 K1.u6 K1.u7 d
def K1.all(x:AO):K1:=⟨x,x,x,x,x,x,x,x⟩
def K1.G7 d e s v:K1.L4 d (K1.Gu e s v)=if d=e then v else K1.L4 d s:=by cases d<;>cases e<;>rfl
def K1.G6 d x:K1.L4 d (K1.all x)=x:=by cases d<;>rfl
structure K2 where
 (a0 a1 a2 a3 a4 a5 a6 a7:K1)
def K2.L4(d:D8):K2->K1:=D8.rec K2.a0 K2.a1 K2.a2 K2.a3 K2.a4 K2.a5 K2.a6 K2.a7 d
def K2.u0(s:K2):K1->K2:=K2.rec (λ_ a1 a2 c a d e b v=>⟨v,a1,a2,c,a,d,e,b⟩) s
def K2.u1(s:K2):K1->K2:=K2.rec (λb _ a2 d a e f c v=>⟨b,v,a2,d,a,e,f,c⟩) s
def K2.u2(s:K2):K1->K2:=K2.rec (λb a1 _ d a e f c v=>⟨b,a1,v,d,a,e,f,c⟩) s
def K2.u3(s:K2):K1->K2:=K2.rec (λb a1 a2 _ a d e c v=>⟨b,a1,a2,v,a,d,e,c⟩) s
def K2.u4(s:K2):K1->K2:=K2.rec (λa a1 a2 c _ d e b v=>⟨a,a1,a2,c,v,d,e,b⟩) s
def K2.u5(s:K2):K1->K2:=K2.rec (λb a1 a2 d a _ e c v=>⟨b,a1,a2,d,a,v,e,c⟩) s
def K2.u6(s:K2):K1->K2:=K2.rec (λb a1 a2 d a e _ c v=>⟨b,a1,a2,d,a,e,v,c⟩) s
def K2.u7(s:K2):K1->K2:=K2.rec (λb a1 a2 c a d e _ v=>⟨b,a1,a2,c,a,d,e,v⟩) s
def K2.Gu(d:D8):K2->K1->K2:=D8.rec K2.u0 K2.u1 K2.u2 K2.u3 K2.u4 K2.u5 K2.u6 K2.u7 d
def K2.all(x:K1):K2:=⟨x,x,x,x,x,x,x,x⟩
def K2.G7 d e s v:K2.L4 d (K2.Gu e s v)=if d=e then v else K2.L4 d s:=by cases d<;>cases e<;>rfl
def K2.G6 d x:K2.L4 d (K2.all x)=x:=by cases d<;>rfl
structure K3 where
 (a0 a1 a2 a3 a4 a5 a6 a7:K2)
def K3.L4(d:D8):K3->K2:=D8.rec K3.a0 K3.a1 K3.a2 K3.a3 K3.a4 K3.a5 K3.a6 K3.a7 d
def K3.u0(s:K3):K2->K3:=K3.rec (λ_ a1 a2 c a d e b v=>⟨v,a1,a2,c,a,d,e,b⟩) s
def K3.u1(s:K3):K2->K3:=K3.rec (λb _ a2 d a e f c v=>⟨b,v,a2,d,a,e,f,c⟩) s
def K3.u2(s:K3):K2->K3:=K3.rec (λb a1 _ d a e f c v=>⟨b,a1,v,d,a,e,f,c⟩) s
def K3.u3(s:K3):K2->K3:=K3.rec (λb a1 a2 _ a d e c v=>⟨b,a1,a2,v,a,d,e,c⟩) s
def K3.u4(s:K3):K2->K3:=K3.rec (λa a1 a2 c _ d e b v=>⟨a,a1,a2,c,v,d,e,b⟩) s
def K3.u5(s:K3):K2->K3:=K3.rec (λb a1 a2 d a _ e c v=>⟨b,a1,a2,d,a,v,e,c⟩) s
def K3.u6(s:K3):K2->K3:=K3.rec (λb a1 a2 d a e _ c v=>⟨b,a1,a2,d,a,e,v,c⟩) s
def K3.u7(s:K3):K2->K3:=K3.rec (λb a1 a2 c a d e _ v=>⟨b,a1,a2,c,a,d,e,v⟩) s
def K3.Gu(d:D8):K3->K2->K3:=D8.rec K3.u0 K3.u1 K3.u2 K3.u3 K3.u4 K3.u5 K3.u6 K3.u7 d
def K3.all(x:K2):K3:=⟨x,x,x,x,x,x,x,x⟩
def K3.G7 d e s v:K3.L4 d (K3.Gu e s v)=if d=e then v else K3.L4 d s:=by cases d<;>cases e<;>rfl
def K3.G6 d x:K3.L4 d (K3.all x)=x:=by cases d<;>rfl
structure K4 where
 (a0 a1 a2 a3 a4 a5 a6 a7:K3)
def K4.L4(d:D8):K4->K3:=D8.rec K4.a0 K4.a1 K4.a2 K4.a3 K4.a4 K4.a5 K4.a6 K4.a7 d
def K4.u0(s:K4):K3->K4:=K4.rec (λ_ a1 a2 c a d e b v=>⟨v,a1,a2,c,a,d,e,b⟩) s
def K4.u1(s:K4):K3->K4:=K4.rec (λb _ a2 d a e f c v=>⟨b,v,a2,d,a,e,f,c⟩) s
def K4.u2(s:K4):K3->K4:=K4.rec (λb a1 _ d a e f c v=>⟨b,a1,v,d,a,e,f,c⟩) s
def K4.u3(s:K4):K3->K4:=K4.rec (λb a1 a2 _ a d e c v=>⟨b,a1,a2,v,a,d,e,c⟩) s
def K4.u4(s:K4):K3->K4:=K4.rec (λa a1 a2 c _ d e b v=>⟨a,a1,a2,c,v,d,e,b⟩) s
def K4.u5(s:K4):K3->K4:=K4.rec (λb a1 a2 d a _ e c v=>⟨b,a1,a2,d,a,v,e,c⟩) s
def K4.u6(s:K4):K3->K4:=K4.rec (λb a1 a2 d a e _ c v=>⟨b,a1,a2,d,a,e,v,c⟩) s
def K4.u7(s:K4):K3->K4:=K4.rec (λb a1 a2 c a d e _ v=>⟨b,a1,a2,c,a,d,e,v⟩) s
def K4.Gu(d:D8):K4->K3->K4:=D8.rec K4.u0 K4.u1 K4.u2 K4.u3 K4.u4 K4.u5 K4.u6 K4.u7 d
def K4.all(x:K3):K4:=⟨x,x,x,x,x,x,x,x⟩
def K4.G7 d e s v:K4.L4 d (K4.Gu e s v)=if d=e then v else K4.L4 d s:=by cases d<;>cases e<;>rfl
def K4.G6 d x:K4.L4 d (K4.all x)=x:=by cases d<;>rfl
structure K5 where
 (a0 a1 a2 a3 a4 a5 a6 a7:K4)
def K5.L4(d:D8):K5->K4:=D8.rec K5.a0 K5.a1 K5.a2 K5.a3 K5.a4 K5.a5 K5.a6 K5.a7 d
def K5.u0(s:K5):K4->K5:=K5.rec (λ_ a1 a2 c a d e b v=>⟨v,a1,a2,c,a,d,e,b⟩) s
def K5.u1(s:K5):K4->K5:=K5.rec (λb _ a2 d a e f c v=>⟨b,v,a2,d,a,e,f,c⟩) s
def K5.u2(s:K5):K4->K5:=K5.rec (λb a1 _ d a e f c v=>⟨b,a1,v,d,a,e,f,c⟩) s
def K5.u3(s:K5):K4->K5:=K5.rec (λb a1 a2 _ a d e c v=>⟨b,a1,a2,v,a,d,e,c⟩) s
def K5.u4(s:K5):K4->K5:=K5.rec (λa a1 a2 c _ d e b v=>⟨a,a1,a2,c,v,d,e,b⟩) s
def K5.u5(s:K5):K4->K5:=K5.rec (λb a1 a2 d a _ e c v=>⟨b,a1,a2,d,a,v,e,c⟩) s
def K5.u6(s:K5):K4->K5:=K5.rec (λb a1 a2 d a e _ c v=>⟨b,a1,a2,d,a,e,v,c⟩) s
def K5.u7(s:K5):K4->K5:=K5.rec (λb a1 a2 c a d e _ v=>⟨b,a1,a2,c,a,d,e,v⟩) s
def K5.Gu(d:D8):K5->K4->K5:=D8.rec K5.u0 K5.u1 K5.u2 K5.u3 K5.u4 K5.u5 K5.u6 K5.u7 d
def K5.all(x:K4):K5:=⟨x,x,x,x,x,x,x,x⟩
def K5.G7 d e s v:K5.L4 d (K5.Gu e s v)=if d=e then v else K5.L4 d s:=by cases d<;>cases e<;>rfl
def K5.G6 d x:K5.L4 d (K5.all x)=x:=by cases d<;>rfl
structure K6 where
 (a0 a1 a2 a3 a4 a5 a6 a7:K5)
def K6.L4(d:D8):K6->K5:=D8.rec K6.a0 K6.a1 K6.a2 K6.a3 K6.a4 K6.a5 K6.a6 K6.a7 d
def K6.u0(s:K6):K5->K6:=K6.rec (λ_ a1 a2 c a d e b v=>⟨v,a1,a2,c,a,d,e,b⟩) s
def K6.u1(s:K6):K5->K6:=K6.rec (λb _ a2 d a e f c v=>⟨b,v,a2,d,a,e,f,c⟩) s
def K6.u2(s:K6):K5->K6:=K6.rec (λb a1 _ d a e f c v=>⟨b,a1,v,d,a,e,f,c⟩) s
def K6.u3(s:K6):K5->K6:=K6.rec (λb a1 a2 _ a d e c v=>⟨b,a1,a2,v,a,d,e,c⟩) s
def K6.u4(s:K6):K5->K6:=K6.rec (λa a1 a2 c _ d e b v=>⟨a,a1,a2,c,v,d,e,b⟩) s
def K6.u5(s:K6):K5->K6:=K6.rec (λb a1 a2 d a _ e c v=>⟨b,a1,a2,d,a,v,e,c⟩) s
def K6.u6(s:K6):K5->K6:=K6.rec (λb a1 a2 d a e _ c v=>⟨b,a1,a2,d,a,e,v,c⟩) s
def K6.u7(s:K6):K5->K6:=K6.rec (λb a1 a2 c a d e _ v=>⟨b,a1,a2,c,a,d,e,v⟩) s
def K6.Gu(d:D8):K6->K5->K6:=D8.rec K6.u0 K6.u1 K6.u2 K6.u3 K6.u4 K6.u5 K6.u6 K6.u7 d
def K6.all(x:K5):K6:=⟨x,x,x,x,x,x,x,x⟩
def K6.G7 d e s v:K6.L4 d (K6.Gu e s v)=if d=e then v else K6.L4 d s:=by cases d<;>cases e<;>rfl
def K6.G6 d x:K6.L4 d (K6.all x)=x:=by cases d<;>rfl
def L2.get(t:Nat)(f:L2):AV:=L1.L4 (Xl (Nat.mod t 16)) (L2.L4 (Xl (Nat.div t 16)) f)
def L2.set(t:Nat)(v:AV)(f:L2):L2:=L2.Gu (Xl (Nat.div t 16)) f (L1.Gu (Xl (Nat.mod t 16)) (L2.L4 (Xl (Nat.div t 16)) f) v)
def L2.new:L2:=L2.all (L1.all (.Bj []))
def K6.get(m:K6)(i:Nat):AO:=K1.L4 (V8 (Nat.mod i 8)) (K2.L4 (V8 (Nat.mod (Nat.div i 8) 8)) (K3.L4 (V8 (Nat.mod (Nat.div i 64) 8)) (K4.L4 (V8 (Nat.mod (Nat.div i 512) 8)) (K5.L4 (V8 (Nat.mod (Nat.div i 4096) 8)) (K6.L4 (V8 (Nat.div i 32768)) (m))))))
def K6.set(m:K6)(i:Nat)(v:AO):K6:=K6.Gu (V8 (Nat.div i 32768)) (m) (K5.Gu (V8 (Nat.mod (Nat.div i 4096) 8)) (K6.L4 (V8 (Nat.div i 32768)) (m)) (K4.Gu (V8 (Nat.mod (Nat.div i 512) 8)) (K5.L4 (V8 (Nat.mod (Nat.div i 4096) 8)) (K6.L4 (V8 (Nat.div i 32768)) (m))) (K3.Gu (V8 (Nat.mod (Nat.div i 64) 8)) (K4.L4 (V8 (Nat.mod (Nat.div i 512) 8)) (K5.L4 (V8 (Nat.mod (Nat.div i 4096) 8)) (K6.L4 (V8 (Nat.div i 32768)) (m)))) (K2.Gu (V8 (Nat.mod (Nat.div i 8) 8)) (K3.L4 (V8 (Nat.mod (Nat.div i 64) 8)) (K4.L4 (V8 (Nat.mod (Nat.div i 512) 8)) (K5.L4 (V8 (Nat.mod (Nat.div i 4096) 8)) (K6.L4 (V8 (Nat.div i 32768)) (m))))) (K1.Gu (V8 (Nat.mod i 8)) (K2.L4 (V8 (Nat.mod (Nat.div i 8) 8)) (K3.L4 (V8 (Nat.mod (Nat.div i 64) 8)) (K4.L4 (V8 (Nat.mod (Nat.div i 512) 8)) (K5.L4 (V8 (Nat.mod (Nat.div i 4096) 8)) (K6.L4 (V8 (Nat.div i 32768)) (m)))))) (v))))))
def K6.new:K6:=K6.all (K5.all (K4.all (K3.all (K2.all (K1.all .none)))))
structure KM where
 lo:K6
 hi:Nat->AO
def KM.get(m:KM)(i:Nat):AO:=Bool.rec (m.hi i) (m.lo.get i) (Nat.blt i 262144)
def KM.set(m:KM)(i:Nat)(v:AO):KM:=Bool.rec ⟨m.lo,λj=>Bool.rec (m.hi j) v (Nat.beq j i)⟩ ⟨m.lo.set i v,m.hi⟩ (Nat.blt i 262144)
def KM.new:KM:=⟨K6.new,λ_=>.none⟩
noncomputable section
inductive VB where|no|yes(b:Bool)
inductive VI where|no|yes(k:IntKind)(n:Int)
inductive VS where|no|yes(s:List Nat)
inductive VP where|no|nil|yes(b off:Nat)
inductive VL where|no|nil|yes(b off len cap sz:Nat)(ex:Bool)
inductive VA where|no|yes(cs:List AV)
inductive VM where|no|nil|yes(r:Nat)
inductive VF where|no|nil|yes(f:Fn)(first cap:List AV)
inductive VIf where|no|nil|yes(t:TypeId)(v:AV)
def vB(x:AV):VB:=AV.rec (motive_1:=λ_=>VB) (motive_2:=λ_=>PUnit) (VB.no) (λb=>VB.yes b) (λ_ _=>VB.no) (λ_=>VB.no) (VB.no) (λ_ _=>VB.no) (VB.no) (λ_ _ _ _ _ _=>VB.no) (VB.no) (λ_=>VB.no) (λ_ _ _ _ _=>VB.no) (VB.no) (λ_ _ _=>VB.no) (VB.no) (λ_ _=>VB.no) (λ_ _=>VB.no) PUnit.unit (λ_ _ _ _=>PUnit.unit) x
def vI(x:AV):VI:=AV.rec (motive_1:=λ_=>VI) (motive_2:=λ_=>PUnit) (VI.no) (λ_=>VI.no) (λk n=>VI.yes k n) (λ_=>VI.no) (VI.no) (λ_ _=>VI.no) (VI.no) (λ_ _ _ _ _ _=>VI.no) (VI.no) (λ_=>VI.no) (λ_ _ _ _ _=>VI.no) (VI.no) (λ_ _ _=>VI.no) (VI.no) (λ_ _=>VI.no) (λ_ _=>VI.no) PUnit.unit (λ_ _ _ _=>PUnit.unit) x
def vS(x:AV):VS:=AV.rec (motive_1:=λ_=>VS) (motive_2:=λ_=>PUnit) (VS.no) (λ_=>VS.no) (λ_ _=>VS.no) (λs=>VS.yes s) (VS.no) (λ_ _=>VS.no) (VS.no) (λ_ _ _ _ _ _=>VS.no) (VS.no) (λ_=>VS.no) (λ_ _ _ _ _=>VS.no) (VS.no) (λ_ _ _=>VS.no) (VS.no) (λ_ _=>VS.no) (λ_ _=>VS.no) PUnit.unit (λ_ _ _ _=>PUnit.unit) x
def vP(x:AV):VP:=AV.rec (motive_1:=λ_=>VP) (motive_2:=λ_=>PUnit) (VP.no) (λ_=>VP.no) (λ_ _=>VP.no) (λ_=>VP.no) (VP.nil) (λb o=>VP.yes b o) (VP.no) (λ_ _ _ _ _ _=>VP.no) (VP.no) (λ_=>VP.no) (λ_ _ _ _ _=>VP.no) (VP.no) (λ_ _ _=>VP.no) (VP.no) (λ_ _=>VP.no) (λ_ _=>VP.no) PUnit.unit (λ_ _ _ _=>PUnit.unit) x
def vL(x:AV):VL:=AV.rec (motive_1:=λ_=>VL) (motive_2:=λ_=>PUnit) (VL.no) (λ_=>VL.no) (λ_ _=>VL.no) (λ_=>VL.no) (VL.no) (λ_ _=>VL.no) (VL.nil) (λb o l c z e=>VL.yes b o l c z e) (VL.no) (λ_=>VL.no) (λ_ _ _ _ _=>VL.no) (VL.no) (λ_ _ _=>VL.no) (VL.no) (λ_ _=>VL.no) (λ_ _=>VL.no) PUnit.unit (λ_ _ _ _=>PUnit.unit) x
def vA(x:AV):VA:=AV.rec (motive_1:=λ_=>VA) (motive_2:=λ_=>PUnit) (VA.no) (λ_=>VA.no) (λ_ _=>VA.no) (λ_=>VA.no) (VA.no) (λ_ _=>VA.no) (VA.no) (λ_ _ _ _ _ _=>VA.no) (VA.no) (λ_=>VA.no) (λ_ _ _ _ _=>VA.no) (VA.no) (λ_ _ _=>VA.no) (VA.no) (λcs _=>VA.yes cs) (λ_ _=>VA.no) PUnit.unit (λ_ _ _ _=>PUnit.unit) x
def vT(x:AV):VA:=AV.rec (motive_1:=λ_=>VA) (motive_2:=λ_=>PUnit) (VA.no) (λ_=>VA.no) (λ_ _=>VA.no) (λ_=>VA.no) (VA.no) (λ_ _=>VA.no) (VA.no) (λ_ _ _ _ _ _=>VA.no) (VA.no) (λ_=>VA.no) (λ_ _ _ _ _=>VA.no) (VA.no) (λ_ _ _=>VA.no) (VA.no) (λ_ _=>VA.no) (λa _=>VA.yes a) PUnit.unit (λ_ _ _ _=>PUnit.unit) x
def vM(x:AV):VM:=AV.rec (motive_1:=λ_=>VM) (motive_2:=λ_=>PUnit) (VM.no) (λ_=>VM.no) (λ_ _=>VM.no) (λ_=>VM.no) (VM.no) (λ_ _=>VM.no) (VM.no) (λ_ _ _ _ _ _=>VM.no) (VM.nil) (λr=>VM.yes r) (λ_ _ _ _ _=>VM.no) (VM.no) (λ_ _ _=>VM.no) (VM.no) (λ_ _=>VM.no) (λ_ _=>VM.no) PUnit.unit (λ_ _ _ _=>PUnit.unit) x
def vF(x:AV):VF:=AV.rec (motive_1:=λ_=>VF) (motive_2:=λ_=>PUnit) (VF.no) (λ_=>VF.no) (λ_ _=>VF.no) (λ_=>VF.no) (VF.no) (λ_ _=>VF.no) (VF.no) (λ_ _ _ _ _ _=>VF.no) (VF.no) (λ_=>VF.no) (λf a c _ _=>VF.yes f a c) (VF.nil) (λ_ _ _=>VF.no) (VF.no) (λ_ _=>VF.no) (λ_ _=>VF.no) PUnit.unit (λ_ _ _ _=>PUnit.unit) x
def vIf(x:AV):VIf:=AV.rec (motive_1:=λ_=>VIf) (motive_2:=λ_=>PUnit) (VIf.no) (λ_=>VIf.no) (λ_ _=>VIf.no) (λ_=>VIf.no) (VIf.no) (λ_ _=>VIf.no) (VIf.no) (λ_ _ _ _ _ _=>VIf.no) (VIf.no) (λ_=>VIf.no) (λ_ _ _ _ _=>VIf.no) (VIf.no) (λt v _=>VIf.yes t v) (VIf.nil) (λ_ _=>VIf.no) (λ_ _=>VIf.no) PUnit.unit (λ_ _ _ _=>PUnit.unit) x
def Ge(x:AV):Bool:=AV.rec (motive_1:=λ_=>Bool) (motive_2:=λ_=>PUnit) (false) (λ_=>true) (λ_ _=>true) (λ_=>true) (true) (λ_ _=>true) (true) (λ_ _ _ _ _ _=>true) (true) (λ_=>true) (λ_ _ _ _ _=>true) (true) (λ_ _ _=>true) (true) (λ_ _=>false) (λ_ _=>false) PUnit.unit (λ_ _ _ _=>PUnit.unit) x
inductive CL where|no|one|many(cs:List AV)
def vC(x:AV):CL:=AV.rec (motive_1:=λ_=>CL) (motive_2:=λ_=>PUnit) (CL.no) (λ_=>CL.one) (λ_ _=>CL.one) (λ_=>CL.one) (CL.one) (λ_ _=>CL.one) (CL.one) (λ_ _ _ _ _ _=>CL.one) (CL.one) (λ_=>CL.one) (λ_ _ _ _ _=>CL.one) (CL.one) (λ_ _ _=>CL.one) (CL.one) (λcs _=>CL.many cs) (λ_ _=>CL.no) PUnit.unit (λ_ _ _ _=>PUnit.unit) x
def cellsOf(x:AV):Option uz:=CL.rec (λ_=>none) (λx=>some [x]) (λcs _=>some cs) (vC x) x
def ltl(x:Option uz):Option uz:=Option.rec none (λl=>List.rec none (λ_ t _=>some t) l) x
def lhd(x:Option uz):Option AV:=Option.rec none (λl=>List.rec none (λa _ _=>some a) l) x
def AcD(l:uz)(n:Nat):Option uz:=Nat.rec (some l) (λ_ a=>ltl a) n
def AcE(l:uz)(n:Nat):Option AV:=lhd (AcD l n)
def AeG(n:Nat):uz->Option uz:=
 Nat.rec (λ_=>some [])
  (λ_ b l=>List.rec none (λa l _=>Option.rec none (λr=>some (a::r)) (b l)) l) n
def Nf(l:uz)(off n:Nat):Option uz:=Option.rec none (AeG n) (AcD l off)
def AcF(b:uz):uz->Option uz:=
 List.rec some
  (λv _ a l=>List.rec none (λ_ l _=>Option.rec none (λr=>some (v::r)) (a l)) l) b
def Ng(l:uz)(b:uz):Nat->Option uz:=
 List.rec (λn=>Nat.rec (AcF b []) (λ_ _=>none) n)
  (λa l c n=>Nat.rec (AcF b (a::l)) (λm _=>Option.rec none (λr=>some (a::r)) (c m)) n) l
def J0(x y:uz):uz:=List.rec y (λa _ b=>a::b) x
def Q4(x:uz):Nat:=List.rec 0 (λ_ _ a=>Nat.succ a) x
def Bm(x:uz):Bool:=List.rec true (λa _ b=>Bool.rec false b (Ge a)) x
structure H where
 m:KM
 nx:Nat
 lg:List Nat
inductive OR where
|bad (why:Nat)
|ok (v:AV) (h:H)
inductive RH where
|bad (why:Nat)
|ok (h:H)
def H.new(h:H)(o:AO):H:=⟨h.m.set h.nx o,Nat.succ h.nx,h.lg⟩
def H.put(h:H)(b:Nat)(o:AO):H:=⟨h.m.set b o,h.nx,b::h.lg⟩
def AlH(n:Nat)(o:AO):Bool:=AO.rec false (λ_ _ _=>false) (λ_=>false) (λm=>Nat.beq m n) (λ_ _ _ _ _ _=>false) (λ_=>false) o
def ArJ(N3 st:Nat)(c:uz)(h:H):Option uz:=(Bool.rec (none) (some c) (AlH st (h.m.get N3)))
def rdK(k:CK):uz->H->Option uz:=CK.rec (λc _=>some c) (λ_ c _=>some c) (λ_ c _=>some c) ArJ k
def rdO(o:AO):H->Option uz:=AO.rec (λ_=>none) (λc _ k=>rdK k c) (λ_ _=>none) (λ_ _=>none) (λ_ _ _ _ _ _ _=>none) (λ_ _=>none) o
def H.rd(h:H)(b:Nat):Option uz:=rdO (h.m.get b) h
def wrL(c:Option uz):Nat->TypeId->H->RH:=Option.rec (λ_ _ _=>.bad 1) (λc b e h=>.ok (h.put b (cd c e))) c
def Aj3(o:AO):Option Nat:=AO.rec none (λ_ _ _=>none) (λ_=>none) some (λ_ _ _ _ _ _=>none) (λ_=>none) o
def wrT(c:Option uz)(n:Option Nat)(N3 b:Nat)(e:TypeId)(h:H):RH:=
 match c,n with
 |some c,some n=>.ok ((h.put b (.cells c e (.Gt N3))).put N3 (.Fb (Nat.succ n)))
 |_,_=>.bad 2
def wrK(k:CK):uz->TypeId->Nat->Nat->uz->H->RH:=CK.rec (motive:=λ_=>uz->TypeId->Nat->Nat->uz->H->RH)
 (λc e b off a h=>wrL (Ng c a off) b e h) (λ_ _ _ _ _ _ _=>.bad 3) (λN3 c e b off a h=>wrT (Ng c a off) (Aj3 (h.m.get N3)) N3 b e h) (λ_ _ _ _ _ _ _ _=>.bad 3) k
def wrO(o:AO):Nat->Nat->uz->H->RH:=AO.rec (λ_ _ _ _=>.bad 4) (λc e k=>wrK k c e) (λ_ _ _ _ _=>.bad 4) (λ_ _ _ _ _=>.bad 4) (λ_ _ _ _ _ _ _ _ _ _=>.bad 4) (λ_ _ _ _ _=>.bad 4) o
def H.wr(h:H)(b off:Nat)(a:uz):RH:=wrO (h.m.get b) b off a h
def Ft(P:Program)(t:TypeId):Option (Option Nat):=
 match P.underlying t,P.info? t with
 |some (.struct _),some i|some (.array _ _),some i=>some (some i.size)
 |some _,some _=>some none
 |_,_=>none
def F7(P:Program)(t:TypeId):Option Nat:=(P.info? t).map (·.size)
structure SI where
 e:TypeId
 s:Nat
 bytes:Nat
inductive XI where|bad|str|sl(s:SI)|arr(n:Nat)(s:SI)
def Hp(P:Program)(t:TypeId):XI:=
 match P.underlying t with
 |some .string=>.str
 |some (.slice e)=>match P.info? e with|some i=>Bool.rec .bad (.sl ⟨e,i.size,i.bytes⟩) (Nat.blt 0 i.size)|none=>.bad
 |some (.array n e)=>match P.info? e with|some i=>.arr n ⟨e,i.size,i.bytes⟩|none=>.bad
 |_=>.bad
def bytesOf(s:ByteArray):uw:=s.data.toList.map UInt8.toNat
def App:Nat->Value->AV
|0,_=>.top
|d+1,v=>
 match v with
 |.bool b=>.bool b
 |.int k n=>.int k n
 |.string s=>.str (bytesOf s)
 |.pointer none=>.Ob
 |.slice none 0 0=>.Bv
 |.map none=>.Td
 |.nilFunc=>.Iy
 |.nilIface=>.B3
 |.iface t v=>.I6 t (App d v)
 |.agg cs=>.agg (cs.toList.map (App d))
 |_=>.top
abbrev A1B:Value->AV:=App 5
def Ps(P:Program)(t:TypeId):Option AV:=((P.info? t).bind (·.zero)).map A1B
def I1(P:Program)(t:TypeId):Option uz:=(Ps P t).bind cellsOf
def Tw(P:Program)(t:TypeId):Option SI:=
 match P.underlying t with
 |some (.slice e)=>match P.info? e,I1 P e with|some i,some z=>(Bool.rec (none) (Bool.rec none (some ⟨e,i.size,i.bytes⟩) (Nat.blt 0 i.size)) (Nat.beq (Q4 z) i.size))|_,_=>none
 |_=>none
structure Ac where
 call:FuncId->List AV->H->OR
 round:Nat->List AV->H->OR
abbrev V2:=TypeId->Program->Ac->L2->H->OR
def BaD(t:Nat)(f:L2):AV:=f.get t
def AzU(v:Value)(_:L2):AV:=A1B v
def AuY(g:Nat)(_:L2):AV:=.ptr g 0
def A52(f:Nat)(_:L2):AV:=.fn (.func f) [] []
def ev(x:Operand):L2->AV:=Operand.rec BaD AzU AuY A52 x
def W1(l:List Operand)(f:L2):uz:=List.rec [] (λx _ a=>ev x f::a) l
def ilt(a b:Int):Bool:=Int.rec (motive:=λ_=>Int->Bool)
 (λm b=>Int.rec (λn=>Nat.blt m n) (λ_=>false) b)
 (λm b=>Int.rec (λ_=>true) (λn=>Nat.blt n m) b) a b
def ieq(a b:Int):Bool:=Int.rec (motive:=λ_=>Int->Bool)
 (λm b=>Int.rec (λn=>Nat.beq m n) (λ_=>false) b)
 (λm b=>Int.rec (λ_=>false) (λn=>Nat.beq m n) b) a b
def fits(k:IntKind)(n:Int):Bool:=Bool.rec (Bool.rec true false (ilt k.max n)) false (ilt n k.min)
def E1(k:IntKind)(n:Int):Int:=Bool.rec (k.wrap n) n (fits k n)
def kNo(k:IntKind):Nat:=IntKind.rec 0 1 2 3 4 5 6 7 k
def kEq(a b:IntKind):Bool:=Nat.beq (kNo a) (kNo b)
def Qh(a b:uw):Bool:=
 List.rec (λb=>List.rec true (λ_ _ _=>false) b)
  (λx _ c b=>List.rec false (λy b _=>Bool.rec false (c b) (Nat.beq x y)) b) a b
def Gn(a b:uw):Bool:=
 List.rec (λb=>List.rec false (λ_ _ _=>true) b)
  (λx _ c b=>List.rec false (λy b _=>Bool.rec (Bool.rec false (c b) (Nat.beq x y)) true (Nat.blt x y)) b) a b
inductive TK where|bad|bool|int|string|ptr|iface|struct(fs:List (TypeId × Nat))|array(n:Nat)(e:TypeId)(size:Nat)|slice
def tk(P:Program)(t:TypeId):TK:=
 match P.underlying t with
 |some .bool=>.bool
 |some (.int _)=>.int
 |some .string=>.string
 |some (.pointer e)=>match F7 P e with|some (_+1)=>.ptr|_=>.bad
 |some (.interface _)=>.iface
 |some (.struct a)=>if P.stoodInHeld t then .bad else .struct ((a.toList.filter λf=>f.name != "_").map λf=>(f.type,f.offset))
 |some (.array n e)=>match F7 P e with|some s=>.array n e s|none=>.bad
 |some (.slice _)=>.slice
 |_=>.bad
def Tn(i:Option (Option Nat))(cs:uz)(off:Nat):Option AV:=
 match i with
 |some none=>AcE cs off
 |some (some n)=>(Nf cs off n).map .agg
 |none=>none
def Hc(P:Program)(t:TypeId)(cs:uz)(off:Nat):Option AV:=Tn (Ft P t) cs off
abbrev EqT:=TypeId->AV->AV->Option Bool
def Amw(P:Program)(eq:EqT):List (TypeId × Nat)->uz->uz->Option Bool
|[],_,_=>some true
|(t,o)::c,a,b=>
 match Hc P t a o,Hc P t b o with
 |some x,some y=>match eq t x y with
  |some true=>Amw P eq c a b
  |some false=>some false
  |none=>none
 |_,_=>none
def Amv(P:Program)(eq:EqT)(e:TypeId)(s:Nat):Nat->Nat->uz->uz->Option Bool
|0,_,_,_=>some true
|n+1,i,a,b=>
 match Hc P e a (i*s),Hc P e b (i*s)with
 |some x,some y=>match eq e x y with
  |some true=>Amv P eq e s n (i+1) a b
  |some false=>some false
  |none=>none
 |_,_=>none
def Dy(P:Program)(eq:EqT)(t:TypeId)(x y:AV):Option Bool:=
 match tk P t with
 |.bad=>none
 |.bool=>match vB x,vB y with|.yes a,.yes b=>some (a == b)|_,_=>none
 |.int=>match vI x,vI y with|.yes k a,.yes c b=>(Bool.rec (none) (some (ieq a b)) (kEq k c))|_,_=>none
 |.string=>match vS x,vS y with|.yes a,.yes b=>some (Qh a b)|_,_=>none
 |.ptr=>match vP x,vP y with
  |.nil,.nil=>some true
  |.nil,.yes _ _|.yes _ _,.nil=>some false
  |.yes b o,.yes f g=>(Bool.rec (none) (some (Nat.beq o g)) (Nat.beq b f))
  |_,_=>none
 |.iface=>match vIf x,vIf y with
  |.nil,.nil=>some true
  |.nil,.yes _ _|.yes _ _,.nil=>some false
  |.yes a v,.yes b w=>(Bool.rec (some false) ((Bool.rec (none) (eq a v w) ((P.info? a).any (·.comparable)))) (Nat.beq a b))
  |_,_=>none
 |.struct d=>match vA x,vA y with|.yes a,.yes b=>Amw P eq d a b|_,_=>none
 |.array n e s=>match vA x,vA y with|.yes a,.yes b=>Amv P eq e s n 0 a b|_,_=>none
 |.slice=>match vL x,vL y with
  |.nil,.nil=>some true
  |.nil,.yes ..|.yes ..,.nil=>some false
  |_,_=>none
def aeq(P:Program):Nat->EqT
|0=>λ_ _ _=>none
|d+1=>Dy P (aeq P d)
def Py(v:Option AV)(h:H):OR:=Option.rec (.bad 10) (λv=>.ok v h) v
def AnU(r:RH):OR:=RH.rec .bad (λh=>.ok (.Bj []) h) r
def mk(h:H)(o:AO)(v:AV):OR:=.ok v (h.new o)
def Awr(x:Operand):V2:=λ_ _ _ f h=>.ok (ev x f) h
def Bo(x:AV):AV->AV->H->OR:=AV.rec (motive_1:=λ_=>AV->AV->H->OR) (motive_2:=λ_=>PUnit) (λ_ _ _=>.bad 11) (λb=>Bool.rec (λ_ y h=>.ok y h) (λx _ h=>.ok x h) b) (λ_ _=>λ_ _ _=>.bad 11) (λ_=>λ_ _ _=>.bad 11) (λ_ _ _=>.bad 11) (λ_ _=>λ_ _ _=>.bad 11) (λ_ _ _=>.bad 11) (λ_ _ _ _ _ _=>λ_ _ _=>.bad 11) (λ_ _ _=>.bad 11) (λ_=>λ_ _ _=>.bad 11) (λ_ _ _ _ _=>λ_ _ _=>.bad 11) (λ_ _ _=>.bad 11) (λ_ _ _=>λ_ _ _=>.bad 11) (λ_ _ _=>.bad 11) (λ_ _=>λ_ _ _=>.bad 11) (λ_ _=>λ_ _ _=>.bad 11) PUnit.unit (λ_ _ _ _=>PUnit.unit) x
def A4U(c a b:Operand):V2:=λ_ _ _ f h=>Bo (ev c f) (ev a f) (ev b f) h
def AdR(cs:Option uz)(e:TypeId)(h:H):OR:=Option.rec (.bad 12) (λcs=>mk h (cd cs e) (.ptr h.nx 0)) cs
def Az1(e:TypeId):V2:=λ_ P _ _ h=>AdR (I1 P e) e h
def A9R(e:TypeId)(x:Operand):V2:=λ_ _ _ f h=>AdR (cellsOf (ev x f)) e h
def places(P:Program)(t:TypeId):Option (List (Nat × Nat)):=
 match P.underlying t with
 |some (.struct a)=>a.toList.mapM λf=>(F7 P f.type).map λs=>(f.offset,s)
 |_=>none
def Xp(place:Nat->Option (Nat × Nat))(f:L2):List (Nat × Operand)->uz->Option uz
|[],cs=>some cs
|(i,x)::rest,cs=>
 match place i,cellsOf (ev x f)with
 |some (off,size),some v=>match Ng cs v off with|some D7=>(Bool.rec (none) (Xp place f rest D7) (Nat.beq (Q4 v) size))|none=>none
 |_,_=>none
def Xc(s:Nat)(i:Nat):Option (Nat × Nat):=some (i*s,s)
inductive BI where|bad|struct(pl:List (Nat × Nat))(z:List AV)|arr(s:Nat)(z:List AV)
def AgS(P:Program)(t:TypeId):BI:=
 match I1 P t,P.underlying t with
 |some z,some (.struct _)=>match places P t with|some pl=>.struct pl z|none=>.bad
 |some z,some (.array _ e)=>match F7 P e with|some s=>.arr s z|none=>.bad
 |_,_=>.bad
def Ly(c:Option uz)(h:H):OR:=Option.rec (.bad 14) (λcs=>.ok (.agg cs) h) c
def Tg(t:TypeId)(parts:Array (Nat × Operand)):V2:=λ_ P _ f h=>
 match AgS P t with
 |.struct pl z=>Ly (Xp (λi=>pl[i]?) f parts.toList z) h
 |.arr s z=>Ly (Xp (Xc s) f parts.toList z) h
 |.bad=>.bad 18
def Ade(z:uz):Nat->uz
|0=>[]
|n+1=>J0 z (Ade z n)
def Gj(n:Nat):Bool:=Nat.blt n 1000000000000
def Gz(t:TypeId)(len:Nat)(parts:Array (Nat × Operand)):V2:=λ_ P _ f h=>
 match Tw P t with
 |some i=>match I1 P i.e with
  |some z=>match Xp (Xc i.s) f parts.toList (Ade z len)with
   |some cs=>(Bool.rec (.bad 19) (mk h (cd cs i.e) (.sl h.nx 0 len len i.s true)) (Nat.blt (len*i.s) 1000000))
   |none=>.bad 20
  |none=>.bad 21
 |none=>.bad 22
def ldL(i:Option (Option Nat)):uz->Nat->H->OR:=Option.rec (λ_ _ _=>.bad 23)
 (λi=>Option.rec (λc o h=>Py (AcE c o) h) (λn c o h=>Ly (Nf c o n) h) i) i
def ldC(c:Option uz):Option (Option Nat)->Nat->H->OR:=@Option.rec _ (λ_=>Option (Option Nat)->Nat->H->OR) (λ_ _ _=>.bad 24) (λc i=>ldL i c) c
def ldV(x:AV):Option (Option Nat)->H->OR:=AV.rec (motive_1:=λ_=>Option (Option Nat)->H->OR) (motive_2:=λ_=>PUnit) (λ_ _=>.bad 25) (λ_=>λ_ _=>.bad 25) (λ_ _=>λ_ _=>.bad 25) (λ_=>λ_ _=>.bad 25) (λ_ _=>.bad 25) (λb o=>λi h=>ldC (H.rd h b) i o h) (λ_ _=>.bad 25) (λ_ _ _ _ _ _=>λ_ _=>.bad 25) (λ_ _=>.bad 25) (λ_=>λ_ _=>.bad 25) (λ_ _ _ _ _=>λ_ _=>.bad 25) (λ_ _=>.bad 25) (λ_ _ _=>λ_ _=>.bad 25) (λ_ _=>.bad 25) (λ_ _=>λ_ _=>.bad 25) (λ_ _=>λ_ _=>.bad 25) PUnit.unit (λ_ _ _ _=>PUnit.unit) x
def A4T(t:TypeId)(a:Operand):V2:=λ_ P _ f h=>ldV (ev a f) (Ft P t) h
def stC(cs:Option uz)(n:Option Nat)(b off:Nat)(h:H):OR:=
 match cs,n with
 |some cs,some n=>(Bool.rec (.bad 26) ((Bool.rec (.bad 26) (AnU (h.wr b off cs)) (Bm cs))) (Nat.beq (Q4 cs) n))
 |_,_=>.bad 26
def stV(x:AV):Option uz->Option Nat->H->OR:=AV.rec (motive_1:=λ_=>Option uz->Option Nat->H->OR) (motive_2:=λ_=>PUnit) (λ_ _ _=>.bad 27) (λ_=>λ_ _ _=>.bad 27) (λ_ _=>λ_ _ _=>.bad 27) (λ_=>λ_ _ _=>.bad 27) (λ_ _ _=>.bad 27) (λb o=>λcs n h=>stC cs n b o h) (λ_ _ _=>.bad 27) (λ_ _ _ _ _ _=>λ_ _ _=>.bad 27) (λ_ _ _=>.bad 27) (λ_=>λ_ _ _=>.bad 27) (λ_ _ _ _ _=>λ_ _ _=>.bad 27) (λ_ _ _=>.bad 27) (λ_ _ _=>λ_ _ _=>.bad 27) (λ_ _ _=>.bad 27) (λ_ _=>λ_ _ _=>.bad 27) (λ_ _=>λ_ _ _=>.bad 27) PUnit.unit (λ_ _ _ _=>PUnit.unit) x
def Az3(t:TypeId)(a x:Operand):V2:=λ_ P _ f h=>stV (ev a f) (cellsOf (ev x f)) (F7 P t) h
def AxW(f:Fn):Bool:=match f with|.func _=>true|_=>false
def notNil(x:AV):Bool:=AV.rec (motive_1:=λ_=>Bool) (motive_2:=λ_=>PUnit) (false) (λ_=>false) (λ_ _=>true) (λ_=>false) (false) (λ_ _=>true) (false) (λ_ _ _ _ _ _=>false) (false) (λ_=>true) (λf _ _ _ _=>AxW f) (false) (λ_ _ _=>true) (false) (λ_ _=>false) (λ_ _=>false) PUnit.unit (λ_ _ _ _=>PUnit.unit) x
def Uu(x:Operand):V2:=λ_ _ _ f h=>(Bool.rec (.bad 28) (.ok (ev x f) h) (notNil (ev x f)))
def AzJ(x y:uw):uw:=List.rec y (λa _ b=>a::b) x
abbrev II:=IntKind->Int->IntKind->Int->H->OR
def iAr(g:Int->Int->Int):II:=λk a c b h=>(Bool.rec (.bad 30) (.ok (.int k (E1 k (g a b))) h) (kEq k c))
def A4x:II:=λk a c b h=>(Bool.rec (.bad 30) ((Bool.rec (.ok (.int k (E1 k (Int.tdiv a b))) h) (.bad 31) (ieq b 0))) (kEq k c))
def A4y:II:=λk a c b h=>(Bool.rec (.bad 30) ((Bool.rec (.ok (.int k (Int.tmod a b)) h) (.bad 31) (ieq b 0))) (kEq k c))
def Akn(n:Int):Option Nat:=Int.rec some (λ_=>none) n
def Anl(g:Nat->Nat->Nat):II:=λk a c b h=>
 match Akn a,Akn b with
 |some m,some n=>(@Bool.rec (λ_=>OR) (.bad 30) ((@Bool.rec (λ_=>OR) (.bad 32) ((@Bool.rec (λ_=>OR) (.bad 32) (.ok (.int k (.ofNat (g m n))) h) (fits k b))) (fits k a))) (kEq k c))
 |_,_=>.bad 32
def AtZ:II:=λk a _ b h=>match Akn b with|some n=>.ok (.int k (E1 k (Int.mul a (.ofNat (Nat.pow 2 (Nat.min n k.bits)))))) h|none=>.bad 33
def Aua:II:=λk a _ b h=>match Akn a,Akn b with|some m,some n=>.ok (.int k (.ofNat (Nat.div m (Nat.pow 2 (Nat.min n k.bits))))) h|_,_=>.bad 34
def AjY(g:Int->Int->Bool):II:=λk a c b h=>(Bool.rec (.bad 30) (.ok (.bool (g a b)) h) (kEq k c))
def Ib(b:Bool):Bool:=Bool.rec true false b
def Aju(a b:Bool):Bool:=Bool.rec (Ib b) b a
def AqP(op:BinOp):II:=BinOp.rec (iAr Int.add) (iAr Int.sub) (iAr Int.mul) A4x A4y (Anl Nat.land) (Anl Nat.lor) (Anl Nat.xor) AtZ Aua (λ_ _ _ _ _=>.bad 35)
 (AjY ieq) (AjY λa b=>Ib (ieq a b)) (AjY ilt) (AjY λa b=>Ib (ilt b a)) (AjY λa b=>ilt b a) (AjY λa b=>Ib (ilt a b)) op
abbrev SSt:=uw->uw->H->OR
def AnZ(g:uw->uw->Bool):SSt:=λa b h=>.ok (.bool (g a b)) h
def AdX:SSt:=λ_ _ _=>.bad 36
def Y2(s:uw):Nat:=List.rec 0 (λ_ _ a=>Nat.succ a) s
def Bab:SSt:=λa b h=>(Bool.rec (.bad 37) (.ok (.str (AzJ a b)) h) (Gj (Nat.add (Y2 a) (Y2 b))))
def AuB(op:BinOp):SSt:=BinOp.rec Bab AdX AdX AdX AdX AdX AdX AdX AdX AdX AdX
 (AnZ Qh) (AnZ λa b=>Ib (Qh a b)) (AnZ Gn) (AnZ λa b=>Ib (Gn b a)) (AnZ λa b=>Gn b a) (AnZ λa b=>Ib (Gn a b)) op
def Nq(P:Program)(t:TypeId):Bool:=Ib (P.eqGuardType P.depth t)
def isConst(x:Operand):Bool:=Operand.rec (λ_=>false) (λ_=>true) (λ_=>false) (λ_=>false) x
def O6(x:AV):Nat:=AV.rec (motive_1:=λ_=>Nat) (motive_2:=λ_=>PUnit) (3) (λ_=>2) (λ_ _=>3) (λ_=>3) (2) (λ_ _=>2) (2) (λ_ _ _ _ _ _=>2) (2) (λ_=>2) (λ_ _ _ _ _=>2) (2) (λ_ _ _=>2) (0) (λ_ _=>1) (λ_ _=>3) PUnit.unit (λ_ _ _ _=>PUnit.unit) x
def Xm(P:Program)(t:TypeId)(Sm:Bool)(a b:Nat):Bool:=
 match a,b with
 |0,0=>Sm
 |1,1=>Nq P t
 |0,2|2,0|2,2=>true
 |_,_=>false
def Xe(a:Bool)(P:Program)(t:TypeId)(x y:AV)(Sm:Bool)(h:H):OR:=
 (Bool.rec (.bad 39) ((match aeq P 20 t x y with|some b=>OR.ok (.bool (a != b)) h|none=>.bad 38)) (Xm P t Sm (O6 x) (O6 y)))
abbrev BG:=AV->AV->BinOp->TypeId->Bool->Program->H->OR
def Ij:BG:=λx y op t c P h=>match op with|.eql=>Xe false P t x y c h|.neq=>Xe true P t x y c h|_=>.bad 40
def Apv(y:AV):IntKind->Int->BinOp->H->OR:=AV.rec (motive_1:=λ_=>IntKind->Int->BinOp->H->OR) (motive_2:=λ_=>PUnit) (λ_ _ _ _=>.bad 41) (λ_=>λ_ _ _ _=>.bad 41) (λk n=>λb a op h=>AqP op b a k n h) (λ_=>λ_ _ _ _=>.bad 41) (λ_ _ _ _=>.bad 41) (λ_ _=>λ_ _ _ _=>.bad 41) (λ_ _ _ _=>.bad 41) (λ_ _ _ _ _ _=>λ_ _ _ _=>.bad 41) (λ_ _ _ _=>.bad 41) (λ_=>λ_ _ _ _=>.bad 41) (λ_ _ _ _ _=>λ_ _ _ _=>.bad 41) (λ_ _ _ _=>.bad 41) (λ_ _ _=>λ_ _ _ _=>.bad 41) (λ_ _ _ _=>.bad 41) (λ_ _=>λ_ _ _ _=>.bad 41) (λ_ _=>λ_ _ _ _=>.bad 41) PUnit.unit (λ_ _ _ _=>PUnit.unit) y
def Apx(y:AV):uw->BinOp->H->OR:=AV.rec (motive_1:=λ_=>uw->BinOp->H->OR) (motive_2:=λ_=>PUnit) (λ_ _ _=>.bad 42) (λ_=>λ_ _ _=>.bad 42) (λ_ _=>λ_ _ _=>.bad 42) (λs=>λa op h=>AuB op a s h) (λ_ _ _=>.bad 42) (λ_ _=>λ_ _ _=>.bad 42) (λ_ _ _=>.bad 42) (λ_ _ _ _ _ _=>λ_ _ _=>.bad 42) (λ_ _ _=>.bad 42) (λ_=>λ_ _ _=>.bad 42) (λ_ _ _ _ _=>λ_ _ _=>.bad 42) (λ_ _ _=>.bad 42) (λ_ _ _=>λ_ _ _=>.bad 42) (λ_ _ _=>.bad 42) (λ_ _=>λ_ _ _=>.bad 42) (λ_ _=>λ_ _ _=>.bad 42) PUnit.unit (λ_ _ _ _=>PUnit.unit) y
def Atc(x:AV):BG:=AV.rec (motive_1:=λ_=>BG) (motive_2:=λ_=>PUnit) (λ_ _ _ _ _ _ _=>.bad 43) (λ_=>Ij) (λk n=>λ_ y op _ _ _ h=>Apv y k n op h) (λs=>λ_ y op _ _ _ h=>Apx y s op h) (Ij) (λ_ _=>Ij) (Ij) (λ_ _ _ _ _ _=>Ij) (Ij) (λ_=>Ij) (λ_ _ _ _ _=>Ij) (Ij) (λ_ _ _=>Ij) (Ij) (λ_ _=>Ij) (λ_ _=>Ij) PUnit.unit (λ_ _ _ _=>PUnit.unit) x
def AfX(op:BinOp)(t:TypeId)(x y:Operand)(_:TypeId):V2:=λ_ P _ f h=>Atc (ev x f) (ev x f) (ev y f) op t (Bool.rec (isConst y) true (isConst x)) P h
def AaP(op:UnOp)(_:TypeId)(x:Operand):V2:=λ_ _ _ f h=>
 match op with
 |.not=>match vB (ev x f)with|.yes b=>.ok (.bool (Ib b)) h|.no=>.bad 44
 |.neg=>match vI (ev x f)with|.yes k n=>.ok (.int k (E1 k (Int.sub 0 n))) h|.no=>.bad 45
 |_=>.bad 46
inductive CV where|bad|toU|ofU(u:TypeId)|int(k:IntKind)|Agl(e:TypeId)|ofBytes
def ApL(P:Program)(s d:TypeId):CV:=
 match P.underlying s,P.underlying d with
 |some (.int _),some (.int k)=>.int k
 |some .string,some (.slice e)=>match P.underlying e,F7 P e with|some (.int .u8),some 1=>.Agl e|_,_=>.bad
 |some (.slice e),some .string=>match P.underlying e with|some (.int .u8)=>.ofBytes|_=>.bad
 |some (.pointer e),some .unsafePointer=>match F7 P e with|some (_+1)=>.toU|_=>.bad
 |some .unsafePointer,some (.pointer u)=>match F7 P u with|some (_+1)=>.ofU u|_=>.bad
 |_,_=>.bad
def U2(s:uw):uz:=List.rec [] (λa _ b=>.int .u8 (.ofNat a)::b) s
def Xf(x:AV):Option Nat:=match vI x with|.yes .u8 (.ofNat n)=>(Bool.rec (none) (some n) (Nat.blt n 256))|_=>none
def Yj(s:uz):Option uw:=List.rec (some [])
 (λa _ b=>match Xf a,b with|some n,some r=>some (n::r)|_,_=>none) s
def Awp(P:Program)(e:TypeId)(n off:Nat)(u:TypeId):Bool:=liesAt P P.depth e (n/P.cellsOf e) off u 1
def Ml(s d:TypeId)(x:Operand):V2:=λ_ P _ f h=>
 match ApL P s d with
 |.int k=>match vI (ev x f)with|.yes _ n=>.ok (.int k (E1 k n)) h|.no=>.bad 47
 |.Agl e=>match vS (ev x f)with
  |.yes s=>(Bool.rec (.bad 51) (.ok (.sl (Nat.succ h.nx) 0 (Y2 s) (Y2 s) 1 false) ((h.new (.Fb 0)).new (.cells (U2 s) e (.Gt h.nx)))) (Gj (Y2 s)))
  |.no=>.bad 52
 |.ofBytes=>match vL (ev x f)with
  |.nil=>.ok (.str []) h
  |.yes b off len _ _ _=>match h.rd b with
   |some c=>match Nf c off len with
    |some cs=>match Yj cs with|some s=>.ok (.str s) h|none=>.bad 53
    |none=>.bad 54
   |none=>.bad 55
  |.no=>.bad 56
 |.toU=>match vP (ev x f)with
  |.nil=>.ok .Ob h
  |.yes b off=>(match h.rd b with|some c=>(Bool.rec (.bad 57) (.ok (.ptr b off) h) (Nat.blt off (Q4 c)))|none=>.bad 58)
  |.no=>.bad 59
 |.ofU u=>match vP (ev x f)with
  |.nil=>.ok .Ob h
  |.yes b off=>(match h.m.get b with|.cells c e .exact=>(Bool.rec (.bad 60) (.ok (.ptr b off) h) (Awp P e (Q4 c) off u))|_=>.bad 61)
  |.no=>.bad 62
 |.bad=>.bad 63
def Arb(P:Program)(t:TypeId):Bool:=match P.underlying t with|some (.interface _)|none=>false|some _=>true
def Rb(t:TypeId)(x:Operand):V2:=λ_ P _ f h=>(Bool.rec (.bad 64) (.ok (.I6 t (ev x f)) h) (Arb P t))
def Jt(fn:Fn)(a c:Array Operand):V2:=λ_ _ _ f h=>match fn with|.yield _=>.bad 65|fn=>.ok (.fn fn (W1 a.toList f) (W1 c.toList f)) h
def Aii(_:TypeId)(r:Option Operand):V2:=λ_ _ _ _ h=>match r with|none=>mk h (.map []) (.map h.nx)|some _=>.bad 66
def Arm(x:AV):Option Nat:=match vI x with|.yes .i64 (.ofNat n)=>some n|_=>none
def H5(t:TypeId)(l c:Operand):V2:=λ_ P _ f h=>
 match Tw P t,Arm (ev l f),Arm (ev c f)with
 |some i,some n,some m=>match I1 P i.e with
  |some z=>(Bool.rec (.bad 68) ((Bool.rec (.bad 67) (mk h (cd (Ade z m) i.e) (.sl h.nx 0 n m i.s true)) (Gj (m*(i.bytes+i.s+1))))) (Nat.ble n m))
  |none=>.bad 69
 |_,_,_=>.bad 70
def Vg(x:AV):Option Nat:=AV.rec (motive_1:=λ_=>Option Nat) (motive_2:=λ_=>PUnit) (none) (λ_=>none) (λ_ n=>Akn n) (λ_=>none) (none) (λ_ _=>none) (none) (λ_ _ _ _ _ _=>none) (none) (λ_=>none) (λ_ _ _ _ _=>none) (none) (λ_ _ _=>none) (none) (λ_ _=>none) (λ_ _=>none) PUnit.unit (λ_ _ _ _=>PUnit.unit) x
def bnd(f:L2)(x:Option Operand)(d:Nat):Option Nat:=Option.rec (some d) (λx=>Vg (ev x f)) x
def Aw1(s:uw):Nat->uw:=List.rec (λ_=>[])
 (λa l b n=>Nat.rec (a::l) (λm _=>b m) n) s
def Aw2(n:Nat):uw->uw:=Nat.rec (λ_=>[])
 (λ_ b l=>List.rec [] (λa l _=>a::b l) l) n
def Ai9(s:uw)(l u:Option Nat)(h:H):OR:=
 match l,u with
 |some l,some u=>(Bool.rec (.bad 71) ((Bool.rec (.bad 71) (.ok (.str (Aw2 (Nat.sub u l) (Aw1 s l))) h) (Nat.ble u (Y2 s)))) (Nat.ble l u))
 |_,_=>.bad 72
def AkE(b off cap a:Nat)(ex:Bool)(l u:Nat)(h:H):OR:=
 (Bool.rec (.bad 74) ((Bool.rec (.bad 74) ((Bool.rec ((Bool.rec ((Bool.rec (.ok (.sl b (Nat.succ off) 0 0 0 false) h) (.ok (.sl b off 0 0 a ex) h) (Nat.beq l 0))) (.ok (.sl b off 0 0 a true) h) (ex))) (.ok (.sl b (off+l*a) (Nat.sub u l) (Nat.sub cap l) a ex) h) (Nat.blt l cap))) (Nat.ble u cap))) (Nat.ble l u))
def Amj(b off cap a l u c:Nat)(h:H):OR:=
 (Bool.rec (.bad 75) ((Bool.rec (.bad 75) ((Bool.rec (.bad 75) (.ok (.sl b ((Bool.rec (off+l*a) (off) (Nat.beq c l))) (Nat.sub u l) (Nat.sub c l) a true) h) (Nat.ble c cap))) (Nat.ble u c))) (Nat.ble l u))
def A4a(hi a:Option Operand):Bool:=match a with|none=>true|some _=>hi.isSome
def G5(t:TypeId)(x:Operand)(lo hi a:Option Operand):V2:=λ_ P _ f h=>
 match Hp P t with
 |.str=>match vS (ev x f),a with
  |.yes s,none=>Ai9 s (bnd f lo 0) (bnd f hi (Y2 s)) h
  |_,_=>.bad 76
 |.sl i=>match vL (ev x f)with
  |.nil=>match bnd f lo 0,bnd f hi 0,bnd f a 0 with
   |some 0,some 0,some 0=>.ok .Bv h
   |_,_,_=>.bad 77
  |.yes b off len cap d ex=>match bnd f lo 0,bnd f hi len,a with
   |some l,some u,none=>(Bool.rec (.bad 78) (AkE b off cap d ex l u h) (Nat.beq d i.s))
   |some l,some u,some m=>match Vg (ev m f)with
    |some c=>(Bool.rec (.bad 78) (Amj b off cap d l u c h) (Nat.beq d i.s))
    |none=>.bad 79
   |_,_,_=>.bad 80
  |.no=>.bad 81
 |.arr n i=>match vP (ev x f),bnd f lo 0,bnd f hi n,a with
  |.yes b off,some l,some u,none=>Amj b off n i.s l u n h
  |_,_,_,_=>.bad 82
 |.bad=>.bad 83
def Aac(t:TypeId)(x:Operand)(lo hi a:Option Operand):V2:=λty P Z f h=>(Bool.rec (.bad 84) (G5 t x lo hi a ty P Z f h) (A4a hi a))
def Xu(P:Program)(t:TypeId)(i:Nat):Option (TypeId × Nat):=
 match P.underlying t with
 |some (.struct a)=>match a[i]? with|some f=>some (f.type,f.offset)|none=>none
 |_=>none
def Wa(P:Program)(t:TypeId)(i:Nat):Option Nat:=
 match Xu P t i with
 |some (u,o)=>match F7 P u with|some (_+1)=>some o|_=>none
 |none=>none
def Bs(x:AV):Nat->H->OR:=AV.rec (motive_1:=λ_=>Nat->H->OR) (motive_2:=λ_=>PUnit) (λ_ _=>.bad 84) (λ_=>λ_ _=>.bad 84) (λ_ _=>λ_ _=>.bad 84) (λ_=>λ_ _=>.bad 84) (λ_ _=>.bad 84) (λb o=>λd h=>.ok (.ptr b (Nat.add o d)) h) (λ_ _=>.bad 84) (λ_ _ _ _ _ _=>λ_ _=>.bad 84) (λ_ _=>.bad 84) (λ_=>λ_ _=>.bad 84) (λ_ _ _ _ _=>λ_ _=>.bad 84) (λ_ _=>.bad 84) (λ_ _ _=>λ_ _=>.bad 84) (λ_ _=>.bad 84) (λ_ _=>λ_ _=>.bad 84) (λ_ _=>λ_ _=>.bad 84) PUnit.unit (λ_ _ _ _=>PUnit.unit) x
def Q9(t:TypeId)(x:Operand)(i:Nat):V2:=λ_ P _ f h=>Option.rec (λ_ _=>.bad 85) (λd x h=>Bs x d h) (Wa P t i) (ev x f) h
def Al4(P:Program)(t:TypeId)(i:Nat):Option (Option (Option Nat) × Nat):=(Xu P t i).map λp=>(Ft P p.1,p.2)
def Ti(t:TypeId)(x:Operand)(i:Nat):V2:=λ_ P _ f h=>
 match vA (ev x f),Al4 P t i with
 |.yes cs,some (i,o)=>Py (Tn i cs o) h
 |_,_=>.bad 86
def iaS(x:AV):Nat->Nat->H->OR:=AV.rec (motive_1:=λ_=>Nat->Nat->H->OR) (motive_2:=λ_=>PUnit) (λ_ _ _=>.bad 87) (λ_=>λ_ _ _=>.bad 87) (λ_ _=>λ_ _ _=>.bad 87) (λ_=>λ_ _ _=>.bad 87) (λ_ _ _=>.bad 87) (λ_ _=>λ_ _ _=>.bad 87) (λ_ _ _=>.bad 87) (λb o l _ _ _=>λn s h=>(Bool.rec (.bad 88) (.ok (.ptr b (Nat.add o (Nat.mul n s))) h) (Nat.blt n l))) (λ_ _ _=>.bad 87) (λ_=>λ_ _ _=>.bad 87) (λ_ _ _ _ _=>λ_ _ _=>.bad 87) (λ_ _ _=>.bad 87) (λ_ _ _=>λ_ _ _=>.bad 87) (λ_ _ _=>.bad 87) (λ_ _=>λ_ _ _=>.bad 87) (λ_ _=>λ_ _ _=>.bad 87) PUnit.unit (λ_ _ _ _=>PUnit.unit) x
def iaA(x:AV):Nat->Nat->Nat->H->OR:=AV.rec (motive_1:=λ_=>Nat->Nat->Nat->H->OR) (motive_2:=λ_=>PUnit) (λ_ _ _ _=>.bad 89) (λ_=>λ_ _ _ _=>.bad 89) (λ_ _=>λ_ _ _ _=>.bad 89) (λ_=>λ_ _ _ _=>.bad 89) (λ_ _ _ _=>.bad 89) (λb o=>λlen n s h=>(Bool.rec (.bad 90) (.ok (.ptr b (Nat.add o (Nat.mul n s))) h) (Nat.blt n len))) (λ_ _ _ _=>.bad 89) (λ_ _ _ _ _ _=>λ_ _ _ _=>.bad 89) (λ_ _ _ _=>.bad 89) (λ_=>λ_ _ _ _=>.bad 89) (λ_ _ _ _ _=>λ_ _ _ _=>.bad 89) (λ_ _ _ _=>.bad 89) (λ_ _ _=>λ_ _ _ _=>.bad 89) (λ_ _ _ _=>.bad 89) (λ_ _=>λ_ _ _ _=>.bad 89) (λ_ _=>λ_ _ _ _=>.bad 89) PUnit.unit (λ_ _ _ _=>PUnit.unit) x
def iaX(i:XI):AV->Option Nat->H->OR:=XI.rec (λ_ _ _=>.bad 91) (λ_ _ _=>.bad 91)
 (λi x n h=>Option.rec (.bad 92) (λn=>iaS x n i.s h) n) (λlen i x n h=>Option.rec (.bad 92) (λn=>iaA x len n i.s h) n) i
def Ra(t:TypeId)(x i:Operand):V2:=λ_ P _ f h=>iaX (Hp P t) (ev x f) (Vg (ev i f)) h
def stl(x:Option uw):Option uw:=Option.rec none (λl=>List.rec none (λ_ t _=>some t) l) x
def shd(x:Option uw):Option Nat:=Option.rec none (λl=>List.rec none (λa _ _=>some a) l) x
def Adh(l:uw)(n:Nat):Option uw:=Nat.rec (some l) (λ_ a=>stl a) n
def AuN(s:uw)(n:Nat):Option Nat:=shd (Adh s n)
def Uv(n:Option Nat)(h:H):OR:=Option.rec (.bad 93) (λn=>.ok (.int .u8 (.ofNat n)) h) n
def ixS(x:AV):Nat->H->OR:=AV.rec (motive_1:=λ_=>Nat->H->OR) (motive_2:=λ_=>PUnit) (λ_ _=>.bad 94) (λ_=>λ_ _=>.bad 94) (λ_ _=>λ_ _=>.bad 94) (λs=>λn h=>Uv (AuN s n) h) (λ_ _=>.bad 94) (λ_ _=>λ_ _=>.bad 94) (λ_ _=>.bad 94) (λ_ _ _ _ _ _=>λ_ _=>.bad 94) (λ_ _=>.bad 94) (λ_=>λ_ _=>.bad 94) (λ_ _ _ _ _=>λ_ _=>.bad 94) (λ_ _=>.bad 94) (λ_ _ _=>λ_ _=>.bad 94) (λ_ _=>.bad 94) (λ_ _=>λ_ _=>.bad 94) (λ_ _=>λ_ _=>.bad 94) PUnit.unit (λ_ _ _ _=>PUnit.unit) x
def Tj(t:TypeId)(x i:Operand):V2:=λ_ P _ f h=>
 match Hp P t,Vg (ev i f)with
 |.str,some n=>ixS (ev x f) n h
 |.arr len a,some n=>match vA (ev x f)with
  |.yes cs=>(Bool.rec (.bad 95) (Py (Hc P a.e cs (n*a.s)) h) (Nat.blt n len))
  |.no=>.bad 96
 |_,_=>.bad 97
def scalar(P:Program)(t:TypeId):Bool:=
 match tk P t with
 |.int|.string|.bool=>true
 |_=>false
def AaA(x:AV):Bool:=match x with|.bool _|.int _ _|.str _=>true|_=>false
def Apt(x y:AV):Bool:=match x,y with
|.bool a,.bool b=>Aju a b
|.int k a,.int c b=>Bool.rec false (ieq a b) (kEq k c)
|.str a,.str b=>Qh a b
|_,_=>false
def Sh:uz->uz->Bool
|[],[]=>true
|x::l,y::m=>Bool.rec false (Sh l m) (Apt x y)
|_,_=>false
def AlK(P:Program)(t:TypeId):Bool:=
 match tk P t with
 |.int|.string|.bool|.struct _|.array _ _ _=>true
 |_=>false
def Fe(P:Program)(t:TypeId)(x:AV):Bool:=
 match tk P t with
 |.int|.string|.bool=>true
 |.struct a=>(match vA x with|.yes cs=>a.all (λp=>scalar P p.1&&(Hc P p.1 cs p.2).isSome)|.no=>false)
 |.array n e s=>(match vA x with|.yes cs=>scalar P e&&(List.range n).all (λi=>(Hc P e cs (i*s)).isSome)|.no=>false)
 |_=>false
def Up(P:Program)(t:TypeId)(x y:AV):Bool:=
 match tk P t with
 |.struct _|.array _ _ _=>(match vA x,vA y with|.yes a,.yes b=>Sh b a|_,_=>false)
 |_=>true
def Gy(P:Program)(t:TypeId)(x y:AV):Option Bool:=
 match aeq P 3 t x y with
 |some true=>(@Bool.rec (λ_=>Option Bool) (none) (some true) (Up P t x y))
 |some false=>some false
 |none=>none
def M1(eq:AV->Option Bool):List (AV × AV)->Option (Option AV)
|[]=>some none
|e::es=>match eq e.1 with
 |some true=>some (some e.2)
 |some false=>M1 eq es
 |none=>none
def Z7(eq:AV->Option Bool)(k v:AV):List (AV × AV)->Option (List (AV × AV))
|[]=>some [(k,v)]
|e::es=>match eq e.1 with
 |some true=>some ((k,v)::es)
 |some false=>match Z7 eq k v es with|some r=>some (e::r)|none=>none
 |none=>none
structure MI where
 kt:TypeId
 z:AV
def AlU(P:Program)(t:TypeId):Option MI:=
 match P.underlying t with
 |some (.map kt et)=>match Ps P et,AlK P kt with|some z,true=>some ⟨kt,z⟩|_,_=>none
 |_=>none
def entries(x:AV)(h:H):Option (List (AV × AV)):=
 match vM x with
 |.nil=>some []
 |.yes r=>(match h.m.get r with|.map es=>some es|_=>none)
 |.no=>none
def Pe(t:TypeId)(x i:Operand)(ok:Bool):V2:=λ_ P _ f h=>
 match AlU P t,entries (ev x f) h with
 |some a,some es=>match (@Bool.rec (λ_=>Option (Option AV)) (none) (M1 (Gy P a.kt (ev i f)) es) (Fe P a.kt (ev i f)))with
  |some (some v)=>.ok ((Bool.rec (v) (.Bj [v,.bool true]) (ok))) h
  |some none=>.ok ((Bool.rec (a.z) (.Bj [a.z,.bool false]) (ok))) h
  |none=>.bad 98
 |_,_=>.bad 99
def E6(t:TypeId)(m k x:Operand):V2:=λ_ P _ f h=>
 match AlU P t,vM (ev m f)with
 |some a,.yes r=>
  (match h.m.get r with
  |.map es=>match (@Bool.rec (λ_=>Option (List (AV × AV))) (none) (Z7 (Gy P a.kt (ev k f)) (ev k f) (ev x f) es) (Fe P a.kt (ev k f)))with|some Y8=>.ok (.Bj []) (h.put r (.map Y8))|none=>.bad 100
  |_=>.bad 101)
 |_,_=>.bad 102
def AkI(P:Program)(t:TypeId):Option AV:=
 match P.underlying t with
 |some (.interface _)|none=>none
 |some _=>Ps P t
def G0(x:Operand)(_ a:TypeId)(ok:Bool):V2:=λ_ P _ f h=>
 match AkI P a,vIf (ev x f)with
 |some z,.nil=>(Bool.rec (.bad 103) (.ok (.Bj [z,.bool false]) h) (ok))
 |some z,.yes t v=>(Bool.rec ((Bool.rec (.bad 104) (.ok (.Bj [z,.bool false]) h) (ok))) (.ok ((Bool.rec (v) (.Bj [v,.bool true]) (ok))) h) (Nat.beq t a))
 |_,_=>.bad 105
def L9(x:AV):Nat->H->OR:=AV.rec (motive_1:=λ_=>Nat->H->OR) (motive_2:=λ_=>PUnit) (λ_ _=>.bad 106) (λ_=>λ_ _=>.bad 106) (λ_ _=>λ_ _=>.bad 106) (λ_=>λ_ _=>.bad 106) (λ_ _=>.bad 106) (λ_ _=>λ_ _=>.bad 106) (λ_ _=>.bad 106) (λ_ _ _ _ _ _=>λ_ _=>.bad 106) (λ_ _=>.bad 106) (λ_=>λ_ _=>.bad 106) (λ_ _ _ _ _=>λ_ _=>.bad 106) (λ_ _=>.bad 106) (λ_ _ _=>λ_ _=>.bad 106) (λ_ _=>.bad 106) (λ_ _=>λ_ _=>.bad 106) (λa _=>λi h=>Py (AcE a i) h) PUnit.unit (λ_ _ _ _=>PUnit.unit) x
def Yi(x:Operand)(i:Nat):V2:=λ_ _ _ f h=>L9 (ev x f) i h
def Bg(P:Program)(f:FuncId):Bool:=match P.funcs[f]? with|some fn=>!(fn.name == "runtime.NumGoroutine")&&fn.body.isSome|none=>false
def Ls(P:Program)(t:TypeId)(name:String):Option FuncId:=
 match P.info? t with
 |some i=>match i.methods.find? (·.name == name)with
  |some m=>match m.path.isEmpty,m.func,P.underlying t with
   |true,some (f,true),some (.pointer _)=>some f
   |true,some (_,false),some (.pointer _)=>none
   |true,some (f,false),some _=>some f
   |_,_,_=>none
  |none=>none
 |none=>none
def Jk:String:=match Extern.AbiNoEscape.rows with|p::_=>p.1|[] => ""
def Mk:String:=match Extern.BytealgIndexByte.rows with|_::p::_=>p.1|_ => ""
def Uk(P:Program)(f:FuncId):Nat:=match P.funcs[f]? with
|some fn=>if fn.body.isSome then 0 else if fn.origin = "" then(if fn.name=Jk then 1 else if fn.name=Mk then 2 else 0)else 0
|none=>0
def Ak9(c:Nat):uw->Nat->Int
|[],_=>.negSucc 0
|a::l,i=>(Bool.rec (Ak9 c l (Nat.succ i)) (.ofNat i) (Nat.beq a c))
def AgK(k:Nat)(args:uz)(h:H):OR:=
 match k,args with
 |1,[x]=>.ok x h
 |2,[s,c]=>(match vS s,Xf c with|.yes s,some n=>.ok (.int .i64 (Ak9 n s 0)) h|_,_=>.bad 107)
 |_,_=>.bad 108
def Aeg(P:Program)(Z:Ac)(f:FuncId)(args:uz)(h:H):OR:=(Bool.rec (AgK (Uk P f) args h) (Z.call f args h) (Bg P f))
def Hn(P:Program)(Z:Ac)(a:AV)(name:String)(args:uz)(h:H):OR:=
 match vIf a with
 |.yes t v=>match Ls P t name with|some f=>Aeg P Z f (v::args) h|none=>.bad 109
 |_=>.bad 110
def M6(P:Program)(Z:Ac)(fn:Fn)(cap args:uz)(h:H):OR:=
 match fn with
 |.func f=>Aeg P Z f (J0 args cap) h
 |.yield l=>Z.round l args h
 |_=>.bad 112
def Hd(h:H)(s:Nat)(x:AV):Option (Nat × uz):=
 match vL x with
 |.nil=>some (0,[])
 |.yes b off len _ _ _=>match h.rd b with|some c=>(Nf c off (len*s)).map λl=>(len,l)|none=>none
 |.no=>match vS x with|.yes t=>(@Bool.rec (λ_=>Option (Nat × uz)) (none) (some (Y2 t,U2 t)) (Nat.beq s 1))|.no=>none
def grow(h:H)(e:TypeId)(s:Nat)(cs:uz)(a:Nat):OR:=
 .ok (.sl (Nat.succ h.nx) 0 a a s false) ((h.new (.Fb 0)).new (.cells cs e (.Gt h.nx)))
def Sf(i:SI)(b off len a:Nat)(new:uz)(h:H):OR:=
 match h.rd b with
 |some c=>match Nf c off (len*i.s)with|some Cf=>grow h i.e i.s (J0 Cf new) a|none=>.bad 113
 |none=>.bad 114
def Ny(i:SI)(b off len d:Nat)(new:uz)(h:H):OR:=
 match h.m.get b with
 |.cells c a (.Gt k)=>match Aj3 (h.m.get k),Nf c off (len*i.s)with
  |some st,some _=>(Bool.rec (.bad 117) ((Bool.rec (.bad 116) ((Bool.rec (.bad 115) (.ok (.sl h.nx off d d i.s false) (((h.put b (.cells c a (.Cf k st))).put k (.Fb st)).new (.cells (J0 c new) a (.Gt k)))) (Nat.beq off 0))) (Nat.beq i.e a))) (Nat.beq (Q4 c) (off+len*i.s)))
  |_,_=>.bad 118
 |_=>.bad 119
def AgN(b off len cap c:Nat)(a:Nat)(ex:Bool)(new:uz)(h:H):OR:=
 List.rec (.ok (.sl b off c cap a ex) h) (λ_ _ _=>RH.rec .bad (λh'=>.ok (.sl b off c cap a ex) h') (h.wr b (off+len*a) new)) new
def Lg(i:SI)(b off len cap a:Nat)(ex:Bool)(n:Nat)(new:uz)(h:H):OR:=
 (Bool.rec ((Bool.rec (Ny i b off len (Nat.add len n) new h) (Sf i b off len (Nat.add len n) new h) (ex))) (AgN b off len cap (Nat.add len n) a ex new h) (Nat.ble (Nat.add len n) cap))
def Xa(P:Program)(st:TypeId)(s x:AV)(h:H):OR:=
 match Tw P st with
 |some i=>match Hd h i.s x with
  |some (n,new)=>match vL s with
   |.nil=>(Bool.rec ((Bool.rec (.bad 120) ((Bool.rec (.bad 120) (grow h i.e i.s new n) (Bm new))) (Gj (n*(i.bytes+1))))) (.ok .Bv h) (Nat.beq n 0))
   |.yes b off len cap a ex=>(Bool.rec (.bad 121) ((Bool.rec (.bad 121) ((Bool.rec (.bad 121) (Lg i b off len cap a ex n new h) (Nat.beq a i.s))) (Bm new))) (Gj ((len+n)*(i.bytes+1))))
   |.no=>.bad 122
  |none=>.bad 123
 |none=>.bad 124
inductive LK where|bad|str|sl|map
def Pw(P:Program)(t:TypeId):LK:=
 match P.underlying t with
 |some .string=>.str
 |some (.slice _)=>.sl
 |some (.map _ _)=>.map
 |_=>.bad
def lnS(x:AV):H->OR:=AV.rec (motive_1:=λ_=>H->OR) (motive_2:=λ_=>PUnit) (λ_=>.bad 125) (λ_=>λ_=>.bad 125) (λ_ _=>λ_=>.bad 125) (λs=>λh=>.ok (.int .i64 (.ofNat (Y2 s))) h) (λ_=>.bad 125) (λ_ _=>λ_=>.bad 125) (λ_=>.bad 125) (λ_ _ _ _ _ _=>λ_=>.bad 125) (λ_=>.bad 125) (λ_=>λ_=>.bad 125) (λ_ _ _ _ _=>λ_=>.bad 125) (λ_=>.bad 125) (λ_ _ _=>λ_=>.bad 125) (λ_=>.bad 125) (λ_ _=>λ_=>.bad 125) (λ_ _=>λ_=>.bad 125) PUnit.unit (λ_ _ _ _=>PUnit.unit) x
def Fo(x:AV):H->OR:=AV.rec (motive_1:=λ_=>H->OR) (motive_2:=λ_=>PUnit) (λ_=>.bad 126) (λ_=>λ_=>.bad 126) (λ_ _=>λ_=>.bad 126) (λ_=>λ_=>.bad 126) (λ_=>.bad 126) (λ_ _=>λ_=>.bad 126) (λh=>.ok (.int .i64 (.ofNat 0)) h) (λ_ _ l _ _ _=>λh=>.ok (.int .i64 (.ofNat l)) h) (λ_=>.bad 126) (λ_=>λ_=>.bad 126) (λ_ _ _ _ _=>λ_=>.bad 126) (λ_=>.bad 126) (λ_ _ _=>λ_=>.bad 126) (λ_=>.bad 126) (λ_ _=>λ_=>.bad 126) (λ_ _=>λ_=>.bad 126) PUnit.unit (λ_ _ _ _=>PUnit.unit) x
def lnM(x:AV)(h:H):OR:=match entries x h with|some es=>.ok (.int .i64 (.ofNat es.length)) h|none=>.bad 127
def lnK(k:LK):AV->H->OR:=LK.rec (λ_ _=>.bad 128) lnS Fo lnM k
def AfO(lt:Bool):IntKind->Int->uz->Option (IntKind × Int)
|k,a,[]=>some (k,a)
|k,a,y::rest=>match vI y with|.yes _ b=>AfO lt k ((Bool.rec (a) (b) ((Bool.rec (ilt a b) (ilt b a) (lt))))) rest|.no=>none
def mm(lt:Bool)(l:uz)(h:H):OR:=
 match l with
 |x::rest=>match vI x with|.yes k n=>(match AfO lt k n rest with|some (k,n)=>.ok (.int k n) h|none=>.bad 129)|.no=>.bad 130
 |[]=>.bad 131
def Ahh(P:Program)(dt:TypeId)(d x:AV)(h:H):OR:=
 match Tw P dt with
 |some i=>match Hd h i.s x with
  |some (n,src)=>match vL d with
   |.nil=>.ok (.int .i64 (.ofNat 0)) h
   |.yes b off len _ a _=>
    match AeG (Nat.min n len*i.s) src with
    |some cs=>(Bool.rec (.bad 132) (RH.rec .bad (λh'=>.ok (.int .i64 (.ofNat (Nat.min n len))) h') (h.wr b off cs)) (Bool.rec false (Bm cs) (Nat.blt 0 a)))
    |none=>.bad 133
   |.no=>.bad 134
  |none=>.bad 135
 |none=>.bad 136
def Ath(x:AV)(h:H):OR:=match vL x with|.nil=>.ok (.int .i64 (.ofNat 0)) h|.yes _ _ _ c _ true=>.ok (.int .i64 (.ofNat c)) h|_=>.bad 137
def sdV(x:AV)(h:H):OR:=match vL x with|.nil=>.ok .Ob h|.yes b off _ c _ _=>(Bool.rec (.ok (.ptr b off) h) (.bad 138) (Nat.beq c 0))|.no=>.bad 139
def usV(P:Program)(t:TypeId)(p n:AV)(h:H):OR:=
 match vP p,Arm n with
 |.nil,some 0=>.ok (.str []) h
 |.yes _ _,some 0=>.ok (.str []) h
 |.yes b off,some n=>(match h.m.get b,P.underlying t with
  |.cells c e (.Gt k),some (.pointer a)=>(match P.underlying e,F7 P e,Nf c off n,Aj3 (h.m.get k)with
   |some (.int .u8),some 1,some cs,some st=>(match Yj cs with
    |some s=>(Bool.rec (.bad 140) ((Bool.rec (.bad 140) ((Bool.rec (.bad 140) (.ok (.str s) ((h.put b (.cells c e (.fz k))).put k (.Fb st))) (Gj n))) (Nat.beq off 0))) (Nat.beq e a))
    |none=>.bad 141)
   |_,_,_,_=>.bad 142)
  |_,_=>.bad 143)
 |_,_=>.bad 144
def Aab(P:Program)(t:TypeId):Bool:=match P.underlying t with|some (.int _)|none=>false|some _=>true
def J8(b:Builtin)(ts:List TypeId)(args:uz)(P:Program)(h:H):OR:=
 match b with
 |.append=>match ts,args with|t::t2::_,[s,x]=>(Bool.rec (.bad 145) (Xa P t s x h) (Aab P t2))|_,_=>.bad 145
 |.len=>match ts,args with|t::_,[x]=>lnK (Pw P t) x h|_,_=>.bad 146
 |.copy=>match ts,args with|t::_,[d,s]=>Ahh P t d s h|_,_=>.bad 147
 |.min=>mm true args h
 |.max=>mm false args h
 |.cap=>match ts,args with|t::_,[x]=>(match Pw P t with|.sl=>Ath x h|_=>.bad 148)|_,_=>.bad 148
 |.unsafeSliceData=>match args with|[x]=>sdV x h|_=>.bad 149
 |.unsafeString=>match ts,args with|[t,_],[p,n]=>usV P t p n h|_,_=>.bad 150
 |_=>.bad 151
def cvV(x:AV):uz->Program->Ac->H->OR:=AV.rec (motive_1:=λ_=>uz->Program->Ac->H->OR) (motive_2:=λ_=>PUnit) (λ_ _ _ _=>.bad 152) (λ_=>λ_ _ _ _=>.bad 152) (λ_ _=>λ_ _ _ _=>.bad 152) (λ_=>λ_ _ _ _=>.bad 152) (λ_ _ _ _=>.bad 152) (λ_ _=>λ_ _ _ _=>.bad 152) (λ_ _ _ _=>.bad 152) (λ_ _ _ _ _ _=>λ_ _ _ _=>.bad 152) (λ_ _ _ _=>.bad 152) (λ_=>λ_ _ _ _=>.bad 152) (λf a c _ _=>λargs P Z h=>M6 P Z f c (J0 a args) h) (λ_ _ _ _=>.bad 152) (λ_ _ _=>λ_ _ _ _=>.bad 152) (λ_ _ _ _=>.bad 152) (λ_ _=>λ_ _ _ _=>.bad 152) (λ_ _=>λ_ _ _ _=>.bad 152) PUnit.unit (λ_ _ _ _=>PUnit.unit) x
abbrev CeT:=List Operand->List TypeId->Program->Ac->L2->H->OR
def A2L(g:Operand):CeT:=λargs _ P Z f h=>cvV (ev g f) (W1 args f) P Z h
def A2K(r:Operand)(name:String):CeT:=λargs _ P Z f h=>Hn P Z (ev r f) name (W1 args f) h
def Br:Nat:=255
def AnS(x:VA)(h:H):OR:=match x with|.yes _=>.ok .B3 h|.no=>.bad 153
def Aa5(b:Builtin):CeT:=match b with
|.recover=>λ_ _ _ _ f h=>AnS (vT (f.get Br)) h
|b=>λargs ts P _ f h=>J8 b ts (W1 args f) P h
def ceD(c:Callee):CeT:=Callee.rec A2L A2K Aa5 c
def A4S(c:Call):V2:=λ_ P Z f h=>ceD c.callee c.args.toList c.argTypes.toList P Z f h
def Yh(n:Nat):V2:=λ_ _ _ _ _=>.bad n
def opD(o:Op):V2:=Op.rec (motive:=λ_=>V2)
 Awr Awr A4U Az1 A9R Tg Gz E6 A4T Az3 (λ_=>Yh 160) (λ_=>Yh 161) Uu AfX AaP Ml (λ_ _=>Yh 162)
 Rb Jt Aii (λ_ _=>Yh 163) H5 Aac Q9 Ti Ra Tj Pe E6 (λ_ _ _=>Yh 164) (λ_ _ _ _=>Yh 165)
 (λ_ _=>Yh 166) (λ_ _=>Yh 167) (λ_=>Yh 168) G0 Yi A4S (λ_=>Yh 169) (λ_=>Yh 170) (λ_=>Yh 171) (λ_ _=>Yh 172) (λ_ _ _=>Yh 173) (λ_ _=>Yh 174) o
inductive RC where
|bad (why:Nat)
|Bt (f:L2) (h:H)
|ext (id:Nat) (f:L2) (h:H)
|ret (f:L2) (h:H)
inductive GS where
|always
|on (t:Nat) (want:Bool)
|bad
def guardOf(ops:Array Oper)(o:Oper):GS:=
 match o.guard with
 |none=>.always
 |some (j,want)=>match (ops[j]?).bind (·.dst)with
  |some t=>.on t want
  |none=>.bad
def Im(d:Option Tmp)(v:AV)(f:L2):L2:=Option.rec f (λt=>f.set t v) d
inductive WT where|yes|no|bad
def Adq(x:AV):Bool->WT:=AV.rec (motive_1:=λ_=>Bool->WT) (motive_2:=λ_=>PUnit) (λ_=>WT.bad) (λb=>λw=>(Bool.rec (WT.no) (WT.yes) (Aju b w))) (λ_ _=>λ_=>WT.no) (λ_=>λ_=>WT.no) (λ_=>WT.no) (λ_ _=>λ_=>WT.no) (λ_=>WT.no) (λ_ _ _ _ _ _=>λ_=>WT.no) (λ_=>WT.no) (λ_=>λ_=>WT.no) (λ_ _ _ _ _=>λ_=>WT.no) (λ_=>WT.no) (λ_ _ _=>λ_=>WT.no) (λ_=>WT.no) (λ_ _=>λ_=>WT.no) (λ_ _=>λ_=>WT.no) PUnit.unit (λ_ _ _ _=>PUnit.unit) x
def Akx(d:Option Tmp)(f:L2)(r:OR):RC:=OR.rec RC.bad (λv h=>RC.Bt (Im d v f) h) r
abbrev ReT:=Option Tmp->TypeId->Program->Ac->L2->H->RC
def Ace(d:Option Tmp)(fn:VF)(ds:VA)(args:uz)(f:L2)(h:H):RC:=
 match fn,ds with
 |.yes (.func k) a cap,.yes ds=>.Bt (Im d (.Bj []) (f.set Br (.Bj (.fn (.func k) (J0 a args) cap::ds)))) h
 |_,_=>.bad 180
def Th(c:Call):ReT:=λd _ _ _ f h=>
 match c.callee with
 |.value g=>Ace d (vF (ev g f)) (vT (f.get Br)) (W1 c.args.toList f) f h
 |_=>.bad 181
def Ie(o:Op):Option Call:=Op.rec (motive:=λ_=>Option Call)
 (λ_=>none) (λ_=>none) (λ_ _ _=>none) (λ_=>none) (λ_ _=>none) (λ_ _=>none) (λ_ _ _=>none) (λ_ _ _ _=>none) (λ_ _=>none) (λ_ _ _=>none) (λ_=>none) (λ_=>none) (λ_=>none) (λ_ _ _ _ _=>none) (λ_ _ _=>none) (λ_ _ _=>none) (λ_ _=>none)
 (λ_ _=>none) (λ_ _ _=>none) (λ_ _=>none) (λ_ _=>none) (λ_ _ _=>none) (λ_ _ _ _ _=>none) (λ_ _ _=>none) (λ_ _ _=>none) (λ_ _ _=>none) (λ_ _ _=>none) (λ_ _ _ _=>none) (λ_ _ _ _=>none) (λ_ _ _=>none) (λ_ _ _ _=>none)
 (λ_ _=>none) (λ_ _=>none) (λ_=>none) (λ_ _ _ _=>none) (λ_ _=>none) (λ_=>none) (λ_=>none) some (λ_=>none) (λ_ _=>none) (λ_ _ _=>none) (λ_ _=>none) o
def op1(o:Oper):ReT:=Option.rec (λop d t P Z f h=>Akx d f (opD op t P Z f h)) (λc _=>Th c) (Ie o.op) o.op
abbrev RuT:=Oper->Program->Ac->L2->H->RC
def Ame:RuT:=λo P Z f h=>op1 o o.dst o.type P Z f h
def AzA:RuT:=λo _ _ f h=>.Bt (Im o.dst (.Bj []) f) h
def Avj:RuT:=λ_ _ _ _ _=>.bad 182
def Amo(w:WT):RuT:=WT.rec Ame AzA Avj w
def AjD(g:GS):RuT:=GS.rec Ame (λt a o P Z f h=>Amo (Adq (f.get t) a) o P Z f h) Avj g
def Fp(ops:Array Oper)(o:Oper):Program->Ac->L2->H->RC:=AjD (guardOf ops o) o
def andThen(k:L2->H->RC)(r:RC):RC:=RC.rec RC.bad k RC.ext RC.ret r
def G3(P:Program)(Z:Ac)(ops:Array Oper)(l:List Oper):L2->H->RC:=
 List.rec RC.Bt (λo _ a f h=>andThen a (Fp ops o P Z f h)) l
def Ka(n:Nat):Nat:=Nat.pow 2 n
def AbE(l:List Operand):Nat:=List.rec 0 (λx _ a=>Nat.lor (Operand.rec Ka (λ_=>0) (λ_=>0) (λ_=>0) x) a) l
def I4(o:Oper):Nat:=match o.dst with|some d=>Ka d|none=>0
def Iz(ops:Array Oper)(o:Oper):Nat:=Nat.lor (AbE o.op.operands.toList) (match guardOf ops o with|.on t _=>Ka t|_=>0)
def Vf(l:uw)(n:Nat):Nat:=(l[n]?).getD 0
def Ez(a:uw):List Edge->Nat
|[]=>0
|e::es=>(Bool.rec (Ez a es) (Nat.lor (Nat.lor (Ka e.on) (Vf a e.on)) (Ez a es)) (Region.binds .any e))
def M4(n:Nat):Bool:=Nat.beq n 0
structure OB where
 bit:Nat
 dst:Nat
 rd:Nat
 df:Bool
def Zk(pr dst rd:Nat)(df:Bool):List OB->Bool
|[]=>true
|a::l=>(Bool.rec (false) (Zk pr dst rd df l) ((Bool.rec (true) ((Bool.rec (false) (Ib (Bool.rec df true a.df)) (M4 (Nat.lor (Nat.land a.dst (Nat.lor dst rd)) (Nat.land dst a.rd))))) (M4 (Nat.land pr a.bit)))))
def AhJ(o:Op):Bool:=match Ie o with|some _=>true|none=>false
def Aiv(ops:Array Oper):List Oper->Nat->uw->List OB->Bool
|[],_,_,_=>true
|o::os,i,acc,a=>(Bool.rec (false) (Aiv ops os (Nat.succ i) (acc++[Ez acc o.after.toList]) (⟨Ka i,I4 o,Iz ops o,AhJ o.op⟩::a)) ((Bool.rec (false) (Zk (Ez acc o.after.toList) (I4 o) (Iz ops o) (AhJ o.op) a) (o.after.toList.all λe=>Ib (Region.binds .any e)||Nat.blt e.on i))))
def Yx(ops:Array Oper):Bool:=Aiv ops ops.toList 0 [] []
inductive RS where|none|blk(b off:Nat)(i:Option (Option Nat))|all
def Bn(i:Option (Option Nat))(x:AV):RS:=match vP x with|.yes b off=>.blk b off i|_=>.none
def Gi(P:Program)(o:Op)(f:L2):RS:=
 match o with
 |.load t a=>Bn (Ft P t) (ev a f)
 |.move _|.assign _|.pick ..|.alloc _|.box ..|.build ..|.buildSlice ..|.nilCheck _|.binOp ..|.unOp ..|.makeInterface ..|.makeFunc ..|.fieldAddr ..|.field ..|.indexAddr ..|.index ..|.typeAssert ..|.extract ..|.slice ..=>.none
 |.call { callee:=.builtin .len,argTypes:=_,args:=#[x] }=>match ev x f with|.map _=>.all|_=>.none
 |_=>.all
def wrote(n:Nat)(l:uw):uw:=List.rec [] (λb _ a=>(Bool.rec (a) (b::a) (Nat.blt b n))) l
structure EF where
 bit:Nat
 pr:Nat
 w:List Nat
 r:RS
 h:H
 h1:H
def Q6(l:uw):Bool:=List.rec true (λ_ _ _=>false) l
def Ve(b:Nat)(l:uw):Bool:=List.rec false (λx _ a=>Bool.rec a true (Nat.beq x b)) l
def B5(o:AO):Option Nat:=match o with|.cells _ _ (.Gt k)|.cells _ _ (.Cf k _)|.cells _ _ (.fz k)=>some k|_=>none
def AbY(w:uw)(k:Option Nat):Bool:=Option.rec true (λk=>Ib (Ve k w)) k
def cellAt(o:AO)(off:Nat)(i:Option (Option Nat)):Option AV:=match o with|.cells cs _ .exact=>Tn i cs off|_=>none
def Beb(b off:Nat)(i:Option (Option Nat))(h a h1:H):Bool:=@decide (∃v,cellAt (h.m.get b) off i=some v/\cellAt (a.m.get b) off i=cellAt (h1.m.get b) off i) (Classical.propDecidable _)
def clear(r:RS):uw->H->H->H->Bool:=RS.rec (λ_ _ _ _=>true)
 (λb off i w h a h1=>(Bool.rec (AbY w (B5 (h.m.get b))) (Beb b off i h a h1) (Ve b w))) (λ_ _ _ _=>false) r
def Ahl(a b:uw):Bool:=List.rec true (λx _ c=>(Bool.rec (c) (false) (Ve x b))) a
def outside(w:uw)(lo hi:Nat):Bool:=List.rec true (λx _ a=>(Bool.rec (a) (false) ((Bool.rec (false) (Nat.blt x hi) (Nat.ble lo x))))) w
def Jo(e a:EF):Bool:=
 (Bool.rec (true) ((Bool.rec ((Bool.rec (false) ((Bool.rec (false) (outside e.w a.h.nx a.h1.nx) (clear a.r e.w a.h e.h e.h1))) (Ahl e.w a.w))) (true) (Nat.beq e.bit a.bit))) (M4 (Nat.lor (Nat.land e.pr a.bit) (Nat.land a.pr e.bit))))
def E2(e:EF)(l:List EF):Bool:=List.rec true (λa _ b=>(Bool.rec (false) (b) (Jo e a))) l
def Iu(all l:List EF):Bool:=List.rec true (λe _ a=>(Bool.rec ((Bool.rec (false) (a) (E2 e all))) (a) (Q6 e.w))) l
def Lh(l:List EF):Bool:=Iu l l
def Ab(h:H):H:=⟨h.m,h.nx,[]⟩
def Be(lg:uw)(h:H):H:=⟨h.m,h.nx,lg⟩
def Akm(x y:uw):uw:=List.rec y (λa _ b=>a::b) x
def En(l:List EF)(lg:uw):uw:=List.rec lg (λe _ a=>Akm e.w a) l
def Acf(lg:uw)(a:List EF)(f:L2)(h:H):RC:=(Bool.rec (.bad 183) (.Bt f (Be (En a lg) h)) (Lh a))
structure DO where
 o:Oper
 bit:Nat
 pr:Nat
def M7:List Oper->Nat->uw->List DO
|[],_,_=>[]
|o::os,i,acc=>⟨o,Ka i,Ez acc o.after.toList⟩::M7 os (Nat.succ i) (acc++[Ez acc o.after.toList])
def Sp(P:Program)(Z:Ac)(ops:Array Oper)(lg:uw)(l:List DO):List EF->L2->H->RC:=
 List.rec (Acf lg)
  (λo _ b c f h=>RC.rec RC.bad (λa h'=>b (⟨o.bit,o.pr,wrote h.nx h'.lg,Gi P o.o.op f,h,h'⟩::c) a h') (λ_ _ _=>.bad 184) (λ_ _=>.bad 184) (Fp ops o.o P Z f (Ab h))) l
def AnB(ops:Array Oper):Bool:=ops.toList.all λo=>Ib (AhJ o.op)
def Gk(P:Program)(Z:Ac)(ops:Array Oper)(f:L2)(h:H):RC:=(Bool.rec (.bad 185) (Sp P Z ops h.lg (M7 ops.toList 0 []) [] f h) (AnB ops))
abbrev Fw:=Program->Ac->L2->H->RC
def Av8:Fw:=λ_ _ f h=>.Bt f h
def Atf(_:Nat)(ops:Array Oper)(draw:Bool):Fw:=Bool.rec (λops P Z f h=>G3 P Z ops ops.toList f h) (λops P Z f h=>Gk P Z ops f h) draw ops
def A7z(_ _:Code)(a b:Fw):Fw:=λP Z f h=>andThen (b P Z) (a P Z f h)
def Al2(x:AV):Fw->Fw->Fw:=AV.rec (motive_1:=λ_=>Fw->Fw->Fw) (motive_2:=λ_=>PUnit) (λ_ _ _ _ _ _=>.bad 186) (λb=>Bool.rec (λ_ y=>y) (λx _=>x) b) (λ_ _=>λ_ _ _ _ _ _=>.bad 186) (λ_=>λ_ _ _ _ _ _=>.bad 186) (λ_ _ _ _ _ _=>.bad 186) (λ_ _=>λ_ _ _ _ _ _=>.bad 186) (λ_ _ _ _ _ _=>.bad 186) (λ_ _ _ _ _ _=>λ_ _ _ _ _ _=>.bad 186) (λ_ _ _ _ _ _=>.bad 186) (λ_=>λ_ _ _ _ _ _=>.bad 186) (λ_ _ _ _ _=>λ_ _ _ _ _ _=>.bad 186) (λ_ _ _ _ _ _=>.bad 186) (λ_ _ _=>λ_ _ _ _ _ _=>.bad 186) (λ_ _ _ _ _ _=>.bad 186) (λ_ _=>λ_ _ _ _ _ _=>.bad 186) (λ_ _=>λ_ _ _ _ _ _=>.bad 186) PUnit.unit (λ_ _ _ _=>PUnit.unit) x
def A2I(c:Operand)(_ _:Code)(a b:Fw):Fw:=λP Z f h=>Al2 (ev c f) a b P Z f h
def inBlock(id:Nat)(r:RC):RC:=RC.rec RC.bad RC.Bt (λi f h=>(Bool.rec (RC.ext i f h) (RC.Bt f h) (Nat.beq i id))) RC.ret r
def AxD(id:Nat)(_:Code)(a:Fw):Fw:=λP Z f h=>inBlock id (a P Z f h)
def Yd(b:Fw)(P:Program)(Z:Ac)(k:Nat):L2->H->RC:=
 Nat.rec (b P Z) (λ_ a f h=>andThen a (a f h)) k
def A2J(_:Code)(a:Fw):Fw:=λP Z f h=>andThen (λ_ _=>.bad 187) (Yd a P Z 20 f h)
def Z4(j:Option Code)(f:L2)(h:H):RC:=
 match j with
 |none=>.Bt f h
 |some .ret=>.ret f h
 |some (.exit id)=>.ext id f h
 |_=>.bad 188
def Mn(f:L2)(l:Nat)(r:OR):RC:=
 match r with
 |.ok _ h=>match h.m.get l with
  |.loop st a fr ps as bd=>(Bool.rec (Z4 a f (h.put l (.loop 3 a fr ps as bd))) (.bad 189) (Nat.beq st 1))
  |_=>.bad 190
 |.bad n=>.bad n
def Yu(P:Program)(Z:Ac)(g:FuncId)(a cap:uz)(ps:uw)(b body:Code)(fr f:L2)(h:H):RC:=
 (Bool.rec (.bad 191) (Mn f h.nx (Z.call g (J0 (J0 a [.fn (.yield h.nx) [] []]) cap) (h.new (.loop 0 none fr ps b body)))) (Bg P g))
def AbV(x:Operand)(b:Array Tmp)(c body:Code)(_ _:Fw):Fw:=λP Z f h=>
 match vF (ev x f),vT (f.get Br)with
 |.yes (.func g) a cap,.yes ds=>Yu P Z g a cap b.toList c body f (f.set Br (.Bj (.map h.nx::ds))) (h.new (.dfr false))
 |_,_=>.bad 192
def exec(c:Code):Fw:=Code.rec Av8 Atf A7z A2I AxD A2J AbV (λid _ _ f h=>.ext id f h) (λ_ a=>a)
 (λ_=>Av8) (λ_ _ _ _ _=>.bad 193) (λ_ _ f h=>.ret f h) (λ_ _ _ _ _=>.bad 194) c
def Eu(l:uz):Nat->L2->L2:=List.rec (λ_ f=>f) (λa _ b n f=>b (Nat.succ n) (f.set n a)) l
def AyY(i:Option (Option Nat))(x:AV)(h:H):Option AV:=
 match vP x with
 |.yes b off=>(match h.rd b with|some c=>Tn i c off|none=>none)
 |_=>none
def Oe(P:Program)(f:L2)(h:H):List ResultVar->Option uz
|[]=>some []
|.tmp t::rs=>match Oe P f h rs with|some l=>some (f.get t::l)|none=>none
|.cell a t::rs=>match AyY (Ft P t) (f.get a) h,Oe P f h rs with|some v,some l=>some (v::l)|_,_=>none
def single(l:uz):AV:=match l with|[v]=>v|a=>.Bj a
def D3(P:Program)(Z:Ac):uz->H->RH
|[],h=>.ok h
|d::ds,h=>match vF d,vM d with
 |.yes (.func g) a cap,_=>(Bool.rec (.bad 195) ((match Z.call g (J0 a cap) h with|.ok _ h'=>D3 P Z ds h'|.bad n=>.bad n)) (Bg P g))
 |_,.yes r=>(match h.m.get r with|.dfr false=>D3 P Z ds (h.put r (.dfr true))|_=>.bad 194)
 |_,_=>.bad 196
def Gg(P:Program)(rs:List ResultVar)(f:L2)(h:H):OR:=match Oe P f h rs with|some l=>.ok (single l) h|none=>.bad 197
def finish(P:Program)(Z:Ac)(rs:List ResultVar)(f:L2)(h:H):OR:=
 match vT (f.get Br)with
 |.yes ds=>RH.rec .bad (λh'=>Gg P rs f h') (D3 P Z ds h)
 |.no=>.bad 198
structure FI where
 body:Code
 nt:Nat
 rs:List ResultVar
def Es(G:Nat)(x:Operand):Bool:=Operand.rec (λt=>Nat.blt t 250) (λ_=>true) (λg=>Nat.blt g G) (λ_=>true) x
def Gl(G nt:Nat)(o:Oper):Bool:=(Bool.rec (false) ((match o.dst with|some d=>Nat.blt d nt|none=>true)) (o.op.operands.toList.all (Es G)))
def codeOk(G nt:Nat)(c:Code):Bool:=Code.rec true (λ_ ops dr=>(Bool.rec (false) ((Bool.rec (true) (Yx ops) (dr))) (ops.toList.all (Gl G nt))))
 (λ_ _ a b=>(Bool.rec (false) (b) (a))) (λc _ _ a b=>(Bool.rec (false) ((Bool.rec (false) (b) (a))) (Es G c))) (λ_ _ a=>a) (λ_ a=>a)
 (λx ps _ _ a b=>(Bool.rec (false) ((Bool.rec (false) ((Bool.rec (false) (b) (a))) (ps.toList.all (λd=>Nat.blt d nt)))) (Es G x))) (λ_=>true) (λ_ a=>a) (λ_=>true) (λ_=>true) true (λ_=>true) c
def Amd(r:ResultVar):Bool:=match r with|.tmp t=>Nat.blt t 250|.cell t _=>Nat.blt t 250
def A3c(G:Nat)(fn:Func):Bool:=match fn.body with|some c=>(Bool.rec (false) ((Bool.rec (false) (codeOk G fn.ntmps c) (fn.results.toList.all Amd))) (Nat.blt fn.ntmps 250))|none=>true
def Mv(P:Program):Bool:=P.funcs.toList.all (A3c P.globals.size)
def Ln(P:Program)(f:FuncId):Option FI:=
 match P.funcs[f]? with
 |some fn=>match fn.body with|some c=>some ⟨c,fn.ntmps,fn.results.toList⟩|none=>none
 |none=>none
def Agk(f:Nat)(r:OR):OR:=OR.rec (λn=>.bad ((Bool.rec (n) (n+10000*(f+1)) (Nat.blt n 1000)))) .ok r
def Az:L2:=L2.new.set Br (.Bj [])
def Aby(P:Program)(Z:Ac)(rs:List ResultVar)(r:RC):OR:=RC.rec OR.bad (finish P Z rs) (λ_ _ _=>.bad 199) (finish P Z rs) r
def AbW(P:Program)(Z:Ac)(f:FuncId)(args:uz)(h:H)(i:FI):OR:=
 (Bool.rec (.bad 200) (Agk f (Aby P Z i.rs (exec i.body P Z (Eu args 0 Az) h))) (Nat.ble (Q4 args) i.nt))
def Fy(P:Program)(Z:Ac)(f:FuncId)(args:uz)(h:H):OR:=Option.rec (.bad 201) (AbW P Z f args h) (Ln P f)
def endRound(l:Nat)(a:Option Code)(h:H):OR:=
 match h.m.get l with
 |.loop _ _ fr ps as bd=>.ok (.bool a.isNone) (h.put l (.loop (match a with|none=>0|some _=>2) a fr ps as bd))
 |_=>.bad 202
def Agg(l:Nat)(r:RC):OR:=RC.rec OR.bad (λ_ h=>endRound l none h) (λid _ h=>endRound l (some (.exit id)) h) (λ_ h=>endRound l (some .ret) h) r
def Uz:uw->uz->L2->Option L2
|[],[],f=>some f
|t::ts,a::as,f=>Uz ts as (f.set t a)
|_,_,_=>none
def Age(P:Program)(Z:Ac)(l:Nat)(body:Code)(f:L2)(h:H):RC:=
 match h.m.get l with
 |.loop 0 a fr ps as bd=>exec body P Z f (h.put l (.loop 1 a fr ps as bd))
 |_=>.bad 203
def Io(P:Program)(Z:Ac)(l:Nat)(args:uz)(h:H):OR:=
 match h.m.get l with
 |.loop _ _ fr ps as bd=>
  match Uz ps args (fr.set Br (.map l))with
  |some f=>Agg l (andThen (Age P Z l bd) (exec as P Z f h))
  |none=>.bad 204
 |_=>.bad 205
def Q7:Ac:=⟨λ_ _ _=>.bad 206,λ_ _ _=>.bad 207⟩
def A2N(P:Program)(d:Nat):Ac:=Nat.rec Q7 (λ_ a=>⟨Fy P a,Io P a⟩) d
end
end Go.Ev
namespace Go.Ev
def AhP l:∀n,AcD l n=if n<=l.length then some (l.drop n)else none:=by intro n;induction n with
|zero=>rfl
|succ n c=>
 have:AcD l (n+1)=ltl (AcD l n):=rfl;rw[this,c];by_cases h:n<=l.length;. rw[Xo h];cases hd:l.drop n with
   |nil=>have b:=Jh List.length hd;simp at b;rw[X2 om];rfl
   |cons a t=>have b:=Jh List.length hd;simp at b;rw[Xo om,show l.drop _=t by rw[<- au,hd];rfl];rfl
 .rw[X2 h,X2 om];rfl
def Ab6 l:∀n,AcE l n=l[n]?:=by
 intro n;have:AcE l n=lhd _:=rfl;rw[this,AhP];by_cases h:n<=l.length
 .rw[Xo h];have h0:(l.drop n)[0]?=l[n]?:=by simp
  rw[<- h0];cases l.drop n<;>rfl
 .rw[X2 h,ak om];rfl
def AhX:∀n l,AeG n l=if n<=l.length then some (l.take n)else none:=by intro n;induction n with
|zero=>intro l;rfl
|succ n b=>intro l;cases l with
 |nil=>rfl
 |cons a l=>
  have:AeG (n+1) (a::l)=Option.rec _ _ (AeG n l):=rfl;rw[this,b l];by_cases h:n<=l.length;. simp[h]
  simp[*]
def E5 l off n:Nf l off n=if off+n<=l.length then some ((l.drop off).take n)else none:=by
 have:Nf l off n=@Option.rec _ (λ_=>Option _) _ ..:=rfl;rw[this,AhP];by_cases h:off<=l.length;. simp[h,Jr];rw[AhX];grind
 .simp[h,Fl];grind
def Js{l}{off n}{r}(h:Nf l off n=some r):off+n<=l.length/\r=(l.drop off).take n/\r.length=n:=by rw[E5]at h;grind
def AhT b:∀l,AcF b l=if b.length<=l.length then some (b++l.drop b.length)else none:=by induction b with
|nil=>intro l;rfl
|cons v b c=>intro l;cases l with
 |nil=>rfl
 |cons a l=>have:AcF (v::b) (a::l)=Option.rec _ _ (AcF _ l):=rfl;rw[this,c l];by_cases h:b.length<=l.length<;>simp[h]
def Kh(b:uz)(l:uz):∀off,Ng l b off=if off+b.length<=l.length then some (l.take off++b++l.drop (off+b.length))else none:=by induction l with
|nil=>intro off;cases off with
 |zero=>have:Ng [] b 0=AcF b []:=rfl;rw[this,AhT];simp
 |succ n=>have:Ng [] b (n+1)=none:=rfl;grind
|cons a l c=>intro off;cases off with
 |zero=>have:Ng (a::l) b 0=AcF b (a::l):=rfl;rw[this,AhT];simp
 |succ n=>
  have:Ng (a::l) b (n+1)=Option.rec _ _ (Ng l _ n):=rfl;rw[this,c n];by_cases h:n+b.length<=l.length
  .have h':n+1+b.length<=(a::l).length:=by grind
   rw[Xo h,Xo h'];grind
  .have h':¬ n+1+b.length<=(a::l).length:=by grind
   rw[X2 h,X2 h']
def Ns{l a}{off}{r}(h:Ng l a off=some r):
 off+a.length<=l.length/\r=l.take off++a++l.drop (off+a.length):=by rw[Kh]at h;grind
def Mi{l a}{off}{r}(h:Ng l a off=some r):r.length=l.length:=by obtain⟨h1,rfl⟩:=Ns h;grind
def AhU{l a}{off}{r}(h:Ng l a off=some r) i:
 r[i]?=if off<=i/\i<off+a.length then a[i-off]? else l[i]?:=by
 obtain⟨h1,rfl⟩:=Ns h;by_cases h2:i<off;. grind
 grind
def Dl x y:J0 x y=x++y:=by induction x with
|nil=>rfl
|cons a x b=>show a::J0 x y=_;grind
def Gh x:Q4 x=x.length:=by induction x with
|nil=>rfl
|cons a x b=>show Nat.succ (Q4 x)=_;grind
def AfG x:Bm x=true ↔ ∀a∈x,Ge a=true:=by induction x with
|nil=>simp;rfl
|cons a x b=>
 have:Bm (a::x)=Bool.rec _ (Bm x) _:=rfl;rw[this];cases h:Ge a;. grind
 grind
def AuL x y:AzJ x y=x++y:=by induction x with
|nil=>rfl
|cons a x b=>show a::AzJ x y=_;grind
def AfT x y:Akm x y=x++y:=by induction x with
|nil=>rfl
|cons a x b=>show a::Akm x y=_;grind
def Rf x:Y2 x=x.length:=by induction x with
|nil=>rfl
|cons a x b=>show Nat.succ (Y2 x)=_;grind
def Aof l:∀n,Adh l n=if n<=l.length then some (l.drop n)else none:=by intro n;induction n with
|zero=>rfl
|succ n c=>
 have:Adh l (n+1)=stl (Adh l n):=rfl;rw[this,c];by_cases h:n<=l.length;. rw[Xo h];cases hd:l.drop n with
   |nil=>have b:=Jh List.length hd;simp at b;rw[X2 om];rfl
   |cons a t=>have b:=Jh List.length hd;simp at b;rw[Xo om,show l.drop _=t by rw[<- au,hd];rfl];rfl
 .rw[X2 h,X2 om];rfl
def AuO l:∀n,AuN l n=l[n]?:=by
 intro n;have:AuN l n=shd _:=rfl;rw[this,Aof];by_cases h:n<=l.length
 .rw[Xo h];have h0:(l.drop n)[0]?=l[n]?:=by simp
  rw[<- h0];cases l.drop n<;>rfl
 .rw[X2 h,ak om];rfl
def Asc l:∀n,Aw1 l n=l.drop n:=by induction l with
|nil=>intro n;simp;rfl
|cons a l b=>intro n;cases n with
 |zero=>rfl
 |succ n=>rw[List.drop_succ_cons,<- b n];rfl
def Asg:∀n l,Aw2 n l=l.take n:=by intro n;induction n with
|zero=>intro l;rfl
|succ n b=>intro l;cases l with
 |nil=>rfl
 |cons a l=>rw[List.take_succ_cons,<- b l];rfl
def Q1 a b:ieq a b=(a == b):=by
 cases a<;>cases b;. rename_i m n;show Nat.beq m n=_;rw[C7];simp_all;omega
 .rfl
 .rfl
 .rename_i m n;show Nat.beq m n=_;rw[C7];simp
def Il a b:ilt a b=decide (a<b):=by
 cases a<;>cases b;. rename_i m n;show Nat.blt m n=_;rw[C7];simp
 .rfl
 .show true=_;grind
 .rename_i m n;show Nat.blt n m=_;rw[C7];simp_all;omega
def Kb b:Ib b=!b:=by cases b<;>rfl
def Afn a b:Aju a b=(a == b):=by cases a<;>cases b<;>rfl
def Q3 a b:kEq a b=true ↔ a=b:=by
 constructor;. intro h;cases a<;>cases b<;>first|rfl|(exact absurd h (by decide +kernel))
 .rintro rfl;cases a<;>rfl
def Qi a:∀b,Qh a b=(a == b):=by induction a with
|nil=>intro b;cases b<;>rfl
|cons x a c=>intro b;cases b with
 |nil=>rfl
 |cons y b=>
  have:Qh (x::a) (y::b)=Bool.rec _ (Qh a b) _:=rfl;rw[this,c b];show _=(x == y&&a == b);have e:Nat.beq x y=(x == y):=by rw[C7];simp
  rw[e];cases x == y<;>rfl
def Zu{k}{n}(h:fits k n=true):k.min<=n/\n<=k.max:=by
 unfold fits at h;rw[Il,Il]at h;by_cases h1:n<k.min;. simp_all
 .by_cases h2:k.max<n;simp_all;omega
def Agq(k:IntKind) n(h:k.min<=n/\n<=k.max):k.wrap n=n:=by cases k<;>simp[IntKind.wrap,IntKind.min,IntKind.max,IntKind.bits,IntKind.signed]at *<;>omega
def Ub k n:E1 k n=k.wrap n:=by
 unfold E1;cases h:fits k n;. rfl
 .exact(Agq k n (Zu h)).symm
def AmB:∀n m:Fin 16,Xl n.1=Xl m.1->n=m:=by decide +kernel
def Atq:∀n m:Fin 8,V8 n.1=V8 m.1->n=m:=by decide +kernel
def Ahk{n m}(hn:n<16)(a:m<16)(h:n≠m):Xl n≠Xl m:=
 λe=>h (Jh Fin.val (AmB ⟨n,hn⟩ ⟨m,a⟩ e))
def Zp{n m}(hn:n<8)(a:m<8)(h:n≠m):V8 n≠V8 m:=
 λe=>h (Jh Fin.val (Atq ⟨n,hn⟩ ⟨m,a⟩ e))
def L2.Dh t u v(f:L2)(c:t<256)(b:u<256):(f.set t v).get u=if u=t then v else f.get u:=by
 have e1:∀n,Nat.div n _=n/16:=λ_=>rfl;have a:∀n,Nat.mod n _=n%16:=λ_=>rfl;unfold L2.set L2.get;rw[L2.G7];simp[e1,a];by_cases h:u/16=t/16
 .rw[Xo (by grind),L1.G7];by_cases h2:u%16=t%16;. grind
  .rw[X2 (Ahk om om h2),X2 om,h]
 .rw[X2 (Ahk om om h),X2 om]
def L2.Xw t:L2.new.get t=.Bj []:=by unfold L2.get L2.new;rw[L2.G6,L1.G6]
class Ii where
 n:Nat
def Bq[Ii]:Nat:=Ii.n
instance A97:Ii:=⟨1000000000000000000⟩
def K6.Dh(m:K6)(i j:Nat)(v:AO)(hi:i<262144)(hj:j<262144):(m.set i v).get j=if j=i then v else m.get j:=by
 have e1:∀n d,Nat.div n d=n/d:=λ_ _=>rfl;have f:∀n d,Nat.mod n d=n%d:=λ_ _=>rfl;unfold K6.set K6.get;simp only[e1,f];rw[K6.G7];by_cases a:j/32768=i/32768
 .rw[Xo (by rw[a]),K5.G7];by_cases b:j/4096%8=i/4096%8
  .rw[Xo (by rw[b]),K4.G7];by_cases c:j/512%8=i/512%8
   .rw[Xo (by rw[c]),K3.G7];by_cases e:j/64%8=i/64%8
    .rw[Xo (by rw[e]),K2.G7];by_cases h2:j/8%8=i/8%8
     .rw[Xo (by rw[h2]),K1.G7];by_cases h1:j%8=i%8;. rw[Xo (by rw[h1]),Xo om]
      .rw[X2 (Zp om om h1),X2 om,h2,e,c,b,a]
     .rw[X2 (Zp om om h2),X2 om,e,c,b,a]
    .rw[X2 (Zp om om e),X2 om,c,b,a]
   .rw[X2 (Zp om om c),X2 om,b,a]
  .rw[X2 (Zp om om b),X2 om,a]
 .rw[X2 (Zp om om a),X2 om]
def K6.Xw i:K6.new.get i=.none:=by unfold K6.get K6.new;rw[K6.G6,K5.G6,K4.G6,K3.G6,K2.G6,K1.G6]
def KM.N5(m:KM) i j v:(m.set i v).get j=if j=i then v else m.get j:=by
 have hb:∀n,Nat.blt n 262144=decide (n<262144):=λn=>by cases a:Nat.blt n _ with
  |true=>simp_all
  |false=>
   have:¬ n<262144:=λb=>by rw[show Nat.blt n _=true by simpa using b]at a;grind
   simp_all
 unfold KM.set KM.get;rw[hb i,hb j];by_cases h1:i<262144
 .rw[Ws h1];by_cases h2:j<262144;. rw[Ws h2];exact K6.Dh _ i j v h1 h2
  .rw[Yg h2,X2 om]
 .rw[Yg h1];by_cases h2:j<262144;. simp_all;omega
  .by_cases c:j=i;. simp[*]
   .have:Nat.beq j i=false:=by cases a:Nat.beq j i with
     |false=>rfl
     |true=>simp_all
    simp_all
def KM.Dh[Ii](m:KM) i j v(_:i<Bq)(_:j<Bq):(m.set i v).get j=if j=i then v else m.get j:=KM.N5 m i j v
def KM.Xw i:KM.new.get i=.none:=by
 unfold KM.get KM.new;cases Nat.blt i _;. rfl
 .exact K6.Xw i
def Ata{x y}(h:Apt x y=true):x=y/\AaA x=true:=by
 unfold Apt at h;split at h;. rw[Afn]at h;exact⟨by grind,rfl⟩
 .rename_i k a d b;cases c:kEq k d with
  |false=>simp_all
  |true=>rw[c]at h;have h':=h;rw[Q1]at h';have:=(Q3 k _).1 c;exact⟨by grind,rfl⟩
 .rw[Qi]at h;exact⟨by grind,rfl⟩
 grind
def Xd:∀{l m},Sh l m=true->l=m/\l.all AaA=true:=by intro l;induction l with
|nil=>intro m h;cases m with|nil=>simp|cons y m=>cases h
|cons x l a=>intro m h;cases m with
 |nil=>cases h
 |cons y m=>have h0:@Bool.rec (λ_=>Bool) _ ..=true:=h;cases h1:Apt x y with
  |false=>simp_all
  |true=>rw[h1]at h0;obtain⟨rfl,b⟩:=Ata h1;grind
structure SE where
 c:Nat
 N:Nat
 k:Option Nat
abbrev Dx:=Nat->Option SE
inductive Au(σ:Dx):AV->Value->Prop where
|top (v:Value):Au σ .top v
|bool (b:Bool):Au σ (.bool b) (.bool b)
|int (k:IntKind) (n:Int):Au σ (.int k n) (.int k n)
|str (s:ByteArray):Au σ (.str (bytesOf s)) (.string s)
|Ob:Au σ .Ob (.pointer none)
|ptr (b off:Nat) (e:SE) (h:σ b=some e):Au σ (.ptr b off) (.pointer (some ⟨e.c,off,none⟩))
|Bv:Au σ .Bv (.slice none 0 0)
|sl (b off len cap sz:Nat) (ex:Bool) (e:SE) (cc:Nat) (h:σ b=some e) (h1:len<=cap) (h2:cap<=cc) (h3:ex=true->cc=cap) (h4:ex=false->off+cc*sz<=e.N):
 Au σ (.sl b off len cap sz ex) (.slice (some ⟨e.c,off,none⟩) len cc)
|slw (b off:Nat) (e:SE) (h:σ b=some e) (a:Addr) (cc:Nat):Au σ (.sl b (off+1) 0 0 0 false) (.slice (some a) 0 cc)
|Td:Au σ .Td (.map none)
|map (r:Nat) (e:SE) (h:σ r=some e):Au σ (.map r) (.map (some e.c))
|fn (f:Fn) (as cs:List AV) (as' D7:Array Value) (hf:∀l,f≠.yield l)
 (ha:as.length=as'.toList.length) (ha':∀(i:Nat) (x:AV) (y:Value),as[i]?=some x->as'.toList[i]?=some y->Au σ x y)
 (hc:cs.length=D7.toList.length) (Wh:∀(i:Nat) (x:AV) (y:Value),cs[i]?=some x->D7.toList[i]?=some y->Au σ x y):
 Au σ (.fn f as cs) (.func f as' D7)
|yld (l:Nat) (e:SE) (h:σ l=some e):Au σ (.fn (.yield l) [] []) (.func (.yield e.c) #[] #[])
|Iy:Au σ .Iy .nilFunc
|I6 (t:TypeId) (v:AV) (v':Value) (h:Au σ v v'):Au σ (.I6 t v) (.iface t v')
|B3:Au σ .B3 .nilIface
|agg (cs:List AV) (D7:Array Value) (hl:cs.length=D7.toList.length) (h:∀(i:Nat) (x:AV) (y:Value),cs[i]?=some x->D7.toList[i]?=some y->Au σ x y):
 Au σ (.agg cs) (.agg D7)
|Bj (cs:List AV) (D7:Array Value) (hl:cs.length=D7.toList.length) (h:∀(i:Nat) (x:AV) (y:Value),cs[i]?=some x->D7.toList[i]?=some y->Au σ x y):
 Au σ (.Bj cs) (.tuple D7)
def Bk(σ:Dx)(l:uz)(a:List Value):Prop:=
 l.length=a.length/\∀(i:Nat) (x:AV) (y:Value),l[i]?=some x->a[i]?=some y->Au σ x y
def Qq(σ a:Dx):Prop:=∀b e,σ b=some e->a b=some e
def Qq.refl σ:Qq σ σ:=λ_ _ h=>h
def Qq.trans{a b c}(h:Qq a b)(h':Qq b c):Qq a c:=λx e d=>h' x e (h x e d)
def Au.mono{σ j}(d:Qq σ j){x}{v}(h:Au σ x v):Au j x v:=by induction h with
|top v=>exact .top v
|bool b=>exact .bool b
|int k n=>exact .int k n
|str s=>exact .str s
|Ob=>exact .Ob
|ptr b off e h=>exact .ptr b _ e (d _ _ h)
|Bv=>exact .Bv
|sl b off len cap A ex e p h h1 h2 u q=>exact .sl b _ _ _ _ _ e _ (d _ _ h) h1 h2 u q
|slw b off e h a p=>exact .slw b _ e (d _ _ h) a _
|Td=>exact .Td
|map r e h=>exact .map r e (d _ _ h)
|fn f as cs o D7 m ha y w B z i=>exact .fn f _ _ _ _ m ha z w i
|yld l e h=>exact .yld l e (d _ _ h)
|Iy=>exact .Iy
|I6 t v v' h c=>exact .I6 t v _ c
|B3=>exact .B3
|agg cs D7 g h c=>exact .agg _ _ g c
|Bj cs D7 g h c=>exact .Bj _ _ g c
def Bk.mono{σ b}(c:Qq σ b){l}{a}(h:Bk σ l a):Bk b l a:=
 ⟨h.1,λi x y d hy=>(h.2 i x y d hy).mono c⟩
def Bk.nil σ:Bk σ [] []:=⟨rfl,λi x y a _=>by grind⟩
def Bk.cons{σ}{x}{y}{l}{a}(h:Au σ x y)(b:Bk σ l a):Bk σ (x::l) (y::a):=by refine⟨by simp[b.1],λi u v d c=>?_⟩;cases i with
|zero=>grind
|succ i=>exact b.2 i u v d c
def Bk.F8{σ}{x}{l}{a}(h:Bk σ (x::l) a):∃y b,a=y::b/\Au σ x y/\Bk σ l b:=by cases a with
|nil=>have:=h.1;grind
|cons y b=>refine⟨y,_,rfl,h.2 0 x y rfl rfl,by have:=h.1;grind,λi u v d c=>h.2 (i+1) u v (by simp_all) (by grind)⟩
def Bk.Rt{σ}{a}(h:Bk σ [] a):a=[]:=by have:=h.1;grind
def Bk.append{σ}{l m}{a b}(h:Bk σ l a)(h':Bk σ m b):Bk σ (l++m) (a++b):=by induction l generalizing a with
|nil=>have:=h.Rt;grind
|cons x l c=>obtain⟨y,f,rfl,d,e⟩:=h.F8;exact .cons d (c e)
def Bk.get{σ}{l}{a}(h:Bk σ l a){i:Nat}{x}(b:l[i]?=some x):∃y,a[i]?=some y/\Au σ x y:=by
 have hi:i<a.length:=by have:=h.1;grind
 exact⟨a[i],Yq _,h.2 i x _ b (Yq _)⟩
def Bk.take{σ}{l}{a}(h:Bk σ l a) n:Bk σ (l.take n) (a.take n):=by
 refine⟨by simp[h.1],λi x y b hy=>?_⟩;rw[cy]at b hy;split at b;. rename_i c;rw[Xo c]at hy;exact h.2 i x y b hy
 grind
def Bk.drop{σ}{l}{a}(h:Bk σ l a) n:Bk σ (l.drop n) (a.drop n):=by refine⟨by simp[h.1],λi x y b hy=>?_⟩;rw[da]at b hy;exact h.2 _ x y b hy
inductive Amq(σ:Dx):AV->Deferred->Prop where
|fn (g:FuncId) (as cs:List AV) (as' D7:Array Value) (ha:Bk σ as as'.toList) (hc:Bk σ cs D7.toList):
 Amq σ (.fn (.func g) as cs) { target:=.fn (.func g) D7,args:=as' }
|mk (r:Nat) (e:SE) (h:σ r=some e):Amq σ (.map r) { target:=.collected e.c,args:=#[] }
inductive Afd(σ:Dx):AV->List Deferred->Prop where
|nil:Afd σ (.Bj []) []
|cons (x:AV) (l:List AV) (d:Deferred) (ds:List Deferred) (h:Amq σ x d) (hl:Afd σ (.Bj l) ds):Afd σ (.Bj (x::l)) (d::ds)
|round (l:Nat) (e:SE) (h:σ l=some e):Afd σ (.map l) []
def Amq.mono{σ b}(a:Qq σ b){x}{d}(h:Amq σ x d):Amq b x d:=by cases h with
|fn g as cs f D7 ha c=>exact .fn g _ _ _ _ (ha.mono a) (c.mono a)
|mk r e h=>exact .mk r e (a _ _ h)
def Afd.mono{σ b}(a:Qq σ b){x}{d}(h:Afd σ x d):Afd b x d:=by induction h with
|nil=>exact .nil
|cons x l d ds h f c=>exact .cons x l d _ (h.mono a) c
|round l e h=>exact .round l e (a _ _ h)
structure Pt(σ:Dx)(nt:Nat)(f:L2)(a:Act):Prop where
 size:a.tmps.size=nt
 slot:∀t,t<250->Au σ (f.get t) (a.tmps.getD t undef)
 defers:Afd σ (f.get Br) a.defers
def Pt.mono{σ c}(b:Qq σ c){nt}{f}{a}(h:Pt σ nt f a):Pt c nt f a:=
 ⟨h.size,λt d=>(h.slot t d).mono b,h.defers.mono b⟩
def Ahd:CK->Option Nat
|.exact=>none
|.fz k=>some k
|.Gt k=>some k
|.Cf k _=>some k
def Adp(g:Nat->AO):CK->Prop
|.Cf k st=>g k=.Fb st
|_=>True
def A5v:CK->Prop
|.exact=>True
|.Gt _=>True
|_=>False
def Akf:Nat->LoopState
|0=>.ready
|1=>.busy
|2=>.done
|_=>.exhausted
def Gr(G:Nat)(σ:Dx)(g:Nat->AO)(e:SE)(w:World):AO->Prop
|.none=>True
|.Fb _=>e.k=none
|.cells l t k=>e.k=Ahd k/\(Adp g k->∃(arr:Array Value) (lo hi:Nat),w.heap[e.c]?=some (.cells arr t (lo,hi))/\arr.size=e.N/\l.length<=e.N /\
 (∀(i:Nat) (x:AV) (y:Value),l[i]?=some x->arr[i]?=some y->Au σ x y)/\(k=.exact->l.length=e.N)/\(A5v k->∀i,i<e.N->¬ (lo<=i/\i<hi)))
|.map es=>e.k=none/\∃(Y8:Array MapEntry) (a:Nat),w.heap[e.c]?=some (.map Y8 a)/\es.length=Y8.toList.length /\
 ∀(i:Nat) (x:AV × AV) (y:MapEntry),es[i]?=some x->Y8.toList[i]?=some y->Au σ x.1 y.key/\Au σ x.2 y.val
|.loop st b fr ps as bd=>e.k=none/\∃r:Loop,w.heap[e.c]?=some (.loop r)/\r.state=Akf st/\r.pending=b/\(∀t,t<250->Au σ (fr.get t) (r.tmps.getD t undef)) /\
 r.params.toList=ps/\r.assign=as/\r.body=bd/\r.tmps.size<250/\codeOk G r.tmps.size as=true/\codeOk G r.tmps.size bd=true/\∀d∈ps,d<r.tmps.size
|.dfr taken=>e.k=none/\w.heap[e.c]?=some (.deferred (if taken then none else some []))
def Gr.congr{G}{σ u}{g v}{e}{w w'}{o}(d:Qq σ u)(b:w'.heap[e.c]?=w.heap[e.c]?)
 (hg:∀l t k st,o=.cells l t (.Cf k st)->v k=.Fb st->g k=.Fb st) (h:Gr G σ g e w o):Gr G u v e w' o:=by cases o with
 |none=>trivial
 |Fb n=>exact h
 |cells l t k=>
  refine⟨h.1,λz=>?_⟩;have j:Adp g k:=by cases k with
   |Cf k st=>exact hg l t k _ rfl z
   |_=>trivial
  obtain⟨arr,lo,hi,h1,h2,a,p,q⟩:=h.2 j;exact⟨_,_,_,b.trans h1,h2,a,λi x y f hy=>(p i x y f hy).mono d,q⟩
 |map es=>obtain⟨m,Y8,s,h1,h2,a⟩:=h;exact⟨m,_,_,b.trans h1,h2,λi x y f hy=>⟨(a i x y f hy).1.mono d,(a i x y f hy).2.mono d⟩⟩
 |loop st B fr ps as bd=>obtain⟨m,r,h1,h2,a,p,q⟩:=h;exact⟨m,r,b.trans h1,h2,a,λt A=>(p t A).mono d,q⟩
 |dfr taken=>exact⟨h.1,b.trans h.2⟩
variable [Ii]
structure SOk(σ:Dx)(w:World):Prop where
 inj:∀b b' e e',σ b=some e->σ b'=some e'->e.c=e'.c->b=b'\/(e.k=e'.k/\e.k≠none)
 rng:∀b e,σ b=some e->e.c<w.heap.size
 low:∀b e,σ b=some e->b<Bq
def V1(G:Nat)(σ:Dx)(g:Nat->AO)(w:World):Prop:=∀b e,σ b=some e->Gr G σ g e w (g b)
def Vm(G:Nat)(σ:Dx):Prop:=∀g,g<G->∃e,σ g=some e/\e.c=g
def Ej:AO->Option Nat
|.cells _ _ k=>Ahd k
|_=>none
def M2:AO->Option Nat
|.cells _ _ (.Gt k)=>some k
|.cells _ _ (.fz k)=>some k
|_=>none
structure Om(h:H):Prop where
 top:h.nx<=Bq
 Rm:∀b,h.nx<=b->b<Bq->h.m.get b=.none
 N3:∀b k,b<Bq->Ej (h.m.get b)=some k->k<h.nx/\∃n,h.m.get k=.Fb n
 Gt:∀b b' k,b<Bq->b'<Bq->M2 (h.m.get b)=some k->M2 (h.m.get b')=some k->b=b'
 Tx:∀b l t k st n,b<Bq->h.m.get b=.cells l t (.Cf k st)->h.m.get k=.Fb n->st<=n
 len:∀b b' l t k st l' t',b<Bq->b'<Bq->h.m.get b=.cells l t (.Cf k st)->h.m.get b'=.cells l' t' (.Gt k)->l.length<=l'.length
structure J6(h h':H)(nw:List Nat):Prop where
 lg:h'.lg=nw++h.lg
 nx:h.nx<=h'.nx
 low:∀b∈nw,b<h'.nx
 By:∀b,b<Bq->b<h.nx->b ∉ nw->h'.m.get b=h.m.get b
 N3:∀b∈nw,∀k,b<h.nx->Ej (h.m.get b)=some k->k∈nw
 Vh:∀b k,h.nx<=b->b<h'.nx->b<Bq->Ej (h'.m.get b)=some k->k∈nw\/h.nx<=k
 same:∀b k,b<h.nx->b<Bq->Ej (h'.m.get b)=some k->Ej (h.m.get b)=some k
 inv:Om h'
 live:∀b∈nw,b<h.nx->b<Bq->h.m.get b≠.none
structure Oz(σ σ':Dx)(h h':H)(w w':World)(nw:List Nat):Prop where
 le:Qq σ σ'
 fresh:∀b e,σ b=none->σ' b=some e->h.nx<=b/\b<h'.nx
 ok:SOk σ' w'
 grow:w.heap.size<=w'.heap.size
 frame:∀c,c<w.heap.size->(∀b∈nw,∀e,σ b=some e->e.c≠c)->w'.heap[c]?=w.heap[c]?
 Vh:∀b e,σ b=none->σ' b=some e->w.heap.size<=e.c\/∃b0∈nw,∃e0,σ b0=some e0/\e0.c=e.c
 io:w'.os=w.os/\w'.output=w.output
def J6.refl{h}(hi:Om h):J6 h h []:=
 ⟨rfl,Ye _,λb hb=>by grind,λ_ _ _ _=>rfl,λb hb=>by grind,λb k h1 h2=>absurd h2 om,λ_ _ _ _ a=>a,hi,λb hb=>by cases hb⟩
def J6.trans{h h1 h2:H}{n1 n2:uw}(a:J6 h h1 n1)(b:J6 h1 h2 n2)(m:h2.nx<=Bq):J6 h h2 (n2++n1):=by
 have e1:=a.nx;have n:=b.nx;refine⟨by rw[b.lg,a.lg,Wq],by omega,?_,?_,?_,?_,?_,b.inv,?_⟩
 .intro x g;rcases T2.1 g with g|g;. exact b.low x g
  .have:=a.low x g;omega
 .intro x f c d;rw[T2,not_or]at d;rw[b.By x f om d.1,a.By x f c d.2]
 .intro x g k c d;by_cases e:x∈n1;. exact T2.2 (.inr (a.N3 x e k c d))
  .have i:=(T2.1 g).resolve_right e;refine T2.2 (.inl (b.N3 x i k om ?_));rw[a.By x om c e];omega
 .intro x k f c d e;by_cases l:x<h1.nx;. rcases a.Vh x k f l d (b.same x k l d e)with j|j;simp_all;omega
  .rcases b.Vh x k om c d e with j|j;simp_all;omega
 .intro x k f c d;exact a.same x k f c (b.same x k om c d)
 .intro x g f c;by_cases e:x∈n1;. exact a.live x e f c
  .have i:=(T2.1 g).resolve_right e;have:=b.live x i om c;rwa[a.By x c f e]at this
def Oz.refl{σ}{h}{w}(a:SOk σ w):Oz σ σ h h w w []:=
 ⟨Qq.refl _,λb e h1 h2=>by grind,a,Ye _,λ_ _ _=>rfl,λb e h1 h2=>by grind,⟨rfl,rfl⟩⟩
def Oz.trans{σ j q:Dx}{h h1 h2:H}{w w1 w2:World}{n1 n2:uw}(a:Oz σ j h h1 w w1 n1)(b:Oz j q h1 h2 w1 w2 n2)(e1:h.nx<=h1.nx)(v:h1.nx<=h2.nx):
 Oz σ q h h2 w w2 (n2++n1):=by
 refine⟨a.le.trans b.le,?_,b.ok,Xy a.grow b.grow,?_,?_,⟨b.io.1.trans a.io.1,b.io.2.trans a.io.2⟩⟩;. intro x e i f;cases d:j x with
   |none=>have:=b.fresh x e d f;omega
   |some g=>have:=a.fresh x g i d;omega
 .intro c i f;have g1:=a.frame c i (λx p e n=>f x (T2.2 (.inr p)) e n);have g2:=b.frame c (by have:=a.grow;omega) (λx p e n y=>?_);. rw[g2,g1]
  .cases d:σ x with
   |some g=>have:=a.le x g d;grind
   |none=>
    rcases a.Vh x e d n with k|⟨b0,r,l,m,o⟩;. omega
    grind
 .intro x e i f;cases d:j x with
  |some g=>
   have:=b.le x g d;rw[f]at this;cases this;rcases a.Vh x e i d with k|⟨b0,r,l,m,o⟩;. exact .inl k
   grind
  |none=>
   rcases b.Vh x e d f with k|⟨b0,r,l,m,o⟩;. exact .inl (by have:=a.grow;omega)
   .cases h9:σ b0 with
    |some s=>have:=a.le b0 s h9;grind
    |none=>
     rcases a.Vh b0 l h9 m with k|⟨b1,t,e1,u,z⟩;. exact .inl om
     grind
def Out(G:Nat)(σ:Dx)(h:H)(w:World)(a:Dx)(h':H)(w':World):Prop:=
 ∃nw,J6 h h' nw/\Oz σ a h h' w w' nw/\V1 G a h'.m.get w'
def Out.refl{G}{σ}{h}{w}(hi:Om h)(a:SOk σ w)(b:V1 G σ h.m.get w):Out G σ h w σ h w:=
 ⟨_,J6.refl hi,Oz.refl a,b⟩
def Out.trans{G}{σ d c}{h h1 h2}{w w1 w2}(a:Out G σ h w d h1 w1)(b:Out G d h1 w1 c h2 w2)(f:h2.nx<=Bq):Out G σ h w c h2 w2:=by obtain⟨n1,a1,a2,_⟩:=a;obtain⟨n2,b1,b2,e⟩:=b;exact⟨_,a1.trans b1 f,a2.trans b2 a1.nx b1.nx,e⟩
end Go.Ev
