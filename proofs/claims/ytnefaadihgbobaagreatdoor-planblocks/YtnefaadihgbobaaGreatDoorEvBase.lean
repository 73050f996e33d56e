/- The abstract values and the tries of the evaluator: definitions and their laws, no program in sight. -/
import GoSem.Dispatch
namespace Go.Ev

inductive AV where
  | top
  | bool (b : Bool)
  | int (k : IntKind) (n : Int)
  | str (s : List Nat)
  | nptr
  | ptr (b off : Nat)
  | nsl
  | sl (b off len cap sz : Nat) (ex : Bool)
  | nmap
  | map (r : Nat)
  | fn (f : Fn) (first cap : List AV)
  | nfn
  | ifc (t : TypeId) (v : AV)
  | nifc
  | agg (cs : List AV)
  | tup (vs : List AV)

inductive CK where
  | exact
  | fz (cls : Nat)
  | tip (cls : Nat)
  | old (cls stamp : Nat)

inductive D8 where
  | d0 | d1 | d2 | d3 | d4 | d5 | d6 | d7
inductive D16 where
  | d0 | d1 | d2 | d3 | d4 | d5 | d6 | d7 | d8 | d9 | d10 | d11 | d12 | d13 | d14 | d15

noncomputable def eg15 (_ : Nat) : D16 := .d15
noncomputable def eg14 (n : Nat) : D16 := Nat.rec (motive := fun _ => D16) .d14 (fun m _ => eg15 m) n
noncomputable def eg13 (n : Nat) : D16 := Nat.rec (motive := fun _ => D16) .d13 (fun m _ => eg14 m) n
noncomputable def eg12 (n : Nat) : D16 := Nat.rec (motive := fun _ => D16) .d12 (fun m _ => eg13 m) n
noncomputable def eg11 (n : Nat) : D16 := Nat.rec (motive := fun _ => D16) .d11 (fun m _ => eg12 m) n
noncomputable def eg10 (n : Nat) : D16 := Nat.rec (motive := fun _ => D16) .d10 (fun m _ => eg11 m) n
noncomputable def eg9 (n : Nat) : D16 := Nat.rec (motive := fun _ => D16) .d9 (fun m _ => eg10 m) n
noncomputable def eg8 (n : Nat) : D16 := Nat.rec (motive := fun _ => D16) .d8 (fun m _ => eg9 m) n
noncomputable def eg7 (n : Nat) : D16 := Nat.rec (motive := fun _ => D16) .d7 (fun m _ => eg8 m) n
noncomputable def eg6 (n : Nat) : D16 := Nat.rec (motive := fun _ => D16) .d6 (fun m _ => eg7 m) n
noncomputable def eg5 (n : Nat) : D16 := Nat.rec (motive := fun _ => D16) .d5 (fun m _ => eg6 m) n
noncomputable def eg4 (n : Nat) : D16 := Nat.rec (motive := fun _ => D16) .d4 (fun m _ => eg5 m) n
noncomputable def eg3 (n : Nat) : D16 := Nat.rec (motive := fun _ => D16) .d3 (fun m _ => eg4 m) n
noncomputable def eg2 (n : Nat) : D16 := Nat.rec (motive := fun _ => D16) .d2 (fun m _ => eg3 m) n
noncomputable def eg1 (n : Nat) : D16 := Nat.rec (motive := fun _ => D16) .d1 (fun m _ => eg2 m) n
noncomputable def eg0 (n : Nat) : D16 := Nat.rec (motive := fun _ => D16) .d0 (fun m _ => eg1 m) n
noncomputable abbrev dig16 : Nat → D16 := eg0
noncomputable def dg7 (_ : Nat) : D8 := .d7
noncomputable def dg6 (n : Nat) : D8 := Nat.rec (motive := fun _ => D8) .d6 (fun m _ => dg7 m) n
noncomputable def dg5 (n : Nat) : D8 := Nat.rec (motive := fun _ => D8) .d5 (fun m _ => dg6 m) n
noncomputable def dg4 (n : Nat) : D8 := Nat.rec (motive := fun _ => D8) .d4 (fun m _ => dg5 m) n
noncomputable def dg3 (n : Nat) : D8 := Nat.rec (motive := fun _ => D8) .d3 (fun m _ => dg4 m) n
noncomputable def dg2 (n : Nat) : D8 := Nat.rec (motive := fun _ => D8) .d2 (fun m _ => dg3 m) n
noncomputable def dg1 (n : Nat) : D8 := Nat.rec (motive := fun _ => D8) .d1 (fun m _ => dg2 m) n
noncomputable def dg0 (n : Nat) : D8 := Nat.rec (motive := fun _ => D8) .d0 (fun m _ => dg1 m) n
noncomputable abbrev dig : Nat → D8 := dg0
instance : DecidableEq D8 := fun a b => by cases a <;> cases b <;> first | exact isTrue rfl | exact isFalse (fun h => by cases h)
instance : DecidableEq D16 := fun a b => by cases a <;> cases b <;> first | exact isTrue rfl | exact isFalse (fun h => by cases h)
structure L1 where
  (a0 a1 a2 a3 a4 a5 a6 a7 a8 a9 a10 a11 a12 a13 a14 a15 : AV)
noncomputable def L1.sel (d : D16) : L1 → AV := D16.rec (motive := fun _ => L1 → AV) L1.a0 L1.a1 L1.a2 L1.a3 L1.a4 L1.a5 L1.a6 L1.a7 L1.a8 L1.a9 L1.a10 L1.a11 L1.a12 L1.a13 L1.a14 L1.a15 d
noncomputable def L1.u0 (s : L1) : AV → L1 := L1.rec (motive := fun _ => AV → L1) (fun _ a1 a2 a3 a4 a5 a6 a7 a8 a9 a10 a11 a12 a13 a14 a15 v => ⟨v, a1, a2, a3, a4, a5, a6, a7, a8, a9, a10, a11, a12, a13, a14, a15⟩) s
noncomputable def L1.u1 (s : L1) : AV → L1 := L1.rec (motive := fun _ => AV → L1) (fun a0 _ a2 a3 a4 a5 a6 a7 a8 a9 a10 a11 a12 a13 a14 a15 v => ⟨a0, v, a2, a3, a4, a5, a6, a7, a8, a9, a10, a11, a12, a13, a14, a15⟩) s
noncomputable def L1.u2 (s : L1) : AV → L1 := L1.rec (motive := fun _ => AV → L1) (fun a0 a1 _ a3 a4 a5 a6 a7 a8 a9 a10 a11 a12 a13 a14 a15 v => ⟨a0, a1, v, a3, a4, a5, a6, a7, a8, a9, a10, a11, a12, a13, a14, a15⟩) s
noncomputable def L1.u3 (s : L1) : AV → L1 := L1.rec (motive := fun _ => AV → L1) (fun a0 a1 a2 _ a4 a5 a6 a7 a8 a9 a10 a11 a12 a13 a14 a15 v => ⟨a0, a1, a2, v, a4, a5, a6, a7, a8, a9, a10, a11, a12, a13, a14, a15⟩) s
noncomputable def L1.u4 (s : L1) : AV → L1 := L1.rec (motive := fun _ => AV → L1) (fun a0 a1 a2 a3 _ a5 a6 a7 a8 a9 a10 a11 a12 a13 a14 a15 v => ⟨a0, a1, a2, a3, v, a5, a6, a7, a8, a9, a10, a11, a12, a13, a14, a15⟩) s
noncomputable def L1.u5 (s : L1) : AV → L1 := L1.rec (motive := fun _ => AV → L1) (fun a0 a1 a2 a3 a4 _ a6 a7 a8 a9 a10 a11 a12 a13 a14 a15 v => ⟨a0, a1, a2, a3, a4, v, a6, a7, a8, a9, a10, a11, a12, a13, a14, a15⟩) s
noncomputable def L1.u6 (s : L1) : AV → L1 := L1.rec (motive := fun _ => AV → L1) (fun a0 a1 a2 a3 a4 a5 _ a7 a8 a9 a10 a11 a12 a13 a14 a15 v => ⟨a0, a1, a2, a3, a4, a5, v, a7, a8, a9, a10, a11, a12, a13, a14, a15⟩) s
noncomputable def L1.u7 (s : L1) : AV → L1 := L1.rec (motive := fun _ => AV → L1) (fun a0 a1 a2 a3 a4 a5 a6 _ a8 a9 a10 a11 a12 a13 a14 a15 v => ⟨a0, a1, a2, a3, a4, a5, a6, v, a8, a9, a10, a11, a12, a13, a14, a15⟩) s
noncomputable def L1.u8 (s : L1) : AV → L1 := L1.rec (motive := fun _ => AV → L1) (fun a0 a1 a2 a3 a4 a5 a6 a7 _ a9 a10 a11 a12 a13 a14 a15 v => ⟨a0, a1, a2, a3, a4, a5, a6, a7, v, a9, a10, a11, a12, a13, a14, a15⟩) s
noncomputable def L1.u9 (s : L1) : AV → L1 := L1.rec (motive := fun _ => AV → L1) (fun a0 a1 a2 a3 a4 a5 a6 a7 a8 _ a10 a11 a12 a13 a14 a15 v => ⟨a0, a1, a2, a3, a4, a5, a6, a7, a8, v, a10, a11, a12, a13, a14, a15⟩) s
noncomputable def L1.u10 (s : L1) : AV → L1 := L1.rec (motive := fun _ => AV → L1) (fun a0 a1 a2 a3 a4 a5 a6 a7 a8 a9 _ a11 a12 a13 a14 a15 v => ⟨a0, a1, a2, a3, a4, a5, a6, a7, a8, a9, v, a11, a12, a13, a14, a15⟩) s
noncomputable def L1.u11 (s : L1) : AV → L1 := L1.rec (motive := fun _ => AV → L1) (fun a0 a1 a2 a3 a4 a5 a6 a7 a8 a9 a10 _ a12 a13 a14 a15 v => ⟨a0, a1, a2, a3, a4, a5, a6, a7, a8, a9, a10, v, a12, a13, a14, a15⟩) s
noncomputable def L1.u12 (s : L1) : AV → L1 := L1.rec (motive := fun _ => AV → L1) (fun a0 a1 a2 a3 a4 a5 a6 a7 a8 a9 a10 a11 _ a13 a14 a15 v => ⟨a0, a1, a2, a3, a4, a5, a6, a7, a8, a9, a10, a11, v, a13, a14, a15⟩) s
noncomputable def L1.u13 (s : L1) : AV → L1 := L1.rec (motive := fun _ => AV → L1) (fun a0 a1 a2 a3 a4 a5 a6 a7 a8 a9 a10 a11 a12 _ a14 a15 v => ⟨a0, a1, a2, a3, a4, a5, a6, a7, a8, a9, a10, a11, a12, v, a14, a15⟩) s
noncomputable def L1.u14 (s : L1) : AV → L1 := L1.rec (motive := fun _ => AV → L1) (fun a0 a1 a2 a3 a4 a5 a6 a7 a8 a9 a10 a11 a12 a13 _ a15 v => ⟨a0, a1, a2, a3, a4, a5, a6, a7, a8, a9, a10, a11, a12, a13, v, a15⟩) s
noncomputable def L1.u15 (s : L1) : AV → L1 := L1.rec (motive := fun _ => AV → L1) (fun a0 a1 a2 a3 a4 a5 a6 a7 a8 a9 a10 a11 a12 a13 a14 _ v => ⟨a0, a1, a2, a3, a4, a5, a6, a7, a8, a9, a10, a11, a12, a13, a14, v⟩) s
noncomputable def L1.upd (d : D16) : L1 → AV → L1 := D16.rec (motive := fun _ => L1 → AV → L1) L1.u0 L1.u1 L1.u2 L1.u3 L1.u4 L1.u5 L1.u6 L1.u7 L1.u8 L1.u9 L1.u10 L1.u11 L1.u12 L1.u13 L1.u14 L1.u15 d
def L1.all (x : AV) : L1 := ⟨x, x, x, x, x, x, x, x, x, x, x, x, x, x, x, x⟩
theorem L1.sel_upd (d e : D16) (s : L1) (v : AV) : L1.sel d (L1.upd e s v) = if d = e then v else L1.sel d s := by cases d <;> cases e <;> rfl
theorem L1.sel_all (d : D16) (x : AV) : L1.sel d (L1.all x) = x := by cases d <;> rfl
structure L2 where
  (a0 a1 a2 a3 a4 a5 a6 a7 a8 a9 a10 a11 a12 a13 a14 a15 : L1)
noncomputable def L2.sel (d : D16) : L2 → L1 := D16.rec (motive := fun _ => L2 → L1) L2.a0 L2.a1 L2.a2 L2.a3 L2.a4 L2.a5 L2.a6 L2.a7 L2.a8 L2.a9 L2.a10 L2.a11 L2.a12 L2.a13 L2.a14 L2.a15 d
noncomputable def L2.u0 (s : L2) : L1 → L2 := L2.rec (motive := fun _ => L1 → L2) (fun _ a1 a2 a3 a4 a5 a6 a7 a8 a9 a10 a11 a12 a13 a14 a15 v => ⟨v, a1, a2, a3, a4, a5, a6, a7, a8, a9, a10, a11, a12, a13, a14, a15⟩) s
noncomputable def L2.u1 (s : L2) : L1 → L2 := L2.rec (motive := fun _ => L1 → L2) (fun a0 _ a2 a3 a4 a5 a6 a7 a8 a9 a10 a11 a12 a13 a14 a15 v => ⟨a0, v, a2, a3, a4, a5, a6, a7, a8, a9, a10, a11, a12, a13, a14, a15⟩) s
noncomputable def L2.u2 (s : L2) : L1 → L2 := L2.rec (motive := fun _ => L1 → L2) (fun a0 a1 _ a3 a4 a5 a6 a7 a8 a9 a10 a11 a12 a13 a14 a15 v => ⟨a0, a1, v, a3, a4, a5, a6, a7, a8, a9, a10, a11, a12, a13, a14, a15⟩) s
noncomputable def L2.u3 (s : L2) : L1 → L2 := L2.rec (motive := fun _ => L1 → L2) (fun a0 a1 a2 _ a4 a5 a6 a7 a8 a9 a10 a11 a12 a13 a14 a15 v => ⟨a0, a1, a2, v, a4, a5, a6, a7, a8, a9, a10, a11, a12, a13, a14, a15⟩) s
noncomputable def L2.u4 (s : L2) : L1 → L2 := L2.rec (motive := fun _ => L1 → L2) (fun a0 a1 a2 a3 _ a5 a6 a7 a8 a9 a10 a11 a12 a13 a14 a15 v => ⟨a0, a1, a2, a3, v, a5, a6, a7, a8, a9, a10, a11, a12, a13, a14, a15⟩) s
noncomputable def L2.u5 (s : L2) : L1 → L2 := L2.rec (motive := fun _ => L1 → L2) (fun a0 a1 a2 a3 a4 _ a6 a7 a8 a9 a10 a11 a12 a13 a14 a15 v => ⟨a0, a1, a2, a3, a4, v, a6, a7, a8, a9, a10, a11, a12, a13, a14, a15⟩) s
noncomputable def L2.u6 (s : L2) : L1 → L2 := L2.rec (motive := fun _ => L1 → L2) (fun a0 a1 a2 a3 a4 a5 _ a7 a8 a9 a10 a11 a12 a13 a14 a15 v => ⟨a0, a1, a2, a3, a4, a5, v, a7, a8, a9, a10, a11, a12, a13, a14, a15⟩) s
noncomputable def L2.u7 (s : L2) : L1 → L2 := L2.rec (motive := fun _ => L1 → L2) (fun a0 a1 a2 a3 a4 a5 a6 _ a8 a9 a10 a11 a12 a13 a14 a15 v => ⟨a0, a1, a2, a3, a4, a5, a6, v, a8, a9, a10, a11, a12, a13, a14, a15⟩) s
noncomputable def L2.u8 (s : L2) : L1 → L2 := L2.rec (motive := fun _ => L1 → L2) (fun a0 a1 a2 a3 a4 a5 a6 a7 _ a9 a10 a11 a12 a13 a14 a15 v => ⟨a0, a1, a2, a3, a4, a5, a6, a7, v, a9, a10, a11, a12, a13, a14, a15⟩) s
noncomputable def L2.u9 (s : L2) : L1 → L2 := L2.rec (motive := fun _ => L1 → L2) (fun a0 a1 a2 a3 a4 a5 a6 a7 a8 _ a10 a11 a12 a13 a14 a15 v => ⟨a0, a1, a2, a3, a4, a5, a6, a7, a8, v, a10, a11, a12, a13, a14, a15⟩) s
noncomputable def L2.u10 (s : L2) : L1 → L2 := L2.rec (motive := fun _ => L1 → L2) (fun a0 a1 a2 a3 a4 a5 a6 a7 a8 a9 _ a11 a12 a13 a14 a15 v => ⟨a0, a1, a2, a3, a4, a5, a6, a7, a8, a9, v, a11, a12, a13, a14, a15⟩) s
noncomputable def L2.u11 (s : L2) : L1 → L2 := L2.rec (motive := fun _ => L1 → L2) (fun a0 a1 a2 a3 a4 a5 a6 a7 a8 a9 a10 _ a12 a13 a14 a15 v => ⟨a0, a1, a2, a3, a4, a5, a6, a7, a8, a9, a10, v, a12, a13, a14, a15⟩) s
noncomputable def L2.u12 (s : L2) : L1 → L2 := L2.rec (motive := fun _ => L1 → L2) (fun a0 a1 a2 a3 a4 a5 a6 a7 a8 a9 a10 a11 _ a13 a14 a15 v => ⟨a0, a1, a2, a3, a4, a5, a6, a7, a8, a9, a10, a11, v, a13, a14, a15⟩) s
noncomputable def L2.u13 (s : L2) : L1 → L2 := L2.rec (motive := fun _ => L1 → L2) (fun a0 a1 a2 a3 a4 a5 a6 a7 a8 a9 a10 a11 a12 _ a14 a15 v => ⟨a0, a1, a2, a3, a4, a5, a6, a7, a8, a9, a10, a11, a12, v, a14, a15⟩) s
noncomputable def L2.u14 (s : L2) : L1 → L2 := L2.rec (motive := fun _ => L1 → L2) (fun a0 a1 a2 a3 a4 a5 a6 a7 a8 a9 a10 a11 a12 a13 _ a15 v => ⟨a0, a1, a2, a3, a4, a5, a6, a7, a8, a9, a10, a11, a12, a13, v, a15⟩) s
noncomputable def L2.u15 (s : L2) : L1 → L2 := L2.rec (motive := fun _ => L1 → L2) (fun a0 a1 a2 a3 a4 a5 a6 a7 a8 a9 a10 a11 a12 a13 a14 _ v => ⟨a0, a1, a2, a3, a4, a5, a6, a7, a8, a9, a10, a11, a12, a13, a14, v⟩) s
noncomputable def L2.upd (d : D16) : L2 → L1 → L2 := D16.rec (motive := fun _ => L2 → L1 → L2) L2.u0 L2.u1 L2.u2 L2.u3 L2.u4 L2.u5 L2.u6 L2.u7 L2.u8 L2.u9 L2.u10 L2.u11 L2.u12 L2.u13 L2.u14 L2.u15 d
def L2.all (x : L1) : L2 := ⟨x, x, x, x, x, x, x, x, x, x, x, x, x, x, x, x⟩
theorem L2.sel_upd (d e : D16) (s : L2) (v : L1) : L2.sel d (L2.upd e s v) = if d = e then v else L2.sel d s := by cases d <;> cases e <;> rfl
theorem L2.sel_all (d : D16) (x : L1) : L2.sel d (L2.all x) = x := by cases d <;> rfl

/-- a range-over-function loop: 0 ready, 1 busy, 2 done, 3 exhausted -/
inductive AO where
  | none
  | cells (c : List AV) (elem : TypeId) (k : CK)
  | map (es : List (AV × AV))
  | ctr (n : Nat)
  | loop (st : Nat) (pend : Option Code) (fr : L2) (params : List Nat) (assign body : Code)
  | dfr (taken : Bool)

structure K1 where
  (a0 a1 a2 a3 a4 a5 a6 a7 : AO)
noncomputable def K1.sel (d : D8) : K1 → AO := D8.rec (motive := fun _ => K1 → AO) K1.a0 K1.a1 K1.a2 K1.a3 K1.a4 K1.a5 K1.a6 K1.a7 d
noncomputable def K1.u0 (s : K1) : AO → K1 := K1.rec (motive := fun _ => AO → K1) (fun _ a1 a2 a3 a4 a5 a6 a7 v => ⟨v, a1, a2, a3, a4, a5, a6, a7⟩) s
noncomputable def K1.u1 (s : K1) : AO → K1 := K1.rec (motive := fun _ => AO → K1) (fun a0 _ a2 a3 a4 a5 a6 a7 v => ⟨a0, v, a2, a3, a4, a5, a6, a7⟩) s
noncomputable def K1.u2 (s : K1) : AO → K1 := K1.rec (motive := fun _ => AO → K1) (fun a0 a1 _ a3 a4 a5 a6 a7 v => ⟨a0, a1, v, a3, a4, a5, a6, a7⟩) s
noncomputable def K1.u3 (s : K1) : AO → K1 := K1.rec (motive := fun _ => AO → K1) (fun a0 a1 a2 _ a4 a5 a6 a7 v => ⟨a0, a1, a2, v, a4, a5, a6, a7⟩) s
noncomputable def K1.u4 (s : K1) : AO → K1 := K1.rec (motive := fun _ => AO → K1) (fun a0 a1 a2 a3 _ a5 a6 a7 v => ⟨a0, a1, a2, a3, v, a5, a6, a7⟩) s
noncomputable def K1.u5 (s : K1) : AO → K1 := K1.rec (motive := fun _ => AO → K1) (fun a0 a1 a2 a3 a4 _ a6 a7 v => ⟨a0, a1, a2, a3, a4, v, a6, a7⟩) s
noncomputable def K1.u6 (s : K1) : AO → K1 := K1.rec (motive := fun _ => AO → K1) (fun a0 a1 a2 a3 a4 a5 _ a7 v => ⟨a0, a1, a2, a3, a4, a5, v, a7⟩) s
noncomputable def K1.u7 (s : K1) : AO → K1 := K1.rec (motive := fun _ => AO → K1) (fun a0 a1 a2 a3 a4 a5 a6 _ v => ⟨a0, a1, a2, a3, a4, a5, a6, v⟩) s
noncomputable def K1.upd (d : D8) : K1 → AO → K1 := D8.rec (motive := fun _ => K1 → AO → K1) K1.u0 K1.u1 K1.u2 K1.u3 K1.u4 K1.u5 K1.u6 K1.u7 d
def K1.all (x : AO) : K1 := ⟨x, x, x, x, x, x, x, x⟩
theorem K1.sel_upd (d e : D8) (s : K1) (v : AO) : K1.sel d (K1.upd e s v) = if d = e then v else K1.sel d s := by cases d <;> cases e <;> rfl
theorem K1.sel_all (d : D8) (x : AO) : K1.sel d (K1.all x) = x := by cases d <;> rfl
structure K2 where
  (a0 a1 a2 a3 a4 a5 a6 a7 : K1)
noncomputable def K2.sel (d : D8) : K2 → K1 := D8.rec (motive := fun _ => K2 → K1) K2.a0 K2.a1 K2.a2 K2.a3 K2.a4 K2.a5 K2.a6 K2.a7 d
noncomputable def K2.u0 (s : K2) : K1 → K2 := K2.rec (motive := fun _ => K1 → K2) (fun _ a1 a2 a3 a4 a5 a6 a7 v => ⟨v, a1, a2, a3, a4, a5, a6, a7⟩) s
noncomputable def K2.u1 (s : K2) : K1 → K2 := K2.rec (motive := fun _ => K1 → K2) (fun a0 _ a2 a3 a4 a5 a6 a7 v => ⟨a0, v, a2, a3, a4, a5, a6, a7⟩) s
noncomputable def K2.u2 (s : K2) : K1 → K2 := K2.rec (motive := fun _ => K1 → K2) (fun a0 a1 _ a3 a4 a5 a6 a7 v => ⟨a0, a1, v, a3, a4, a5, a6, a7⟩) s
noncomputable def K2.u3 (s : K2) : K1 → K2 := K2.rec (motive := fun _ => K1 → K2) (fun a0 a1 a2 _ a4 a5 a6 a7 v => ⟨a0, a1, a2, v, a4, a5, a6, a7⟩) s
noncomputable def K2.u4 (s : K2) : K1 → K2 := K2.rec (motive := fun _ => K1 → K2) (fun a0 a1 a2 a3 _ a5 a6 a7 v => ⟨a0, a1, a2, a3, v, a5, a6, a7⟩) s
noncomputable def K2.u5 (s : K2) : K1 → K2 := K2.rec (motive := fun _ => K1 → K2) (fun a0 a1 a2 a3 a4 _ a6 a7 v => ⟨a0, a1, a2, a3, a4, v, a6, a7⟩) s
noncomputable def K2.u6 (s : K2) : K1 → K2 := K2.rec (motive := fun _ => K1 → K2) (fun a0 a1 a2 a3 a4 a5 _ a7 v => ⟨a0, a1, a2, a3, a4, a5, v, a7⟩) s
noncomputable def K2.u7 (s : K2) : K1 → K2 := K2.rec (motive := fun _ => K1 → K2) (fun a0 a1 a2 a3 a4 a5 a6 _ v => ⟨a0, a1, a2, a3, a4, a5, a6, v⟩) s
noncomputable def K2.upd (d : D8) : K2 → K1 → K2 := D8.rec (motive := fun _ => K2 → K1 → K2) K2.u0 K2.u1 K2.u2 K2.u3 K2.u4 K2.u5 K2.u6 K2.u7 d
def K2.all (x : K1) : K2 := ⟨x, x, x, x, x, x, x, x⟩
theorem K2.sel_upd (d e : D8) (s : K2) (v : K1) : K2.sel d (K2.upd e s v) = if d = e then v else K2.sel d s := by cases d <;> cases e <;> rfl
theorem K2.sel_all (d : D8) (x : K1) : K2.sel d (K2.all x) = x := by cases d <;> rfl
structure K3 where
  (a0 a1 a2 a3 a4 a5 a6 a7 : K2)
noncomputable def K3.sel (d : D8) : K3 → K2 := D8.rec (motive := fun _ => K3 → K2) K3.a0 K3.a1 K3.a2 K3.a3 K3.a4 K3.a5 K3.a6 K3.a7 d
noncomputable def K3.u0 (s : K3) : K2 → K3 := K3.rec (motive := fun _ => K2 → K3) (fun _ a1 a2 a3 a4 a5 a6 a7 v => ⟨v, a1, a2, a3, a4, a5, a6, a7⟩) s
noncomputable def K3.u1 (s : K3) : K2 → K3 := K3.rec (motive := fun _ => K2 → K3) (fun a0 _ a2 a3 a4 a5 a6 a7 v => ⟨a0, v, a2, a3, a4, a5, a6, a7⟩) s
noncomputable def K3.u2 (s : K3) : K2 → K3 := K3.rec (motive := fun _ => K2 → K3) (fun a0 a1 _ a3 a4 a5 a6 a7 v => ⟨a0, a1, v, a3, a4, a5, a6, a7⟩) s
noncomputable def K3.u3 (s : K3) : K2 → K3 := K3.rec (motive := fun _ => K2 → K3) (fun a0 a1 a2 _ a4 a5 a6 a7 v => ⟨a0, a1, a2, v, a4, a5, a6, a7⟩) s
noncomputable def K3.u4 (s : K3) : K2 → K3 := K3.rec (motive := fun _ => K2 → K3) (fun a0 a1 a2 a3 _ a5 a6 a7 v => ⟨a0, a1, a2, a3, v, a5, a6, a7⟩) s
noncomputable def K3.u5 (s : K3) : K2 → K3 := K3.rec (motive := fun _ => K2 → K3) (fun a0 a1 a2 a3 a4 _ a6 a7 v => ⟨a0, a1, a2, a3, a4, v, a6, a7⟩) s
noncomputable def K3.u6 (s : K3) : K2 → K3 := K3.rec (motive := fun _ => K2 → K3) (fun a0 a1 a2 a3 a4 a5 _ a7 v => ⟨a0, a1, a2, a3, a4, a5, v, a7⟩) s
noncomputable def K3.u7 (s : K3) : K2 → K3 := K3.rec (motive := fun _ => K2 → K3) (fun a0 a1 a2 a3 a4 a5 a6 _ v => ⟨a0, a1, a2, a3, a4, a5, a6, v⟩) s
noncomputable def K3.upd (d : D8) : K3 → K2 → K3 := D8.rec (motive := fun _ => K3 → K2 → K3) K3.u0 K3.u1 K3.u2 K3.u3 K3.u4 K3.u5 K3.u6 K3.u7 d
def K3.all (x : K2) : K3 := ⟨x, x, x, x, x, x, x, x⟩
theorem K3.sel_upd (d e : D8) (s : K3) (v : K2) : K3.sel d (K3.upd e s v) = if d = e then v else K3.sel d s := by cases d <;> cases e <;> rfl
theorem K3.sel_all (d : D8) (x : K2) : K3.sel d (K3.all x) = x := by cases d <;> rfl
structure K4 where
  (a0 a1 a2 a3 a4 a5 a6 a7 : K3)
noncomputable def K4.sel (d : D8) : K4 → K3 := D8.rec (motive := fun _ => K4 → K3) K4.a0 K4.a1 K4.a2 K4.a3 K4.a4 K4.a5 K4.a6 K4.a7 d
noncomputable def K4.u0 (s : K4) : K3 → K4 := K4.rec (motive := fun _ => K3 → K4) (fun _ a1 a2 a3 a4 a5 a6 a7 v => ⟨v, a1, a2, a3, a4, a5, a6, a7⟩) s
noncomputable def K4.u1 (s : K4) : K3 → K4 := K4.rec (motive := fun _ => K3 → K4) (fun a0 _ a2 a3 a4 a5 a6 a7 v => ⟨a0, v, a2, a3, a4, a5, a6, a7⟩) s
noncomputable def K4.u2 (s : K4) : K3 → K4 := K4.rec (motive := fun _ => K3 → K4) (fun a0 a1 _ a3 a4 a5 a6 a7 v => ⟨a0, a1, v, a3, a4, a5, a6, a7⟩) s
noncomputable def K4.u3 (s : K4) : K3 → K4 := K4.rec (motive := fun _ => K3 → K4) (fun a0 a1 a2 _ a4 a5 a6 a7 v => ⟨a0, a1, a2, v, a4, a5, a6, a7⟩) s
noncomputable def K4.u4 (s : K4) : K3 → K4 := K4.rec (motive := fun _ => K3 → K4) (fun a0 a1 a2 a3 _ a5 a6 a7 v => ⟨a0, a1, a2, a3, v, a5, a6, a7⟩) s
noncomputable def K4.u5 (s : K4) : K3 → K4 := K4.rec (motive := fun _ => K3 → K4) (fun a0 a1 a2 a3 a4 _ a6 a7 v => ⟨a0, a1, a2, a3, a4, v, a6, a7⟩) s
noncomputable def K4.u6 (s : K4) : K3 → K4 := K4.rec (motive := fun _ => K3 → K4) (fun a0 a1 a2 a3 a4 a5 _ a7 v => ⟨a0, a1, a2, a3, a4, a5, v, a7⟩) s
noncomputable def K4.u7 (s : K4) : K3 → K4 := K4.rec (motive := fun _ => K3 → K4) (fun a0 a1 a2 a3 a4 a5 a6 _ v => ⟨a0, a1, a2, a3, a4, a5, a6, v⟩) s
noncomputable def K4.upd (d : D8) : K4 → K3 → K4 := D8.rec (motive := fun _ => K4 → K3 → K4) K4.u0 K4.u1 K4.u2 K4.u3 K4.u4 K4.u5 K4.u6 K4.u7 d
def K4.all (x : K3) : K4 := ⟨x, x, x, x, x, x, x, x⟩
theorem K4.sel_upd (d e : D8) (s : K4) (v : K3) : K4.sel d (K4.upd e s v) = if d = e then v else K4.sel d s := by cases d <;> cases e <;> rfl
theorem K4.sel_all (d : D8) (x : K3) : K4.sel d (K4.all x) = x := by cases d <;> rfl
structure K5 where
  (a0 a1 a2 a3 a4 a5 a6 a7 : K4)
noncomputable def K5.sel (d : D8) : K5 → K4 := D8.rec (motive := fun _ => K5 → K4) K5.a0 K5.a1 K5.a2 K5.a3 K5.a4 K5.a5 K5.a6 K5.a7 d
noncomputable def K5.u0 (s : K5) : K4 → K5 := K5.rec (motive := fun _ => K4 → K5) (fun _ a1 a2 a3 a4 a5 a6 a7 v => ⟨v, a1, a2, a3, a4, a5, a6, a7⟩) s
noncomputable def K5.u1 (s : K5) : K4 → K5 := K5.rec (motive := fun _ => K4 → K5) (fun a0 _ a2 a3 a4 a5 a6 a7 v => ⟨a0, v, a2, a3, a4, a5, a6, a7⟩) s
noncomputable def K5.u2 (s : K5) : K4 → K5 := K5.rec (motive := fun _ => K4 → K5) (fun a0 a1 _ a3 a4 a5 a6 a7 v => ⟨a0, a1, v, a3, a4, a5, a6, a7⟩) s
noncomputable def K5.u3 (s : K5) : K4 → K5 := K5.rec (motive := fun _ => K4 → K5) (fun a0 a1 a2 _ a4 a5 a6 a7 v => ⟨a0, a1, a2, v, a4, a5, a6, a7⟩) s
noncomputable def K5.u4 (s : K5) : K4 → K5 := K5.rec (motive := fun _ => K4 → K5) (fun a0 a1 a2 a3 _ a5 a6 a7 v => ⟨a0, a1, a2, a3, v, a5, a6, a7⟩) s
noncomputable def K5.u5 (s : K5) : K4 → K5 := K5.rec (motive := fun _ => K4 → K5) (fun a0 a1 a2 a3 a4 _ a6 a7 v => ⟨a0, a1, a2, a3, a4, v, a6, a7⟩) s
noncomputable def K5.u6 (s : K5) : K4 → K5 := K5.rec (motive := fun _ => K4 → K5) (fun a0 a1 a2 a3 a4 a5 _ a7 v => ⟨a0, a1, a2, a3, a4, a5, v, a7⟩) s
noncomputable def K5.u7 (s : K5) : K4 → K5 := K5.rec (motive := fun _ => K4 → K5) (fun a0 a1 a2 a3 a4 a5 a6 _ v => ⟨a0, a1, a2, a3, a4, a5, a6, v⟩) s
noncomputable def K5.upd (d : D8) : K5 → K4 → K5 := D8.rec (motive := fun _ => K5 → K4 → K5) K5.u0 K5.u1 K5.u2 K5.u3 K5.u4 K5.u5 K5.u6 K5.u7 d
def K5.all (x : K4) : K5 := ⟨x, x, x, x, x, x, x, x⟩
theorem K5.sel_upd (d e : D8) (s : K5) (v : K4) : K5.sel d (K5.upd e s v) = if d = e then v else K5.sel d s := by cases d <;> cases e <;> rfl
theorem K5.sel_all (d : D8) (x : K4) : K5.sel d (K5.all x) = x := by cases d <;> rfl
structure K6 where
  (a0 a1 a2 a3 a4 a5 a6 a7 : K5)
noncomputable def K6.sel (d : D8) : K6 → K5 := D8.rec (motive := fun _ => K6 → K5) K6.a0 K6.a1 K6.a2 K6.a3 K6.a4 K6.a5 K6.a6 K6.a7 d
noncomputable def K6.u0 (s : K6) : K5 → K6 := K6.rec (motive := fun _ => K5 → K6) (fun _ a1 a2 a3 a4 a5 a6 a7 v => ⟨v, a1, a2, a3, a4, a5, a6, a7⟩) s
noncomputable def K6.u1 (s : K6) : K5 → K6 := K6.rec (motive := fun _ => K5 → K6) (fun a0 _ a2 a3 a4 a5 a6 a7 v => ⟨a0, v, a2, a3, a4, a5, a6, a7⟩) s
noncomputable def K6.u2 (s : K6) : K5 → K6 := K6.rec (motive := fun _ => K5 → K6) (fun a0 a1 _ a3 a4 a5 a6 a7 v => ⟨a0, a1, v, a3, a4, a5, a6, a7⟩) s
noncomputable def K6.u3 (s : K6) : K5 → K6 := K6.rec (motive := fun _ => K5 → K6) (fun a0 a1 a2 _ a4 a5 a6 a7 v => ⟨a0, a1, a2, v, a4, a5, a6, a7⟩) s
noncomputable def K6.u4 (s : K6) : K5 → K6 := K6.rec (motive := fun _ => K5 → K6) (fun a0 a1 a2 a3 _ a5 a6 a7 v => ⟨a0, a1, a2, a3, v, a5, a6, a7⟩) s
noncomputable def K6.u5 (s : K6) : K5 → K6 := K6.rec (motive := fun _ => K5 → K6) (fun a0 a1 a2 a3 a4 _ a6 a7 v => ⟨a0, a1, a2, a3, a4, v, a6, a7⟩) s
noncomputable def K6.u6 (s : K6) : K5 → K6 := K6.rec (motive := fun _ => K5 → K6) (fun a0 a1 a2 a3 a4 a5 _ a7 v => ⟨a0, a1, a2, a3, a4, a5, v, a7⟩) s
noncomputable def K6.u7 (s : K6) : K5 → K6 := K6.rec (motive := fun _ => K5 → K6) (fun a0 a1 a2 a3 a4 a5 a6 _ v => ⟨a0, a1, a2, a3, a4, a5, a6, v⟩) s
noncomputable def K6.upd (d : D8) : K6 → K5 → K6 := D8.rec (motive := fun _ => K6 → K5 → K6) K6.u0 K6.u1 K6.u2 K6.u3 K6.u4 K6.u5 K6.u6 K6.u7 d
def K6.all (x : K5) : K6 := ⟨x, x, x, x, x, x, x, x⟩
theorem K6.sel_upd (d e : D8) (s : K6) (v : K5) : K6.sel d (K6.upd e s v) = if d = e then v else K6.sel d s := by cases d <;> cases e <;> rfl
theorem K6.sel_all (d : D8) (x : K5) : K6.sel d (K6.all x) = x := by cases d <;> rfl

/- frames: 256 slots -/
noncomputable def L2.get (t : Nat) (f : L2) : AV := L1.sel (dig16 (Nat.mod t 16)) (L2.sel (dig16 (Nat.div t 16)) f)
noncomputable def L2.set (t : Nat) (v : AV) (f : L2) : L2 := L2.upd (dig16 (Nat.div t 16)) f (L1.upd (dig16 (Nat.mod t 16)) (L2.sel (dig16 (Nat.div t 16)) f) v)
def L2.new : L2 := L2.all (L1.all (.tup []))

noncomputable def K6.get (m : K6) (i : Nat) : AO := K1.sel (dig (Nat.mod i 8)) (K2.sel (dig (Nat.mod (Nat.div i 8) 8)) (K3.sel (dig (Nat.mod (Nat.div i 64) 8)) (K4.sel (dig (Nat.mod (Nat.div i 512) 8)) (K5.sel (dig (Nat.mod (Nat.div i 4096) 8)) (K6.sel (dig (Nat.div i 32768)) (m))))))
noncomputable def K6.set (m : K6) (i : Nat) (v : AO) : K6 := K6.upd (dig (Nat.div i 32768)) (m) (K5.upd (dig (Nat.mod (Nat.div i 4096) 8)) (K6.sel (dig (Nat.div i 32768)) (m)) (K4.upd (dig (Nat.mod (Nat.div i 512) 8)) (K5.sel (dig (Nat.mod (Nat.div i 4096) 8)) (K6.sel (dig (Nat.div i 32768)) (m))) (K3.upd (dig (Nat.mod (Nat.div i 64) 8)) (K4.sel (dig (Nat.mod (Nat.div i 512) 8)) (K5.sel (dig (Nat.mod (Nat.div i 4096) 8)) (K6.sel (dig (Nat.div i 32768)) (m)))) (K2.upd (dig (Nat.mod (Nat.div i 8) 8)) (K3.sel (dig (Nat.mod (Nat.div i 64) 8)) (K4.sel (dig (Nat.mod (Nat.div i 512) 8)) (K5.sel (dig (Nat.mod (Nat.div i 4096) 8)) (K6.sel (dig (Nat.div i 32768)) (m))))) (K1.upd (dig (Nat.mod i 8)) (K2.sel (dig (Nat.mod (Nat.div i 8) 8)) (K3.sel (dig (Nat.mod (Nat.div i 64) 8)) (K4.sel (dig (Nat.mod (Nat.div i 512) 8)) (K5.sel (dig (Nat.mod (Nat.div i 4096) 8)) (K6.sel (dig (Nat.div i 32768)) (m)))))) (v))))))
def K6.new : K6 := K6.all (K5.all (K4.all (K3.all (K2.all (K1.all .none)))))
end Go.Ev
