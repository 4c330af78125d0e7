import PyProof.Rows.All
import Wide.All
import OpenK.AllK
import Wide.FinOn
import PySem.Challenge.RW_penturns_k02_primes_and_orders
import HandS.ForMost
import HandS.ForExc
import HandS.Walk
import HandS.Wide
import HandS.SortInts
import HandS.RevRange
import HandS.IsInst
import HandS.Flow
import HandS.CallSlots
import HandS.WordsExc
import HandS.Style
set_option Elab.async false
set_option linter.all false
set_option maxRecDepth 100000
set_option maxHeartbeats 4000000
namespace VL
open PySem L2

/-! ### values as trees -/
inductive D where
  | non | bl (b : Bool) | int (i : Int) | str (s : Str)
  | tup (xs : List D) | lst (xs : List D)
  | ins (c : Str) (ns : List Str) (ds : List D)
  | dct (ks : List Key) (ds : List D)
  | ty (n : String) | cls (c : Str) | fn (f : Str)
  | deal | scr

/-- a container that one slot alone holds -/
inductive O where
  | lst (xs : List D)
  | dct (ks : List Key) (ds : List D)
@[reducible] def O.frz : O → D
  | .lst xs => .lst xs
  | .dct ks ds => .dct ks ds
/-- what an expression gives: a value for all; a new container; the container of a slot, lent -/
inductive W where
  | val (d : D) | own (o : O) | bor (i : Nat)
abbrev Env := List (Option W)

structure Cn where
  cl : Str → Option Addr
  fa : Str → Option Addr
  kt : Addr → Prop
  ks : Addr → List Int → Prop

/-- the abstract heap; F: what never changes any more; L: the deals -/
structure G where
  F : Addr → Prop
  L : List (Addr × Addr)
  H : Hp
def G.Dl (S : G) (a : Addr) : Prop := ∃ p ∈ S.L, a = p.1 ∨ a = p.2

mutual
inductive Rep (C : Cn) (S : G) : V → D → Prop
  | non : Rep C S .non .non
  | bl (b : Bool) : Rep C S (.bl b) (.bl b)
  | int (i : Int) : Rep C S (.int i) (.int i)
  | str (x : Str) : Rep C S (.str x) (.str x)
  | tup {a : Addr} {vs : List V} {ds : List D} : S.F a → S.H a = some (.tup vs) → Reps C S vs ds → ds.length ≤ sizeLine → Rep C S (.ref a) (.tup ds)
  | lst {a : Addr} {vs : List V} {ds : List D} : S.F a → S.H a = some (.lst vs) → Reps C S vs ds → ds.length ≤ sizeLine → Rep C S (.ref a) (.lst ds)
  | ins {a Ca dx : Addr} {fs : List (Str × V)} {c : Str} {ns : List Str} {ds : List D} : S.F a → C.cl c = some Ca → S.H a = some (.ins Ca dx fs) → fs.map Prod.fst = ns → Reps C S (fs.map Prod.snd) ds → Rep C S (.ref a) (.ins c ns ds)
  | dct {a : Addr} {kvs : List (Key × V)} {ks : List Key} {ds : List D} : S.F a → Rd S.H a (.dK kvs) → kvs.map Prod.fst = ks → Reps C S (kvs.map Prod.snd) ds → Rep C S (.ref a) (.dct ks ds)
  | kt {a : Addr} : C.kt a → Rep C S (.ref a) (.tup [])
  | ty (n : String) : Rep C S (.ty n) (.ty n)
  | cls {a : Addr} {c : Str} : C.cl c = some a → Rep C S (.ref a) (.cls c)
  | fn {a : Addr} {f : Str} : C.fa f = some a → Rep C S (.ref a) (.fn f)
  | deal {p : Addr × Addr} : p ∈ S.L → Rep C S (.ref p.1) .deal
  | scr {a : Addr} {o : Obj} {ns : List Int} : S.F a → S.H a = some (.frz o (.lst (ns.map V.int))) → ns.length ≤ 63 → Rep C S (.ref a) .scr
  | scrK {a : Addr} {ns : List Int} : C.ks a ns → ns.length ≤ 63 → Rep C S (.ref a) .scr
inductive Reps (C : Cn) (S : G) : List V → List D → Prop
  | nil : Reps C S [] []
  | cons {v : V} {vs : List V} {d : D} {ds : List D} : Rep C S v d → Reps C S vs ds → Reps C S (v :: vs) (d :: ds)
end

/-- the empty tuples of the written part -/
def KT (C : Cn) (K : PySem.W.Frag) : Prop := ∀ a, C.kt a → ∃ o, K.lookup a = some o ∧ o.cls = .type "tuple" ∧ ∀ H : Hp, SqT K H a []
/-- what never stands under a lock -/
def Still : HO → Prop
  | .dK _ => False
  | .frz _ (.dK _) => False
  | _ => True

/-- how a deal stands -/
def DealAt (H : Hp) (p : Addr × Addr) : Prop := ∃ (cells : List Int) (m : Int), H p.1 = some (.lst [.ref p.2, .int m]) ∧ H p.2 = some (.lst (cells.map V.int)) ∧ 0 ≤ m ∧ m < 2147483647 ∧ cells.length ≤ 63 ∧ ∀ c ∈ cells, 0 ≤ c

structure WF (S : G) : Prop where
  dom : ∀ a, S.F a → ∃ o, S.H a = some o
  deal : ∀ p ∈ S.L, DealAt S.H p
  nf : ∀ a, S.Dl a → ¬ S.F a
  dis : ∀ p ∈ S.L, ∀ q ∈ S.L, p.1 ≠ q.2 ∧ (p ≠ q → p.1 ≠ q.1 ∧ p.2 ≠ q.2)

/-- the slot i holds a container of its own at a -/
def Own (e : Env) (σ : L2.St) (a : Addr) : Prop := ∃ (i : Nat) (o : O), e[i]? = some (some (W.own o)) ∧ σ[i]? = some (some (V.ref a))

/-- what stays true of values -/
structure Up (S S' : G) : Prop where
  fs : ∀ a, S.F a → S'.F a
  ls : ∀ p, p ∈ S.L → p ∈ S'.L
  fz : ∀ a o, S.F a → S.H a = some o → Still o → S'.H a = some o
  fd : ∀ a u, S.F a → Rd S.H a u → Rd S'.H a u
structure Ext (e : Env) (σ : L2.St) (S : G) (e' : Env) (σ' : L2.St) (S' : G) : Prop where
  up : Up S S'
  kp : ∀ a o, S.H a = some o → ¬ S.F a → ¬ S.Dl a → ¬ Own e σ a → S'.H a = some o ∧ ¬ S'.F a ∧ ¬ S'.Dl a ∧ ¬ Own e' σ' a
  dm : ∀ a, S'.H a = none → S.H a = none
theorem Up.refl (S : G) : Up S S := ⟨fun _ h => h, fun _ h => h, fun _ _ _ h _ => h, fun _ _ _ h => h⟩
theorem Up.trans {S S' S'' : G} (x : Up S S') (y : Up S' S'') : Up S S'' where
  fs := fun a h => y.fs a (x.fs a h)
  ls := fun p h => y.ls p (x.ls p h)
  fz := fun a o f h s => y.fz a o (x.fs a f) (x.fz a o f h s) s
  fd := fun a u f h => y.fd a u (x.fs a f) (x.fd a u f h)
theorem Up.frz (S : G) (F : Addr → Prop) (h : ∀ a, S.F a → F a) : Up S { S with F := F } := ⟨h, fun _ h => h, fun _ _ _ h _ => h, fun _ _ _ h => h⟩
theorem Ext.refl (e : Env) (σ : L2.St) (S : G) : Ext e σ S e σ S := ⟨.refl S, fun _ _ h1 h2 h3 h4 => ⟨h1, h2, h3, h4⟩, fun _ h => h⟩
theorem Ext.trans {e e' e'' : Env} {σ σ' σ'' : L2.St} {S S' S'' : G} (x : Ext e σ S e' σ' S') (y : Ext e' σ' S' e'' σ'' S'') : Ext e σ S e'' σ'' S'' where
  up := x.up.trans y.up
  kp := fun a o h1 h2 h3 h4 => by
    obtain ⟨a1, a2, a3, a4⟩ := x.kp a o h1 h2 h3 h4
    exact y.kp a o a1 a2 a3 a4
  dm := fun a h => x.dm a (y.dm a h)

mutual
theorem Rep.mono {C : Cn} {S S' : G} (x : Up S S') : ∀ {v : V} {d : D}, Rep C S v d → Rep C S' v d
  | _, _, .non => .non
  | _, _, .bl b => .bl b
  | _, _, .int i => .int i
  | _, _, .str s => .str s
  | _, _, .tup f h r z => .tup (x.fs _ f) (x.fz _ _ f h trivial) (Reps.mono x r) z
  | _, _, .lst f h r z => .lst (x.fs _ f) (x.fz _ _ f h trivial) (Reps.mono x r) z
  | _, _, .ins f c h n r => .ins (x.fs _ f) c (x.fz _ _ f h trivial) n (Reps.mono x r)
  | _, _, .dct f h k r => .dct (x.fs _ f) (x.fd _ _ f h) k (Reps.mono x r)
  | _, _, .kt h => .kt h
  | _, _, .ty n => .ty n
  | _, _, .cls h => .cls h
  | _, _, .fn h => .fn h
  | _, _, .deal h => .deal (x.ls _ h)
  | _, _, .scr f h l => .scr (x.fs _ f) (x.fz _ _ f h trivial) l
  | _, _, .scrK h l => .scrK h l
theorem Reps.mono {C : Cn} {S S' : G} (x : Up S S') : ∀ {vs : List V} {ds : List D}, Reps C S vs ds → Reps C S' vs ds
  | _, _, .nil => .nil
  | _, _, .cons h r => .cons (Rep.mono x h) (Reps.mono x r)
end
theorem Reps.length {C : Cn} {S : G} : ∀ {vs : List V} {ds : List D}, Reps C S vs ds → vs.length = ds.length
  | _, _, .nil => rfl
  | _, _, .cons _ r => by rw [List.length_cons, List.length_cons, r.length]
theorem Reps.get {C : Cn} {S : G} : ∀ {vs : List V} {ds : List D} {i : Nat} {d : D}, Reps C S vs ds → ds[i]? = some d → ∃ v, vs[i]? = some v ∧ Rep C S v d
  | _, _, _, _, .nil, h => by simp at h
  | _, _, 0, _, .cons h _, e => by simp at e; subst e; exact ⟨_, rfl, h⟩
  | _, _, i + 1, d, .cons _ r, e => by
    obtain ⟨v, h1, h2⟩ := Reps.get (i := i) (d := d) r (by simpa using e)
    exact ⟨v, by simpa using h1, h2⟩
theorem Reps.getV {C : Cn} {S : G} : ∀ {vs : List V} {ds : List D} {i : Nat} {v : V}, Reps C S vs ds → vs[i]? = some v → ∃ d, ds[i]? = some d ∧ Rep C S v d
  | _, _, _, _, .nil, h => by simp at h
  | _, _, 0, _, .cons h _, e => by simp at e; subst e; exact ⟨_, rfl, h⟩
  | _, _, i + 1, v, .cons _ r, e => by
    obtain ⟨d, h1, h2⟩ := Reps.getV (i := i) (v := v) r (by simpa using e)
    exact ⟨d, by simpa using h1, h2⟩
theorem Reps.append {C : Cn} {S : G} : ∀ {vs ws : List V} {ds es : List D}, Reps C S vs ds → Reps C S ws es → Reps C S (vs ++ ws) (ds ++ es)
  | _, _, _, _, .nil, s => s
  | _, _, _, _, .cons h r, s => .cons h (Reps.append r s)
theorem Reps.take {C : Cn} {S : G} : ∀ {vs : List V} {ds : List D} (n : Nat), Reps C S vs ds → Reps C S (vs.take n) (ds.take n)
  | _, _, 0, _ => .nil
  | _, _, _ + 1, .nil => .nil
  | _, _, n + 1, .cons h r => .cons h (Reps.take n r)
theorem Reps.drop {C : Cn} {S : G} : ∀ {vs : List V} {ds : List D} (n : Nat), Reps C S vs ds → Reps C S (vs.drop n) (ds.drop n)
  | _, _, 0, r => r
  | _, _, _ + 1, .nil => .nil
  | _, _, n + 1, .cons _ r => Reps.drop n r
theorem Reps.set {C : Cn} {S : G} {v : V} {d : D} (h : Rep C S v d) : ∀ {vs : List V} {ds : List D} (n : Nat), Reps C S vs ds → Reps C S (vs.set n v) (ds.set n d)
  | _, _, _, .nil => .nil
  | _, _, 0, .cons _ r => .cons h r
  | _, _, n + 1, .cons q r => .cons q (Reps.set h n r)
theorem Reps.reverse {C : Cn} {S : G} : ∀ {vs : List V} {ds : List D}, Reps C S vs ds → Reps C S vs.reverse ds.reverse
  | _, _, .nil => .nil
  | _, _, .cons h r => by rw [List.reverse_cons, List.reverse_cons]; exact (Reps.reverse r).append (.cons h .nil)
theorem Reps.dropLast {C : Cn} {S : G} {vs : List V} {ds : List D} (h : Reps C S vs ds) : Reps C S vs.dropLast ds.dropLast := by
  rw [List.dropLast_eq_take, List.dropLast_eq_take, h.length]; exact h.take _
theorem Reps.ints {C : Cn} {S : G} : ∀ (ns : List Int), Reps C S (ns.map V.int) (ns.map D.int)
  | [] => .nil
  | n :: ns => .cons (.int n) (Reps.ints ns)
theorem Reps.ints_inv {C : Cn} {S : G} : ∀ {vs : List V} {ns : List Int}, Reps C S vs (ns.map D.int) → vs = ns.map V.int
  | _, [], .nil => rfl
  | _, n :: ns, .cons h r => by cases h; rw [Reps.ints_inv r]; rfl
theorem Reps.strs_inv {C : Cn} {S : G} : ∀ {vs : List V} {ns : List Str}, Reps C S vs (ns.map D.str) → vs = ns.map V.str
  | _, [], .nil => rfl
  | _, n :: ns, .cons h r => by cases h; rw [Reps.strs_inv r]; rfl
theorem Reps.bls_inv {C : Cn} {S : G} : ∀ {vs : List V} {ns : List Bool}, Reps C S vs (ns.map D.bl) → vs = ns.map V.bl
  | _, [], .nil => rfl
  | _, n :: ns, .cons h r => by cases h; rw [Reps.bls_inv r]; rfl

/-! ### containers with a top of their own -/
def RepO (C : Cn) (S : G) (p : Addr) : O → Prop
  | .lst xs => ∃ vs, S.H p = some (.lst vs) ∧ Reps C S vs xs ∧ xs.length ≤ sizeLine
  | .dct ks ds => ∃ kvs, S.H p = some (.dK kvs) ∧ kvs.map Prod.fst = ks ∧ Reps C S (kvs.map Prod.snd) ds
def RepW (C : Cn) (σ : L2.St) (S : G) (v : V) : W → Prop
  | .val d => Rep C S v d
  | .own o => ∃ p, v = .ref p ∧ ¬ S.F p ∧ ¬ S.Dl p ∧ RepO C S p o
  | .bor i => σ[i]? = some (some v)
/-- what an operand is at the moment of its use -/
def Rop (C : Cn) (S : G) (v : V) (d : D) : Prop := Rep C S v d ∨ ∃ p o, v = .ref p ∧ d = O.frz o ∧ RepO C S p o

theorem RepO.mono {C : Cn} {S S' : G} (x : Up S S') {p : Addr} {o : O} (h : RepO C S p o) (k : ∀ u, S.H p = some u → S'.H p = some u) : RepO C S' p o := by
  cases o with
  | lst xs =>
    obtain ⟨vs, h1, h2, h3⟩ := h
    exact ⟨vs, k _ h1, h2.mono x, h3⟩
  | dct ks ds =>
    obtain ⟨kvs, h1, h2, h3⟩ := h
    exact ⟨kvs, k _ h1, h2, h3.mono x⟩
theorem RepO.there {C : Cn} {S : G} {p : Addr} {o : O} (h : RepO C S p o) : ∃ u, S.H p = some u := by
  cases o with
  | lst xs => obtain ⟨vs, h1, h2, h3⟩ := h; exact ⟨_, h1⟩
  | dct ks ds => obtain ⟨kvs, h1, h2, h3⟩ := h; exact ⟨_, h1⟩

structure RepEnv (C : Cn) (S : G) (e : Env) (σ : L2.St) : Prop where
  len : e.length = σ.length
  at_ : ∀ (i : Nat) (w : W), e[i]? = some (some w) → ∃ v, σ[i]? = some (some v) ∧ RepW C σ S v w
  dis : ∀ (i j : Nat) (o o' : O) (p : Addr), i ≠ j → e[i]? = some (some (.own o)) → σ[i]? = some (some (.ref p)) → e[j]? = some (some (.own o')) → σ[j]? ≠ some (some (.ref p))
  nb : ∀ (i j : Nat), e[i]? ≠ some (some (.bor j))

/-! ### the mini language -/
/-- built-in functions and classes that are called -/
inductive B where
  | int | abs | len | tuple | list | sorted | sum | all | any | repr | str | bool | max | min | isinstance | set | dict
  deriving DecidableEq
/-- methods of built-in classes that change nothing -/
inductive M where
  | get | split | join | partition | startswith | replace | items | values | find | count
  deriving DecidableEq
inductive E where
  | var (i : Nat) | bor (i : Nat)
  | int (n : Int) | str (s : Str) | bl (b : Bool) | non
  | bin (op : Operator) (a b : E) | neg (a : E) | inv (a : E)
  | cmp (op : CmpOp) (a b : E) | chain (op op' : CmpOp) (a b c : E)
  | and_ (a b : E) | or_ (a b : E) | not_ (a : E)
  | ife (t a b : E)
  | nil | cons (a as : E) | star (a as : E)
  | tup (as : E) | lst (as : E)
  | idx (a i : E) | cut (a lo hi : E) | nopart | rev (a : E)
  | glob (x : Str) | bty (n : String)
  | call (f : Str) (as : E)
  | bcall (f : B) (as : E)
  | app (i : Nat) (a : E) | pop (i : Nat)
  | meth (o : E) (m : Str) (as : E)
  | bmeth (o : E) (m : M) (as : E)
  | fld (o : E) (f : Str)
  | lc (fz own tg : List Nat) (one : Bool) (it test elt : E)
  | lc2 (fz own own1 tg : List Nat) (one : Bool) (it : E) (tg1 : List Nat) (one1 : Bool) (it1 elt : E)
  | yes
  | rng1 (a : E) | rng2 (a b : E) | rng3 (a b c : E) | enum (a : E) | zip (a b : E) | revd (a : E)
  deriving DecidableEq
inductive S where
  | skip | seq (a b : S)
  | set (i : Nat) (e : E) | par (i j : Nat) (a b : E) | unp (is : List Nat) (e : E)
  | setIx (i : Nat) (ix e : E) | aug (i : Nat) (op : Operator) (e : E) | setF (o : Nat) (f : Str) (e : E)
  | expr (e : E) | ite (t : E) (a b : S) | whl (t : E) (b : S)
  | forr (tg : List Nat) (one : Bool) (it : E) (b : S)
  | ret (e : E) | retN | brk | cont
  | raise (c : Str) (as : E)
  | tryAs (b : S) (c : Str) (i : Nat) (h : S)
  deriving DecidableEq

/-! ### its meaning over values -/
def get : Env → Nat → Option W
  | [], _ => none
  | w :: _, 0 => w
  | _ :: e, i + 1 => get e i
def put : Env → Nat → W → Env
  | [], _, _ => []
  | _ :: e, 0, w => some w :: e
  | x :: e, i + 1, w => x :: put e i w
def clr : Env → Nat → Env
  | [], _ => []
  | _ :: e, 0 => none :: e
  | x :: e, i + 1 => x :: clr e i
def wipeE (e : Env) : List Nat → Env
  | [] => e
  | v :: vs => clr (wipeE e vs) v
def puts : Env → List Nat → List D → Env
  | e, i :: is, d :: ds => puts (put e i (.val d)) is ds
  | e, _, _ => e
def W.toD : W → Option D
  | .val d => some d
  | .own o => some o.frz
  | .bor _ => none
def slotD (e : Env) (i : Nat) : Option D := match get e i with
  | some (.val d) => some d
  | some (.own o) => some o.frz
  | _ => none
def W.res (e : Env) : W → Option D
  | .val d => some d
  | .own o => some o.frz
  | .bor i => slotD e i
def toDs : List W → Option (List D)
  | [] => some []
  | w :: ws => match w.toD, toDs ws with
    | some d, some ds => some (d :: ds)
    | _, _ => none
def ress (e : Env) : List W → Option (List D)
  | [] => some []
  | w :: ws => match w.res e, ress e ws with
    | some d, some ds => some (d :: ds)
    | _, _ => none
def frzE (e : Env) (i : Nat) : Env := match get e i with
  | some (.own o) => put e i (.val o.frz)
  | _ => e
def frzAll (e : Env) : List Nat → Env
  | [] => e
  | i :: is => frzAll (frzE e i) is
@[reducible] def sat {α : Type} (o : Option α) (Q : α → Prop) : Prop := match o with
  | some d => Q d
  | none => False

structure Exc where
  c : Str
  a : D
abbrev FSpec := List D → (D → Prop) → (Exc → Prop) → Prop
structure Tab where
  fn : Str → Option FSpec
  con : Str → Option D
  mt : Str → Str → Option FSpec
  sub : Str → Str → Option Bool
  subT : Str → String → Option Bool
  subB : Str → Option Bool

mutual
def D.toP : D → Option PyData
  | .non => some .none
  | .bl b => some (.bool b)
  | .int i => some (.int i)
  | .str s => some (.str s)
  | .tup xs => (D.toPs xs).map .tuple
  | .lst xs => (D.toPs xs).map .list
  | _ => none
def D.toPs : List D → Option (List PyData)
  | [] => some []
  | x :: xs => match D.toP x, D.toPs xs with
    | some p, some ps => some (p :: ps)
    | _, _ => none
end
@[reducible] def sat2 {α : Type} (o : Option (Prop × α)) (Q : α → Prop) : Prop := match o with
  | some (c, w) => c ∧ Q w
  | none => False
def vI (c : Int → Int → Prop) (f : Int → Int → Int) : D → D → Option (Prop × W)
  | .int a, .int b => some (c a b, .val (.int (f a b)))
  | _, _ => none
def vAdd : D → D → Option (Prop × W)
  | .int a, .int b => some (True, .val (.int (a + b)))
  | .str a, .str b => some (a.length + b.length ≤ sizeLine, .val (.str (a ++ b)))
  | .lst a, .lst b => some (a.length + b.length ≤ sizeLine, .own (.lst (a ++ b)))
  | _, _ => none
def vBin : Operator → D → D → Option (Prop × W)
  | .Add => vAdd
  | .Sub => vI (fun _ _ => True) fun a b => a - b
  | .Mult => vI CMulW fun a b => a * b
  | .FloorDiv => vI CDivW fun a b => a / b
  | .Mod => vI (fun _ b => 0 < b) fun a b => a % b
  | .Pow => vI CPow fun a b => a ^ b.toNat
  | _ => fun _ _ => none
def flatD : D → Bool
  | .non => true | .bl _ => true | .int _ => true | .str _ => true
  | _ => false
def eqF : D → D → Bool
  | .non, .non => true
  | .bl a, .bl b => a == b
  | .bl a, .int j => (if a then 1 else 0) == j
  | .int i, .bl b => i == (if b then 1 else 0)
  | .int i, .int j => i == j
  | .str x, .str y => x == y
  | _, _ => false
def inD (x : D) (xs : List D) : Bool := xs.any fun y => eqF y x
def isNon : D → Bool
  | .non => true
  | _ => false
def vEq (a b : D) : Option (Prop × Bool) := match a, b with
  | .int i, .int j => some (True, decide (i = j))
  | a, b => match a.toP, b.toP with
    | some p, some q => some (SeqAt.shaped p = true ∧ SeqAt.shaped q = true, PyData.eqv p q)
    | _, _ => none
def vIn (x ys : D) : Option (Prop × Bool) := match ys with
  | .lst ys => some (flatD x = true ∧ ys.all flatD = true, inD x ys)
  | .tup ys => some (flatD x = true ∧ ys.all flatD = true, inD x ys)
  | _ => none
def neg2 : Option (Prop × Bool) → Option (Prop × Bool)
  | some (c, b) => some (c, !b)
  | none => none
def vL (f : Int → Int → Bool) : D → D → Option (Prop × Bool)
  | .int a, .int b => some (True, f a b)
  | _, _ => none
def vIs : D → D → Option (Prop × Bool)
  | a, .non => some (True, isNon a)
  | _, _ => none
def vCmp : CmpOp → D → D → Option (Prop × Bool)
  | .Lt => vL fun a b => decide (a < b)
  | .LtE => vL fun a b => decide (a ≤ b)
  | .Gt => vL fun a b => decide (b < a)
  | .GtE => vL fun a b => decide (b ≤ a)
  | .Eq => vEq
  | .NotEq => fun a b => neg2 (vEq a b)
  | .Is => vIs
  | .IsNot => fun a b => neg2 (vIs a b)
  | .In => vIn
  | .NotIn => fun a b => neg2 (vIn a b)
/-- truth of a value -/
def vTru : D → Option (Prop × Bool)
  | .non => some (True, false)
  | .bl b => some (True, b)
  | .int i => some (True, i != 0)
  | .str s => some (s.length ≤ sizeLine, s.length != 0)
  | .tup xs => some (True, !xs.isEmpty)
  | .lst xs => some (True, !xs.isEmpty)
  | _ => none
def vIdx : D → D → Option (Prop × D)
  | .lst xs, .int i => (atI xs i).map fun d => (True, d)
  | .tup xs, .int i => (atI xs i).map fun d => (True, d)
  | .str s, .int i => (atI s.cps.toList i).map fun c => (s.length ≤ sizeLine, .str ⟨#[c]⟩)
  | _, _ => none
def cutD (xs : List D) (lo hi : Option Int) : List D := (xs.drop (HT.sIx xs.length 0 lo)).take (HT.sIx xs.length xs.length hi - HT.sIx xs.length 0 lo)
def vCut : D → Option Int → Option Int → Option (Prop × W)
  | .lst xs, lo, hi => some (True, .own (.lst (cutD xs lo hi)))
  | _, _, _ => none
def tyD (d : D) : Option String := match d with
  | .non => some "NoneType" | .bl _ => some "bool" | .int _ => some "int" | .str _ => some "str" | .tup _ => some "tuple" | .lst _ => some "list" | .dct _ _ => some "dict"
  | _ => none
def tyNames : List String := ["int", "bool", "str", "list", "tuple", "dict"]
def isi1 (T : Tab) (d c : D) : Option Bool := match d, c with
  | .ins k _ _, .cls c => T.sub k c
  | .ins k _ _, .ty n => if n ∈ tyNames then T.subT k n else none
  | d, .ty n => if n ∈ tyNames then (tyD d).map fun t => t == n || (t == "bool" && n == "int") else none
  | d, .cls c => (tyD d).bind fun _ => T.subB c
  | _, _ => none
def isiN (T : Tab) (d : D) : List D → Option Bool
  | [] => some false
  | c :: cs => match isi1 T d c, isiN T d cs with
    | some a, some b => some (a || b)
    | _, _ => none
def toInts : List D → Option (List Int)
  | [] => some []
  | .int i :: ds => (toInts ds).map (i :: ·)
  | _ :: _ => none
def toBls : List D → Option (List Bool)
  | [] => some []
  | .bl i :: ds => (toBls ds).map (i :: ·)
  | _ :: _ => none
def cInt : List D → Option (Prop × W)
  | [.int i] => some (True, .val (.int i))
  | _ => none
def cAbs : List D → Option (Prop × W)
  | [.int i] => some (True, .val (.int (if i < 0 then -i else i)))
  | _ => none
def cLen : List D → Option (Prop × W)
  | [.lst xs] => some (True, .val (.int xs.length))
  | [.tup xs] => some (True, .val (.int xs.length))
  | [.str s] => some (s.length ≤ sizeLine, .val (.int s.length))
  | _ => none
def cTuple : List D → Option (Prop × W)
  | [.lst xs] => some (True, .val (.tup xs))
  | [.tup xs] => some (True, .val (.tup xs))
  | _ => none
def cList : List D → Option (Prop × W)
  | [.lst xs] => some (True, .own (.lst xs))
  | [.tup xs] => some (True, .own (.lst xs))
  | _ => none
def cSorted : List D → Option (Prop × W)
  | [.lst xs] => (toInts xs).map fun ns => (True, .own (.lst ((ns.mergeSort fun a b => decide (a ≤ b)).map D.int)))
  | _ => none
def cSum : List D → Option (Prop × W)
  | [.lst xs] => (toInts xs).map fun ns => (True, .val (.int ns.sum))
  | _ => none
def cAll : List D → Option (Prop × W)
  | [.lst xs] => (toBls xs).map fun bs => (True, .val (.bl (bs.all id)))
  | _ => none
def cAny : List D → Option (Prop × W)
  | [.lst xs] => (toBls xs).map fun bs => (True, .val (.bl (bs.any id)))
  | _ => none
def cIsi (T : Tab) : List D → Option (Prop × W)
  | [d, .tup (c :: cs)] => (isiN T d (c :: cs)).map fun b => (True, .val (.bl b))
  | [d, c] => (isi1 T d c).map fun b => (True, .val (.bl b))
  | _ => none
def vCall (T : Tab) : B → List D → Option (Prop × W)
  | .int => cInt
  | .abs => cAbs
  | .len => cLen
  | .tuple => cTuple
  | .list => cList
  | .sorted => cSorted
  | .sum => cSum
  | .all => cAll
  | .any => cAny
  | .isinstance => cIsi T
  | _ => fun _ => none
/-- a spec, made monotone -/
def ap (sp : FSpec) (ds : List D) (Q : D → Prop) (X : Exc → Prop) : Prop := ∃ (Q0 : D → Prop) (X0 : Exc → Prop), sp ds Q0 X0 ∧ (∀ d, Q0 d → Q d) ∧ ∀ x, X0 x → X x
theorem ap_of {sp : FSpec} {ds : List D} {Q : D → Prop} {X : Exc → Prop} (h : sp ds Q X) : ap sp ds Q X := ⟨Q, X, h, fun _ q => q, fun _ q => q⟩
def rangeD (lo : Int) (n : Nat) : List D := (List.range n).map fun (k : Nat) => .int (lo + (k : Int))
def Cr (a : Int) : Prop := -(2 ^ 62) ≤ a ∧ a < 2 ^ 62
def itemsOf : D → Option (Prop × List D)
  | .lst xs => some (True, xs)
  | .tup xs => some (True, xs)
  | .str s => some (s.length ≤ sizeLine, s.cps.toList.map fun c => .str ⟨#[c]⟩)
  | _ => none
def enumD : Nat → List D → List D
  | _, [] => []
  | k, d :: ds => .tup [.int (k : Nat), d] :: enumD (k + 1) ds
def zipD : List D → List D → List D
  | x :: xs, y :: ys => .tup [x, y] :: zipD xs ys
  | _, _ => []
def bindT (tg : List Nat) (one : Bool) (d : D) (e : Env) (k : Env → Prop) : Prop := match one, tg, d with
  | true, [i], d => k (put e i (.val d))
  | false, is, .tup ds => ds.length = is.length ∧ k (puts e is ds)
  | _, _, _ => False
def lcL (f : D → (Option D → Prop) → Prop) : List D → List D → (List D → Prop) → Prop
  | [], acc, Q => Q acc
  | d :: ds, acc, Q => f d fun r => match r with
    | some y => lcL f ds (acc ++ [y]) Q
    | none => lcL f ds acc Q
def forL (f : D → Env → (Env → Prop) → Prop) : List D → Env → (Env → Prop) → Prop
  | [], e, Q => Q e
  | d :: ds, e, Q => f d e fun e' => forL f ds e' Q

abbrev XP := Exc → Env → Prop
def noX : XP := fun _ _ => False
abbrev TrE := Env → (W → Env → Prop) → XP → Prop
/-- the four readings of a node: as a value, as a test, as an argument list, as what is walked -/
structure R4 where
  e : TrE
  t : Env → (Bool → Env → Prop) → XP → Prop
  a : Env → (List W → Env → Prop) → XP → Prop
  i : Env → (List D → Env → Prop) → XP → Prop
def tOf (f : TrE) : Env → (Bool → Env → Prop) → XP → Prop := fun e Q X => f e (fun wa e1 => sat (wa.res e1) fun da => sat2 (vTru da) fun k => Q k e1) X
def iOf (f : TrE) : Env → (List D → Env → Prop) → XP → Prop := fun e Q X => f e (fun w e1 => sat w.toD fun d => sat2 (itemsOf d) fun xs => Q xs e1) X
def mkE (f : TrE) : R4 := ⟨f, tOf f, fun _ _ _ => False, iOf f⟩
def mkT (f : TrE) (t : Env → (Bool → Env → Prop) → XP → Prop) : R4 := ⟨f, t, fun _ _ _ => False, iOf f⟩
def mkA (a : Env → (List W → Env → Prop) → XP → Prop) : R4 := ⟨fun _ _ _ => False, fun _ _ _ => False, a, fun _ _ _ => False⟩
def mkI (i : Env → (List D → Env → Prop) → XP → Prop) : R4 := ⟨fun _ _ _ => False, fun _ _ _ => False, fun _ _ _ => False, i⟩
def wVar (i : Nat) : TrE := fun e Q _ => match get e i with
    | some (.val d) => Q (.val d) e
    | some (.own o) => Q (.val o.frz) (put e i (.val o.frz))
    | _ => False
def wC (d : D) : TrE := fun e Q _ => Q (.val d) e
def w2 (fa fb : TrE) (k : D → D → Env → Prop) : Env → XP → Prop := fun e X => fa e (fun wa e1 => fb e1 (fun wb e2 => sat (wa.res e2) fun da => sat (wb.res e2) fun db => k da db e2) X) X
def wBin (op : Operator) (fa fb : TrE) : TrE := fun e Q X => w2 fa fb (fun da db e2 => sat2 (vBin op da db) fun w => Q w e2) e X
def wNeg (fa : TrE) : TrE := fun e Q X => fa e (fun wa e1 => sat (wa.res e1) fun da => match da with
    | .int i => Q (.val (.int (-i))) e1
    | _ => False) X
def wCmpT (op : CmpOp) (fa fb : TrE) : Env → (Bool → Env → Prop) → XP → Prop := fun e Q X => w2 fa fb (fun da db e2 => sat2 (vCmp op da db) fun k => Q k e2) e X
def asV (t : Env → (Bool → Env → Prop) → XP → Prop) : TrE := fun e Q X => t e (fun k e1 => Q (.val (.bl k)) e1) X
def wChainT (op op' : CmpOp) (fa fb fc : TrE) : Env → (Bool → Env → Prop) → XP → Prop := fun e Q X => fa e (fun wa e1 => fb e1 (fun wb e2 => sat (wa.res e2) fun da => sat (wb.res e2) fun db => sat2 (vCmp op da db) fun k =>
      if k = true then fc e2 (fun wc e3 => sat (wb.res e3) fun db' => sat (wc.res e3) fun dc => sat2 (vCmp op' db' dc) fun k' => Q k' e3) X else Q false e2) X) X
def wAnd (fa fb : TrE) : TrE := fun e Q X => fa e (fun wa e1 => sat (wa.res e1) fun da => sat2 (vTru da) fun k => if k = true then fb e1 Q X else Q wa e1) X
def wOr (fa fb : TrE) : TrE := fun e Q X => fa e (fun wa e1 => sat (wa.res e1) fun da => sat2 (vTru da) fun k => if k = true then Q wa e1 else fb e1 Q X) X
def wIfe (t : Env → (Bool → Env → Prop) → XP → Prop) (fa fb : TrE) : TrE := fun e Q X => t e (fun k e1 => if k = true then fa e1 Q X else fb e1 Q X) X
def wIdx (fa fi : TrE) : TrE := fun e Q X => w2 fa fi (fun da di e2 => sat2 (vIdx da di) fun d => Q (.val d) e2) e X
abbrev TrO := Env → (Option Int → Env → Prop) → XP → Prop
def wPart (f : TrE) : TrO := fun e Q X => f e (fun w e1 => sat (w.res e1) fun d => match d with
    | .int i => Q (some i) e1
    | _ => False) X
def noPart : TrO := fun e Q _ => Q none e
def wCut (fa : TrE) (fl fh : TrO) : TrE := fun e Q X => fa e (fun wa e1 => fl e1 (fun l e2 => fh e2 (fun h e3 => sat (wa.res e3) fun da => sat2 (vCut da l h) fun w => Q w e3) X) X) X
def noP : E → Bool
  | .nopart => true
  | _ => false
def pick (b : Bool) (f : TrE) : TrO := match b with
  | true => noPart
  | false => wPart f
def appK (i : Nat) (Q : W → Env → Prop) (wa : W) (e1 : Env) : Prop := sat wa.toD fun d => match get e1 i with
    | some (.own (.lst xs)) => xs.length < sizeLine ∧ Q (.val .non) (put e1 i (.own (.lst (xs ++ [d]))))
    | _ => False
def wApp (i : Nat) (fa : TrE) : TrE := fun e Q X => match get e i with
  | some (.own (.lst _)) => fa e (appK i Q) X
  | _ => False
def wPop (i : Nat) : TrE := fun e Q _ => match get e i with
    | some (.own (.lst xs)) => sat (xs[xs.length - 1]?) fun d => Q (.val d) (put e i (.own (.lst xs.dropLast)))
    | _ => False
def lcF (own tg : List Nat) (one : Bool) (t : Env → (Bool → Env → Prop) → XP → Prop) (fe : TrE) (e1 : Env) : D → (Option D → Prop) → Prop := fun d k =>
  bindT tg one d (wipeE e1 own) fun e2 => t e2 (fun b e3 => e3 = e2 ∧ if b = true then fe e2 (fun w e4 => e4 = e2 ∧ sat w.toD fun y => k (some y)) noX else k none) noX
def wLc (fz own tg : List Nat) (one : Bool) (fi : Env → (List D → Env → Prop) → XP → Prop) (t : Env → (Bool → Env → Prop) → XP → Prop) (fe : TrE) : TrE := fun e Q X =>
  fi (frzAll e fz) (fun items e1 => lcL (lcF own tg one t fe e1) items [] fun ys => Q (.own (.lst ys)) e1) X
def iRng1 (fa : TrE) : Env → (List D → Env → Prop) → XP → Prop := fun e Q X => fa e (fun w e1 => sat (w.res e1) fun d => match d with
    | .int j => Cr j ∧ j.toNat ≤ sizeLine ∧ Q (rangeD 0 j.toNat) e1
    | _ => False) X
def iRng2 (fa fb : TrE) : Env → (List D → Env → Prop) → XP → Prop := fun e Q X => w2 fa fb (fun da db e2 => match da, db with
    | .int i, .int j => Cr i ∧ Cr j ∧ (j - i).toNat ≤ sizeLine ∧ Q (rangeD i (j - i).toNat) e2
    | _, _ => False) e X
def iEnum (fa : TrE) : Env → (List D → Env → Prop) → XP → Prop := fun e Q X => fa e (fun w e1 => sat w.toD fun d => match d with
    | .lst xs => Q (enumD 0 xs) e1
    | .tup xs => Q (enumD 0 xs) e1
    | _ => False) X
def iZip (fa fb : TrE) : Env → (List D → Env → Prop) → XP → Prop := fun e Q X => fa e (fun wa e1 => fb e1 (fun wb e2 => sat wa.toD fun da => sat wb.toD fun db => match da, db with
    | .lst xs, .lst ys => Q (zipD xs ys) e2
    | _, _ => False) X) X
def wp (T : Tab) : E → R4
  | .var i => mkE (wVar i)
  | .bor i => mkE fun e Q _ => sat (get e i) fun _ => Q (.bor i) e
  | .int n => mkE (wC (.int n))
  | .str s => mkE (wC (.str s))
  | .bl b => mkE (wC (.bl b))
  | .non => mkE (wC .non)
  | .bin op a b => mkE (wBin op (wp T a).e (wp T b).e)
  | .neg a => mkE (wNeg (wp T a).e)
  | .cmp op a b => mkT (asV (wCmpT op (wp T a).e (wp T b).e)) (wCmpT op (wp T a).e (wp T b).e)
  | .chain op op' a b c => mkT (asV (wChainT op op' (wp T a).e (wp T b).e (wp T c).e)) (wChainT op op' (wp T a).e (wp T b).e (wp T c).e)
  | .and_ a b => mkT (wAnd (wp T a).e (wp T b).e) fun e Q X => (wp T a).t e (fun k e1 => if k = true then (wp T b).t e1 Q X else Q false e1) X
  | .or_ a b => mkT (wOr (wp T a).e (wp T b).e) fun e Q X => (wp T a).t e (fun k e1 => if k = true then Q true e1 else (wp T b).t e1 Q X) X
  | .not_ a => mkT (fun e Q X => tOf (wp T a).e e (fun k e1 => Q (.val (.bl (!k))) e1) X) fun e Q X => (wp T a).t e (fun k e1 => Q (!k) e1) X
  | .ife t a b => mkT (wIfe (wp T t).t (wp T a).e (wp T b).e) fun e Q X => (wp T t).t e (fun k e1 => if k = true then (wp T a).t e1 Q X else (wp T b).t e1 Q X) X
  | .nil => mkA fun e Q _ => Q [] e
  | .cons a as => mkA fun e Q X => (wp T a).e e (fun w e1 => (wp T as).a e1 (fun ws e2 => Q (w :: ws) e2) X) X
  | .tup as => mkE fun e Q X => (wp T as).a e (fun ws e1 => sat (toDs ws) fun ds => ds.length ≤ sizeLine ∧ Q (.val (.tup ds)) e1) X
  | .lst as => mkE fun e Q X => (wp T as).a e (fun ws e1 => sat (toDs ws) fun ds => ds.length ≤ sizeLine ∧ Q (.own (.lst ds)) e1) X
  | .idx a i => mkE (wIdx (wp T a).e (wp T i).e)
  | .cut a lo hi => mkE (wCut (wp T a).e (pick (noP lo) (wp T lo).e) (pick (noP hi) (wp T hi).e))
  | .nopart => mkE (wC .non)
  | .glob x => mkE fun e Q _ => sat (T.con x) fun d => Q (.val d) e
  | .bty n => mkE (wC (.ty n))
  | .call f as => mkE fun e Q X => (wp T as).a e (fun ws e1 => sat (toDs ws) fun ds => sat (T.fn f) fun sp => ap sp ds (fun d => Q (.val d) e1) (fun x => X x e1)) X
  | .bcall f as => mkE fun e Q X => (wp T as).a e (fun ws e1 => sat (ress e1 ws) fun ds => sat2 (vCall T f ds) fun w => Q w e1) X
  | .app i a => mkE (wApp i (wp T a).e)
  | .pop i => mkE (wPop i)
  | .lc fz own tg one it test elt => mkE (wLc fz own tg one (wp T it).i (wp T test).t (wp T elt).e)
  | .yes => ⟨fun _ _ _ => False, fun e Q _ => Q true e, fun _ _ _ => False, fun _ _ _ => False⟩
  | .rng1 a => mkI (iRng1 (wp T a).e)
  | .rng2 a b => mkI (iRng2 (wp T a).e (wp T b).e)
  | .enum a => mkI (iEnum (wp T a).e)
  | .zip a b => mkI (iZip (wp T a).e (wp T b).e)
  | _ => ⟨fun _ _ _ => False, fun _ _ _ => False, fun _ _ _ => False, fun _ _ _ => False⟩
abbrev wpE (T : Tab) (m : E) := (wp T m).e
abbrev wpT (T : Tab) (m : E) := (wp T m).t
abbrev wpA (T : Tab) (m : E) := (wp T m).a
abbrev wpI (T : Tab) (m : E) := (wp T m).i
structure Post where
  nx : Env → Prop
  rt : D → Prop
  bk : Env → Prop
  ct : Env → Prop
  xc : XP
abbrev TrS := Env → Post → Prop
def wSeq (f g : TrS) : TrS := fun e P => f e { P with nx := fun e1 => g e1 P }
def setK (i : Nat) (k : Env → Prop) : W → Env → Prop
  | .bor _, _ => False
  | .val d, e => k (put e i (.val d))
  | .own o, e => k (put e i (.own o))
def wSet (i : Nat) (f : TrE) : TrS := fun e P => f e (setK i P.nx) P.xc
def wPar (i j : Nat) (fa fb : TrE) : TrS := fun e P => fa e (fun wa e1 => fb e1 (fun wb e2 => setK i (fun e3 => setK j P.nx wb e3) wa e2) P.xc) P.xc
def wUnp (is : List Nat) (f : TrE) : TrS := fun e P => f e (fun w e1 => sat w.toD fun d => bindT is false d e1 P.nx) P.xc
def setIxK (i : Nat) (d : D) (k : D) (e : Env) (Q : Env → Prop) : Prop := match get e i, k with
    | some (.own (.lst xs)), .int k => sat (ixN xs.length k) fun j => Q (put e i (.own (.lst (xs.set j d))))
    | _, _ => False
def wSetIx (i : Nat) (fi f : TrE) : TrS := fun e P => f e (fun w e1 => sat w.toD fun d => sat (get e1 i) fun _ => fi e1 (fun wi e2 => sat (wi.res e2) fun k => setIxK i d k e2 P.nx) P.xc) P.xc
def wExpr (f : TrE) : TrS := fun e P => f e (fun _ e1 => P.nx e1) P.xc
def wIte (t : Env → (Bool → Env → Prop) → XP → Prop) (f g : TrS) : TrS := fun e P => t e (fun k e1 => if k = true then f e1 P else g e1 P) P.xc
def wWhl (t : Env → (Bool → Env → Prop) → XP → Prop) (f : TrS) : TrS := fun e P => ∃ I : Nat → Env → Prop, (∃ m, I m e) ∧ ∀ m e, I m e →
  t e (fun k e1 => if k = true then f e1 { P with nx := fun e2 => ∃ m', m' < m ∧ I m' e2, ct := fun e2 => ∃ m', m' < m ∧ I m' e2, bk := P.nx } else P.nx e1) P.xc
def forF (tg : List Nat) (one : Bool) (f : TrS) (P : Post) : D → Env → (Env → Prop) → Prop := fun d e2 k => bindT tg one d e2 fun e3 => f e3 { P with nx := k, ct := k, bk := P.nx }
def wFor (tg : List Nat) (one : Bool) (fi : Env → (List D → Env → Prop) → XP → Prop) (f : TrS) : TrS := fun e P => fi e (fun items e1 => forL (forF tg one f P) items e1 P.nx) P.xc
def wRet (f : TrE) : TrS := fun e P => f e (fun w _ => sat w.toD P.rt) P.xc
def wpS (T : Tab) : S → TrS
  | .skip => fun e P => P.nx e
  | .seq a b => wSeq (wpS T a) (wpS T b)
  | .set i x => wSet i (wp T x).e
  | .par i j a b => wPar i j (wp T a).e (wp T b).e
  | .unp is x => wUnp is (wp T x).e
  | .setIx i ix x => wSetIx i (wp T ix).e (wp T x).e
  | .expr x => wExpr (wp T x).e
  | .ite t a b => wIte (wp T t).t (wpS T a) (wpS T b)
  | .whl t b => wWhl (wp T t).t (wpS T b)
  | .forr tg one it b => wFor tg one (wp T it).i (wpS T b)
  | .ret x => wRet (wp T x).e
  | .retN => fun _ P => P.rt .non
  | .brk => fun e P => P.bk e
  | .cont => fun e P => P.ct e
  | _ => fun _ _ => False
end VL

set_option Elab.async false
set_option linter.all false
set_option maxRecDepth 100000
set_option maxHeartbeats 4000000
namespace VL
open PySem L2

theorem sat.imp {α : Type} {o : Option α} {Q Q' : α → Prop} (h : sat o Q) (i : ∀ d, Q d → Q' d) : sat o Q' := by
  cases o with
  | none => exact h
  | some d => exact i d h
theorem sat2.imp {α : Type} {o : Option (Prop × α)} {Q Q' : α → Prop} (h : sat2 o Q) (i : ∀ d, Q d → Q' d) : sat2 o Q' := by
  cases o with
  | none => exact h
  | some d => exact ⟨h.1, i d.2 h.2⟩
theorem sat_iff {α : Type} {o : Option α} {Q : α → Prop} : sat o Q ↔ ∃ d, o = some d ∧ Q d := by
  cases o with
  | none => exact ⟨fun h => h.elim, fun ⟨_, h, _⟩ => nomatch h⟩
  | some d => exact ⟨fun h => ⟨d, rfl, h⟩, fun ⟨_, h, q⟩ => by cases h; exact q⟩
theorem sat2_iff {α : Type} {o : Option (Prop × α)} {Q : α → Prop} : sat2 o Q ↔ ∃ c d, o = some (c, d) ∧ c ∧ Q d := by
  cases o with
  | none => exact ⟨fun h => h.elim, fun ⟨_, _, h, _⟩ => nomatch h⟩
  | some d => exact ⟨fun h => ⟨d.1, d.2, rfl, h.1, h.2⟩, fun ⟨_, _, h, c, q⟩ => by cases h; exact ⟨c, q⟩⟩
theorem ap.imp {sp : FSpec} {ds : List D} {Q Q' : D → Prop} {X X' : Exc → Prop} (h : ap sp ds Q X) (i : ∀ d, Q d → Q' d) (j : ∀ x, X x → X' x) : ap sp ds Q' X' := by
  obtain ⟨Q0, X0, h1, h2, h3⟩ := h
  exact ⟨Q0, X0, h1, fun d q => i d (h2 d q), fun x q => j x (h3 x q)⟩
theorem ite_imp {c : Bool} {A A' B B' : Prop} (h : if c = true then A else B) (i : A → A') (j : B → B') : if c = true then A' else B' := by
  cases c
  · exact j h
  · exact i h
theorem bindT.imp {tg : List Nat} {one : Bool} {d : D} {e : Env} {k k' : Env → Prop} (h : bindT tg one d e k) (i : ∀ e, k e → k' e) : bindT tg one d e k' := by
  unfold bindT at h ⊢
  split at h
  · exact i _ h
  · exact ⟨h.1, i _ h.2⟩
  · exact h.elim
theorem lcL.imp {f f' : D → (Option D → Prop) → Prop} (hf : ∀ d k k', (∀ r, k r → k' r) → f d k → f' d k') : ∀ {items acc : List D} {Q Q' : List D → Prop}, lcL f items acc Q → (∀ ys, Q ys → Q' ys) → lcL f' items acc Q'
  | [], acc, Q, Q', h, i => i acc h
  | d :: ds, acc, Q, Q', h, i => by
    refine hf d _ _ (fun r => ?_) h
    cases r with
    | none => exact fun q => lcL.imp hf q i
    | some y => exact fun q => lcL.imp hf q i
theorem forL.imp {f f' : D → Env → (Env → Prop) → Prop} (hf : ∀ d e k k', (∀ e, k e → k' e) → f d e k → f' d e k') : ∀ {items : List D} {e : Env} {Q Q' : Env → Prop}, forL f items e Q → (∀ e, Q e → Q' e) → forL f' items e Q'
  | [], e, Q, Q', h, i => i e h
  | d :: ds, e, Q, Q', h, i => hf d e _ _ (fun e' q => forL.imp hf q i) h

abbrev Mn (α : Type) (f : Env → (α → Env → Prop) → XP → Prop) : Prop := ∀ e Q Q' X X', (∀ w e, Q w e → Q' w e) → (∀ x e, X x e → X' x e) → f e Q X → f e Q' X'
structure Mo (r : R4) : Prop where
  e : Mn W r.e
  t : Mn Bool r.t
  a : Mn (List W) r.a
  i : Mn (List D) r.i
theorem Mo.E {f : TrE} (h : Mn W f) : Mo (mkE f) := ⟨h, fun e Q Q' X X' q x p => h _ _ _ _ _ (fun w e r => r.imp fun _ r => r.imp fun _ r => q _ _ r) x p, fun _ _ _ _ _ _ _ p => p, fun e Q Q' X X' q x p => h _ _ _ _ _ (fun w e r => r.imp fun _ r => r.imp fun _ r => q _ _ r) x p⟩
theorem Mo.T {f : TrE} {t : Env → (Bool → Env → Prop) → XP → Prop} (h : Mn W f) (ht : Mn Bool t) : Mo (mkT f t) := ⟨h, ht, fun _ _ _ _ _ _ _ p => p, fun e Q Q' X X' q x p => h _ _ _ _ _ (fun w e r => r.imp fun _ r => r.imp fun _ r => q _ _ r) x p⟩
theorem Mo.A {a : Env → (List W → Env → Prop) → XP → Prop} (h : Mn (List W) a) : Mo (mkA a) := ⟨fun _ _ _ _ _ _ _ p => p, fun _ _ _ _ _ _ _ p => p, h, fun _ _ _ _ _ _ _ p => p⟩
theorem Mo.I {a : Env → (List D → Env → Prop) → XP → Prop} (h : Mn (List D) a) : Mo (mkI a) := ⟨fun _ _ _ _ _ _ _ p => p, fun _ _ _ _ _ _ _ p => p, fun _ _ _ _ _ _ _ p => p, h⟩
theorem Mo.F : Mo ⟨fun _ _ _ => False, fun _ _ _ => False, fun _ _ _ => False, fun _ _ _ => False⟩ := ⟨fun _ _ _ _ _ _ _ p => p, fun _ _ _ _ _ _ _ p => p, fun _ _ _ _ _ _ _ p => p, fun _ _ _ _ _ _ _ p => p⟩
theorem Mn.c (d : D) : Mn W (wC d) := fun _ _ _ _ _ q _ p => q _ _ p
theorem w2.imp {fa fb : TrE} (ia : Mn W fa) (ib : Mn W fb) {k k' : D → D → Env → Prop} {e : Env} {X X' : XP} (hk : ∀ a b e, k a b e → k' a b e) (x : ∀ y e, X y e → X' y e) (p : w2 fa fb k e X) : w2 fa fb k' e X' :=
  ia _ _ _ _ _ (fun w e1 p => ib _ _ _ _ _ (fun w e1 p => p.imp fun _ p => p.imp fun _ p => hk _ _ _ p) x p) x p
theorem mn_part {f : TrE} (h : Mn W f) : Mn (Option Int) (wPart f) := fun e Q Q' X X' q x p => h _ _ _ _ _ (fun w e1 p => p.imp fun d p => by
    cases d <;> first | exact p.elim | exact q _ _ p) x p
theorem mn_pick {f : TrE} (h : Mn W f) {b : Bool} : Mn (Option Int) (pick b f) := by
  cases b with
  | true => exact fun e Q Q' X X' q x p => q _ _ p
  | false => exact mn_part h
theorem mo (T : Tab) (m : E) : Mo (wp T m) := by
  induction m with
  | var i =>
    refine .E fun e Q Q' X X' q x p => ?_
    unfold wVar at p ⊢
    split at p
    · exact q _ _ p
    · exact q _ _ p
    · exact p.elim
  | bor i => exact .E fun e Q Q' X X' q x p => sat.imp p fun _ p => q _ _ p
  | int n => exact .E (.c _)
  | str n => exact .E (.c _)
  | bl n => exact .E (.c _)
  | non => exact .E (.c _)
  | bin op a b ia ib => exact .E fun e Q Q' X X' q x p => w2.imp ia.e ib.e (fun _ _ _ p => p.imp fun _ p => q _ _ p) x p
  | neg a ia =>
    refine .E fun e Q Q' X X' q x p => ?_
    refine ia.e _ _ _ _ _ (fun w e1 p => p.imp fun d p => ?_) x p
    cases d <;> first | exact p.elim | exact q _ _ p
  | inv a ia => exact .F
  | cmp op a b ia ib => exact .T (fun e Q Q' X X' q x p => w2.imp ia.e ib.e (fun _ _ _ p => p.imp fun _ p => q _ _ p) x p) (fun e Q Q' X X' q x p => w2.imp ia.e ib.e (fun _ _ _ p => p.imp fun _ p => q _ _ p) x p)
  | chain op op' a b c ia ib ic =>
    have h : Mn Bool (wChainT op op' (wp T a).e (wp T b).e (wp T c).e) := fun e Q Q' X X' q x p => ia.e _ _ _ _ _ (fun w e1 p => ib.e _ _ _ _ _ (fun w e1 p => p.imp fun _ p => p.imp fun _ p => p.imp fun k p => ite_imp p
      (fun p => ic.e _ _ _ _ _ (fun w e1 p => p.imp fun _ p => p.imp fun _ p => p.imp fun _ p => q _ _ p) x p) (fun p => q _ _ p)) x p) x p
    exact Mo.T (fun e Q Q' X X' q x p => h _ _ _ _ _ (fun k e1 p => q _ _ p) x p) h
  | and_ a b ia ib =>
    refine Mo.T (fun e Q Q' X X' q x p => ?_) (fun e Q Q' X X' q x p => ?_)
    · exact ia.e _ _ _ _ _ (fun w e1 p => p.imp fun _ p => p.imp fun k p => ite_imp p (fun p => ib.e _ _ _ _ _ q x p) (fun p => q _ _ p)) x p
    · exact ia.t _ _ _ _ _ (fun k e1 p => ite_imp p (fun p => ib.t _ _ _ _ _ q x p) (fun p => q _ _ p)) x p
  | or_ a b ia ib =>
    refine Mo.T (fun e Q Q' X X' q x p => ?_) (fun e Q Q' X X' q x p => ?_)
    · exact ia.e _ _ _ _ _ (fun w e1 p => p.imp fun _ p => p.imp fun k p => ite_imp p (fun p => q _ _ p) (fun p => ib.e _ _ _ _ _ q x p)) x p
    · exact ia.t _ _ _ _ _ (fun k e1 p => ite_imp p (fun p => q _ _ p) (fun p => ib.t _ _ _ _ _ q x p)) x p
  | not_ a ia => exact Mo.T (fun e Q Q' X X' q x p => ia.e _ _ _ _ _ (fun w e r => r.imp fun _ r => r.imp fun _ r => q _ _ r) x p) (fun e Q Q' X X' q x p => ia.t _ _ _ _ _ (fun w e1 p => q _ _ p) x p)
  | ife t a b it ia ib =>
    refine Mo.T (fun e Q Q' X X' q x p => ?_) (fun e Q Q' X X' q x p => ?_)
    · exact it.t _ _ _ _ _ (fun k e1 p => ite_imp p (fun p => ia.e _ _ _ _ _ q x p) (fun p => ib.e _ _ _ _ _ q x p)) x p
    · exact it.t _ _ _ _ _ (fun k e1 p => ite_imp p (fun p => ia.t _ _ _ _ _ q x p) (fun p => ib.t _ _ _ _ _ q x p)) x p
  | nil => exact .A fun e Q Q' X X' q x p => q _ _ p
  | cons a as ia ias => exact .A fun e Q Q' X X' q x p => ia.e _ _ _ _ _ (fun w e1 p => ias.a _ _ _ _ _ (fun ws e2 p => q _ _ p) x p) x p
  | star a as ia ias => exact .F
  | tup as ia => exact .E fun e Q Q' X X' q x p => ia.a _ _ _ _ _ (fun ws e1 p => p.imp fun _ p => ⟨p.1, q _ _ p.2⟩) x p
  | lst as ia => exact .E fun e Q Q' X X' q x p => ia.a _ _ _ _ _ (fun ws e1 p => p.imp fun _ p => ⟨p.1, q _ _ p.2⟩) x p
  | idx a b ia ib => exact .E fun e Q Q' X X' q x p => w2.imp ia.e ib.e (fun _ _ _ p => p.imp fun _ p => q _ _ p) x p
  | cut a b c ia ib ic =>
    refine .E fun e Q Q' X X' q x p => ?_
    exact ia.e _ _ _ _ _ (fun w e1 p => mn_pick ib.e _ _ _ _ _ (fun w e1 p => mn_pick ic.e _ _ _ _ _ (fun w e1 p => p.imp fun _ p => p.imp fun _ p => q _ _ p) x p) x p) x p
  | nopart => exact .E (.c _)
  | rev a ia => exact .F
  | glob s => exact .E fun e Q Q' X X' q x p => sat.imp p fun _ p => q _ _ p
  | bty n => exact .E (.c _)
  | call f as ia => exact .E fun e Q Q' X X' q x p => ia.a _ _ _ _ _ (fun ws e1 p => p.imp fun _ p => p.imp fun _ p => p.imp (fun _ p => q _ _ p) (fun _ p => x _ _ p)) x p
  | bcall f as ia => exact .E fun e Q Q' X X' q x p => ia.a _ _ _ _ _ (fun ws e1 p => p.imp fun _ p => p.imp fun _ p => q _ _ p) x p
  | app i a ia =>
    refine .E fun e Q Q' X X' q x p => ?_
    unfold wApp at p ⊢
    split at p
    · refine ia.e _ _ _ _ _ (fun w e1 p => sat.imp p fun d p => ?_) x p
      split at p
      · exact ⟨p.1, q _ _ p.2⟩
      · exact p.elim
    · exact p.elim
  | pop i =>
    refine .E fun e Q Q' X X' q x p => ?_
    unfold wPop at p ⊢
    split at p
    · exact sat.imp p fun _ p => q _ _ p
    · exact p.elim
  | meth o m as io ia => exact .F
  | bmeth o m as io ia => exact .F
  | fld o f io => exact .F
  | lc fz own tg one it test elt ii it ie =>
    refine .E fun e Q Q' X X' q x p => ?_
    exact ii.i _ _ _ _ _ (fun items e1 p => lcL.imp (fun d k k' hk p => p.imp fun e2 p => it.t _ _ _ _ _ (fun b e3 p => ⟨p.1, ite_imp p.2 (fun p => ie.e _ _ _ _ _ (fun w e4 p => ⟨p.1, p.2.imp fun _ p => hk _ p⟩) (fun _ _ z => z) p) (fun p => hk _ p)⟩) (fun _ _ z => z) p) p fun ys p => q _ _ p) x p
  | lc2 fz own own1 tg one it tg1 one1 it1 elt i1 i2 i3 => exact .F
  | yes => exact ⟨fun _ _ _ _ _ _ _ p => p, fun e Q Q' X X' q x p => q _ _ p, fun _ _ _ _ _ _ _ p => p, fun _ _ _ _ _ _ _ p => p⟩
  | rng1 a ia =>
    refine .I fun e Q Q' X X' q x p => ?_
    refine ia.e _ _ _ _ _ (fun w e1 p => p.imp fun d p => ?_) x p
    cases d <;> first | exact p.elim | exact ⟨p.1, p.2.1, q _ _ p.2.2⟩
  | rng2 a b ia ib =>
    refine .I fun e Q Q' X X' q x p => w2.imp ia.e ib.e (fun _ _ _ p => ?_) x p
    split at p
    · exact ⟨p.1, p.2.1, p.2.2.1, q _ _ p.2.2.2⟩
    · exact p.elim
  | rng3 a b c ia ib ic => exact .F
  | enum a ia =>
    refine .I fun e Q Q' X X' q x p => ?_
    refine ia.e _ _ _ _ _ (fun w e1 p => p.imp fun d p => ?_) x p
    cases d <;> first | exact p.elim | exact q _ _ p
  | zip a b ia ib =>
    refine .I fun e Q Q' X X' q x p => ?_
    refine ia.e _ _ _ _ _ (fun w e1 p => ib.e _ _ _ _ _ (fun w e1 p => p.imp fun d p => p.imp fun d' p => ?_) x p) x p
    split at p
    · exact q _ _ p
    · exact p.elim
  | revd a ia => exact .F
/-! ### statements -/
structure Pimp (P P' : Post) : Prop where
  nx : ∀ e, P.nx e → P'.nx e
  rt : ∀ d, P.rt d → P'.rt d
  bk : ∀ e, P.bk e → P'.bk e
  ct : ∀ e, P.ct e → P'.ct e
  xc : ∀ x e, P.xc x e → P'.xc x e
abbrev Ms (f : TrS) : Prop := ∀ e P P', Pimp P P' → f e P → f e P'
theorem setK.imp {i : Nat} {k k' : Env → Prop} {w : W} {e : Env} (h : setK i k w e) (m : ∀ e, k e → k' e) : setK i k' w e := by
  cases w with
  | bor j => exact h
  | val d => exact m _ h
  | own o => exact m _ h
theorem setIxK.imp {i : Nat} {d k : D} {Q Q' : Env → Prop} {e : Env} (h : setIxK i d k e Q) (m : ∀ e, Q e → Q' e) : setIxK i d k e Q' := by
  unfold setIxK at h ⊢
  split at h
  · exact sat.imp h fun _ h => m _ h
  · exact h.elim
theorem ms_seq {f g : TrS} (hf : Ms f) (hg : Ms g) : Ms (wSeq f g) := fun e P P' m h => hf e { P with nx := fun e1 => g e1 P } _ ⟨fun e h => hg _ _ _ m h, m.rt, m.bk, m.ct, m.xc⟩ h
theorem ms_set {i : Nat} {f : TrE} (hf : Mn W f) : Ms (wSet i f) := fun e P P' m h => hf _ _ _ _ _ (fun w e h => h.imp m.nx) m.xc h
theorem ms_par {i j : Nat} {f g : TrE} (hf : Mn W f) (hg : Mn W g) : Ms (wPar i j f g) := fun e P P' m h => hf _ _ _ _ _ (fun w e h => hg _ _ _ _ _ (fun w e h => h.imp fun e h => h.imp m.nx) m.xc h) m.xc h
theorem ms_unp {is : List Nat} {f : TrE} (hf : Mn W f) : Ms (wUnp is f) := fun e P P' m h => hf _ _ _ _ _ (fun w e h => h.imp fun d h => h.imp m.nx) m.xc h
theorem ms_setIx {i : Nat} {f g : TrE} (hf : Mn W f) (hg : Mn W g) : Ms (wSetIx i f g) := fun e P P' m h => hg _ _ _ _ _ (fun w e h => h.imp fun d h => h.imp fun _ h => hf _ _ _ _ _ (fun w e h => h.imp fun d h => h.imp m.nx) m.xc h) m.xc h
theorem ms_expr {f : TrE} (hf : Mn W f) : Ms (wExpr f) := fun e P P' m h => hf _ _ _ _ _ (fun w e h => m.nx _ h) m.xc h
theorem ms_ite {t : Env → (Bool → Env → Prop) → XP → Prop} {f g : TrS} (ht : Mn Bool t) (hf : Ms f) (hg : Ms g) : Ms (wIte t f g) := fun e P P' m h => ht _ _ _ _ _ (fun k e h => ite_imp h (hf _ _ _ m) (hg _ _ _ m)) m.xc h
theorem ms_whl {t : Env → (Bool → Env → Prop) → XP → Prop} {f : TrS} (ht : Mn Bool t) (hf : Ms f) : Ms (wWhl t f) := fun e P P' m ⟨I, h0, h⟩ => ⟨I, h0, fun n e hi => ht _ _ _ _ _ (fun k e h => ite_imp h (hf _ { P with nx := fun e2 => ∃ m', m' < n ∧ I m' e2, ct := fun e2 => ∃ m', m' < n ∧ I m' e2, bk := P.nx } _ ⟨fun _ h => h, m.rt, m.nx, fun _ h => h, m.xc⟩) (m.nx _)) m.xc (h n e hi)⟩
theorem forF.imp {tg : List Nat} {one : Bool} {f : TrS} (hf : Ms f) {P P' : Post} (m : Pimp P P') (d : D) (e : Env) (k k' : Env → Prop) (hk : ∀ e, k e → k' e) (h : forF tg one f P d e k) : forF tg one f P' d e k' :=
  bindT.imp h fun e h => hf e { P with nx := k, ct := k, bk := P.nx } { P' with nx := k', ct := k', bk := P'.nx } ⟨hk, m.rt, m.nx, hk, m.xc⟩ h
theorem ms_for {tg : List Nat} {one : Bool} {fi : Env → (List D → Env → Prop) → XP → Prop} {f : TrS} (hi : Mn (List D) fi) (hf : Ms f) : Ms (wFor tg one fi f) := fun e P P' m h =>
  hi _ _ _ _ _ (fun items e h => forL.imp (forF.imp hf m) h m.nx) m.xc h
theorem ms_ret {f : TrE} (hf : Mn W f) : Ms (wRet f) := fun e P P' m h => hf _ _ _ _ _ (fun w e h => h.imp m.rt) m.xc h
theorem ms (T : Tab) (s : S) : Ms (wpS T s) := by
  induction s with
  | skip => exact fun e P P' m h => m.nx _ h
  | seq a b ha hb => exact ms_seq ha hb
  | set i x => exact ms_set (mo T x).e
  | par i j a b => exact ms_par (mo T a).e (mo T b).e
  | unp is x => exact ms_unp (mo T x).e
  | setIx i ix x => exact ms_setIx (mo T ix).e (mo T x).e
  | aug i op x => exact fun e P P' m h => h
  | setF o f x => exact fun e P P' m h => h
  | expr x => exact ms_expr (mo T x).e
  | ite t a b ha hb => exact ms_ite (mo T t).t ha hb
  | whl t b hb => exact ms_whl (mo T t).t hb
  | forr tg one it b hb => exact ms_for (mo T it).i hb
  | ret x => exact ms_ret (mo T x).e
  | retN => exact fun e P P' m h => m.rt _ h
  | brk => exact fun e P P' m h => m.bk _ h
  | cont => exact fun e P P' m h => m.ct _ h
  | raise c as => exact fun e P P' m h => h
  | tryAs b c i h ib ih => exact fun e P P' m h => h
end VL

set_option Elab.async false
set_option linter.all false
set_option maxRecDepth 100000
set_option maxHeartbeats 4000000
namespace VL
open PySem L2

theorem get_iff : ∀ {e : Env} {i : Nat} {w : W}, get e i = some w ↔ e[i]? = some (some w)
  | [], i, w => by simp [get]
  | x :: e, 0, w => by simp [get]
  | x :: e, i + 1, w => by simp [get, get_iff (e := e)]
theorem put_eq : ∀ (e : Env) (i : Nat) (w : W), put e i w = e.set i (some w)
  | [], _, _ => by simp [put]
  | x :: e, 0, w => by simp [put]
  | x :: e, i + 1, w => by simp [put, put_eq e i w]
theorem clr_eq : ∀ (e : Env) (i : Nat), clr e i = e.set i none
  | [], _ => by simp [clr]
  | x :: e, 0 => by simp [clr]
  | x :: e, i + 1 => by simp [clr, clr_eq e i]

/-- exceptions -/
def RepX (C : Cn) (S : G) (cls : Value) (d : Option Addr) (x : Exc) : Prop :=
  ∃ (Ca dd : Addr) (nm : Str) (v : V), C.cl x.c = some Ca ∧ cls = .ref Ca ∧ d = some dd ∧ S.H dd = some (.xd [(nm, v)]) ∧ Rep C S v x.a

structure At (C : Cn) (S : G) (e : Env) (σ : L2.St) : Prop where
  wf : WF S
  re : RepEnv C S e σ
def Got (C : Cn) (S0 : G) (e : Env) (σ : L2.St) (S : G) (v : V) (w : W) : Prop := RepW C σ S v w ∧ ∀ o p, w = .own o → v = .ref p → ¬ Own e σ p ∧ S0.H p = none
def post (C : Cn) (e : Env) (σ : L2.St) (S : G) (Q : VK) : W → Env → Prop := fun w e' => ∀ v S', At C S' e' σ → Ext e σ S e' σ S' → Got C S e' σ S' v w → Q v S'.H
def xpost (C : Cn) (e : Env) (σ : L2.St) (S : G) (Wx : WX) : XP := fun x e' => ∀ cls d S', At C S' e' σ → Ext e σ S e' σ S' → RepX C S' cls d x → Wx cls d σ S'.H
def rd (C : Cn) (Wx : WX) (f : TrE) : TE := fun σ H Q => ∃ S e, S.H = H ∧ At C S e σ ∧ f e (post C e σ S Q) (xpost C e σ S Wx)
def tpost (C : Cn) (e : Env) (σ : L2.St) (S : G) (Q : Bool → Hp → Prop) : Bool → Env → Prop := fun k e' => ∀ S', At C S' e' σ → Ext e σ S e' σ S' → Q k S'.H
def rdT (C : Cn) (Wx : WX) (f : Env → (Bool → Env → Prop) → XP → Prop) : TT := fun σ H Q => ∃ S e, S.H = H ∧ At C S e σ ∧ f e (tpost C e σ S Q) (xpost C e σ S Wx)
/-- what an argument is: frozen at once, or a slot lent -/
def Arg (C : Cn) (σ : L2.St) (S : G) (v : V) : W → Prop
  | .val d => Rep C S v d
  | .own o => Rep C S v o.frz
  | .bor i => σ[i]? = some (some v)
inductive Args (C : Cn) (σ : L2.St) (S : G) : List V → List W → Prop
  | nil : Args C σ S [] []
  | cons {v : V} {w : W} {vs : List V} {ws : List W} : Arg C σ S v w → Args C σ S vs ws → Args C σ S (v :: vs) (w :: ws)
def apost (C : Cn) (e : Env) (σ : L2.St) (S : G) (Q : List V → Hp → Prop) : List W → Env → Prop := fun ws e' => ∀ vs S', At C S' e' σ → Ext e σ S e' σ S' → Args C σ S' vs ws → Q vs S'.H
def rdA (C : Cn) (Wx : WX) (f : Env → (List W → Env → Prop) → XP → Prop) : TA := fun σ H Q => ∃ S e, S.H = H ∧ At C S e σ ∧ f e (apost C e σ S Q) (xpost C e σ S Wx)

theorem Got.mono {C : Cn} {e e' : Env} {σ : L2.St} {S0 S S' : G} {v : V} {w : W} (x : Ext e σ S e' σ S') (h : Got C S0 e σ S v w) : Got C S0 e' σ S' v w := by
  obtain ⟨h1, h2⟩ := h
  cases w with
  | val d => exact ⟨Rep.mono x.up h1, fun o p e => nomatch e⟩
  | own o =>
    obtain ⟨p, rfl, nf, nd, ho⟩ := h1
    obtain ⟨no, nn⟩ := h2 o p rfl rfl
    obtain ⟨u, hu⟩ := ho.there
    have k := x.kp p u hu nf nd no
    refine ⟨⟨p, rfl, k.2.1, k.2.2.1, ho.mono x.up fun u hu => (x.kp p u hu nf nd no).1⟩, fun o' q e1 e2 => ?_⟩
    cases e2
    exact ⟨k.2.2.2, nn⟩
  | bor i => exact ⟨h1, fun o p e => nomatch e⟩
theorem Got.from {C : Cn} {e0 e1 e : Env} {σ : L2.St} {S0 S1 S : G} {v : V} {w : W} (x : Ext e0 σ S0 e1 σ S1) (h : Got C S1 e σ S v w) : Got C S0 e σ S v w :=
  ⟨h.1, fun o p a b => ⟨(h.2 o p a b).1, x.dm p (h.2 o p a b).2⟩⟩
theorem Arg.mono {C : Cn} {σ : L2.St} {S S' : G} {v : V} {w : W} (x : Up S S') (h : Arg C σ S v w) : Arg C σ S' v w := by
  cases w with
  | val d => exact Rep.mono x h
  | own o => exact Rep.mono (d := o.frz) x h
  | bor i => exact h
theorem Args.mono {C : Cn} {σ : L2.St} {S S' : G} (x : Up S S') : ∀ {vs : List V} {ws : List W}, Args C σ S vs ws → Args C σ S' vs ws
  | _, _, .nil => .nil
  | _, _, .cons h r => .cons (h.mono x) (r.mono x)
theorem RepO.frz {C : Cn} {S : G} {p : Addr} {o : O} (h : RepO C S p o) (f : S.F p) : Rep C S (.ref p) o.frz := by
  cases o with
  | lst xs =>
    obtain ⟨vs, h1, h2, h3⟩ := h
    exact .lst f h1 h2 h3
  | dct ks ds =>
    obtain ⟨kvs, h1, h2, h3⟩ := h
    exact .dct f (.inl h1) h2 h3
/-- one more address is frozen, no slot's own -/
theorem At.frz {C : Cn} {e : Env} {σ : L2.St} {S : G} {p : Addr} (a : At C S e σ) (th : ∃ u, S.H p = some u) (nd : ¬ S.Dl p) (no : ¬ Own e σ p) : At C { S with F := fun a => S.F a ∨ a = p } e σ := by
  have u : Up S { S with F := fun a => S.F a ∨ a = p } := .frz S _ fun _ h => .inl h
  refine ⟨⟨fun b f => ?_, a.wf.deal, fun b d f => ?_, a.wf.dis⟩, a.re.len, fun j w h => ?_, a.re.dis, a.re.nb⟩
  · rcases f with f | rfl
    · exact a.wf.dom b f
    · exact th
  · rcases f with f | rfl
    · exact a.wf.nf b d f
    · exact nd d
  · obtain ⟨v', f1, f2⟩ := a.re.at_ j w h
    refine ⟨v', f1, ?_⟩
    cases w with
    | val d => exact Rep.mono u f2
    | bor k => exact f2
    | own o' =>
      obtain ⟨q, rfl, nf', nd', ho'⟩ := f2
      have qp : q ≠ p := fun z => by
        subst z
        exact no ⟨j, o', h, f1⟩
      exact ⟨q, rfl, fun z => z.elim nf' qp, nd', ho'.mono u fun _ h => h⟩
/-- what was got, frozen -/
theorem Got.frz {C : Cn} {e e' : Env} {σ : L2.St} {S S' : G} {v : V} {w : W} (a : At C S' e' σ) (x : Ext e σ S e' σ S') (g : Got C S e' σ S' v w) : ∃ S'', S''.H = S'.H ∧ At C S'' e' σ ∧ Ext e σ S e' σ S'' ∧ Up S' S'' ∧ Arg C σ S'' v w := by
  cases w with
  | val d => exact ⟨S', rfl, a, x, .refl _, g.1⟩
  | bor i => exact ⟨S', rfl, a, x, .refl _, g.1⟩
  | own o =>
    obtain ⟨⟨p, rfl, nf, nd, ho⟩, no⟩ := g
    obtain ⟨no, nn⟩ := no o p rfl rfl
    have u : Up S' { S' with F := fun a => S'.F a ∨ a = p } := .frz S' _ fun _ h => .inl h
    have x1 : Ext e σ S e' σ { S' with F := fun a => S'.F a ∨ a = p } := by
      refine ⟨x.up.trans u, fun b u h1 h2 h3 h4 => ?_, x.dm⟩
      obtain ⟨k1, k2, k3, k4⟩ := x.kp b u h1 h2 h3 h4
      refine ⟨k1, fun z => ?_, k3, k4⟩
      rcases z with z | rfl
      · exact k2 z
      · rw [nn] at h1; cases h1
    exact ⟨{ S' with F := fun a => S'.F a ∨ a = p }, rfl, a.frz ho.there nd no, x1, u, RepO.frz (ho.mono u fun _ h => h) (.inr rfl)⟩
theorem Arg.toD {C : Cn} {σ : L2.St} {S : G} {v : V} {w : W} {d : D} (h : Arg C σ S v w) (r : w.toD = some d) : Rep C S v d := by
  cases w with
  | val d' => cases r; exact h
  | own o => cases r; exact h
  | bor i => cases r
theorem Args.toDs {C : Cn} {σ : L2.St} {S : G} : ∀ {vs : List V} {ws : List W} {ds : List D}, Args C σ S vs ws → VL.toDs ws = some ds → Reps C S vs ds
  | _, _, _, .nil, r => by cases r; exact .nil
  | _, w :: ws, ds, .cons h t, r => by
    unfold VL.toDs at r
    split at r
    · rename_i d ds' h1 h2
      cases r
      exact .cons (h.toD h1) (t.toDs h2)
    · cases r
theorem slot_res {C : Cn} {e : Env} {σ : L2.St} {S : G} {v : V} {i : Nat} {d : D} (a : At C S e σ) (hv : σ[i]? = some (some v)) (r : slotD e i = some d) : Rop C S v d := by
  unfold slotD at r
  split at r
  · rename_i d' g
    cases r
    obtain ⟨v', e1, e2⟩ := a.re.at_ i _ (get_iff.mp g)
    rw [hv] at e1
    cases e1
    exact .inl e2
  · rename_i o g
    cases r
    obtain ⟨v', e1, e2⟩ := a.re.at_ i _ (get_iff.mp g)
    rw [hv] at e1
    cases e1
    obtain ⟨p, rfl, nf, nd, ho⟩ := e2
    exact .inr ⟨p, o, rfl, rfl, ho⟩
  · cases r
inductive Rops (C : Cn) (S : G) : List V → List D → Prop
  | nil : Rops C S [] []
  | cons {v : V} {d : D} {vs : List V} {ds : List D} : Rop C S v d → Rops C S vs ds → Rops C S (v :: vs) (d :: ds)
theorem Arg.res {C : Cn} {e : Env} {σ : L2.St} {S : G} {v : V} {w : W} {d : D} (a : At C S e σ) (h : Arg C σ S v w) (r : w.res e = some d) : Rop C S v d := by
  cases w with
  | val d' => cases r; exact .inl h
  | own o => cases r; exact .inl h
  | bor i => exact slot_res a h r
theorem Args.ress {C : Cn} {e : Env} {σ : L2.St} {S : G} (a : At C S e σ) : ∀ {vs : List V} {ws : List W} {ds : List D}, Args C σ S vs ws → VL.ress e ws = some ds → Rops C S vs ds
  | _, _, _, .nil, r => by cases r; exact .nil
  | _, w :: ws, ds, .cons h t, r => by
    unfold VL.ress at r
    split at r
    · rename_i d ds' h1 h2
      cases r
      exact .cons (h.res a h1) (Args.ress a t h2)
    · cases r
/-- what was got, at the moment of its use -/
theorem Got.res {C : Cn} {e : Env} {σ : L2.St} {S0 S : G} {v : V} {w : W} {d : D} (a : At C S e σ) (h : Got C S0 e σ S v w) (r : w.res e = some d) : Rop C S v d := by
  cases w with
  | val d' => cases r; exact .inl h.1
  | own o =>
    cases r
    obtain ⟨p, rfl, nf, nd, ho⟩ := h.1
    exact .inr ⟨p, o, rfl, rfl, ho⟩
  | bor i => exact slot_res a h.1 r

/-! ### new things -/
inductive New (C : Cn) (S : G) : G → V → W → Prop
  | same {v : V} {d : D} : Rep C S v d → New C S S v (.val d)
  | lst {p : Addr} {vs : List V} {xs : List D} : S.H p = none → Reps C S vs xs → xs.length ≤ sizeLine → New C S { S with H := upd S.H p (.lst vs) } (.ref p) (.own (.lst xs))
  | tup {p : Addr} {vs : List V} {xs : List D} : S.H p = none → Reps C S vs xs → xs.length ≤ sizeLine → New C S { S with H := upd S.H p (.tup vs), F := fun a => S.F a ∨ a = p } (.ref p) (.val (.tup xs))
  | dct {p : Addr} {kvs : List (Key × V)} {ks : List Key} {ds : List D} : S.H p = none → kvs.map Prod.fst = ks → Reps C S (kvs.map Prod.snd) ds → New C S { S with H := upd S.H p (.dK kvs) } (.ref p) (.own (.dct ks ds))

theorem Own.there {C : Cn} {S : G} {e : Env} {σ : L2.St} {p : Addr} (a : RepEnv C S e σ) (h : Own e σ p) : (∃ u, S.H p = some u) ∧ ¬ S.F p ∧ ¬ S.Dl p := by
  obtain ⟨i, o, h1, h2⟩ := h
  obtain ⟨v, e1, e2⟩ := a.at_ i _ h1
  rw [h2] at e1
  cases e1
  obtain ⟨q, eq, nf, nd, ho⟩ := e2
  cases eq
  exact ⟨ho.there, nf, nd⟩
theorem upd_none {H : Hp} {p a : Addr} {o : HO} (h : upd H p o a = none) : H a = none := by
  by_cases e : a = p
  · subst e; rw [upd_same] at h; cases h
  · rw [upd_ne e] at h; exact h
theorem rd_upd {H : Hp} {p a : Addr} {o u : HO} (n : H p = none) (h : Rd H a u) : Rd (upd H p o) a u := by
  rcases h with h | ⟨x, h⟩
  · exact .inl (by rw [upd_ne (ne_of_none h n)]; exact h)
  · exact .inr ⟨x, by rw [upd_ne (ne_of_none h n)]; exact h⟩
/-- an object laid, not frozen -/
theorem ext_new {C : Cn} {S : G} {e : Env} {σ : L2.St} {p : Addr} {o : HO} (a : At C S e σ) (n : S.H p = none) : Ext e σ S e σ { S with H := upd S.H p o } :=
  ⟨⟨fun _ h => h, fun _ h => h, fun b u _ h _ => by show upd S.H p o b = some u; rw [upd_ne (ne_of_none h n)]; exact h, fun b u _ h => rd_upd n h⟩,
    fun b u h1 h2 h3 h4 => ⟨by show upd S.H p o b = some u; rw [upd_ne (ne_of_none h1 n)]; exact h1, h2, h3, h4⟩, fun b h => upd_none h⟩
theorem ext_newF {C : Cn} {S : G} {e : Env} {σ : L2.St} {p : Addr} {o : HO} (a : At C S e σ) (n : S.H p = none) : Ext e σ S e σ { S with H := upd S.H p o, F := fun a => S.F a ∨ a = p } :=
  ⟨⟨fun _ h => .inl h, fun _ h => h, fun b u _ h _ => by show upd S.H p o b = some u; rw [upd_ne (ne_of_none h n)]; exact h, fun b u _ h => rd_upd n h⟩,
    fun b u h1 h2 h3 h4 => ⟨by show upd S.H p o b = some u; rw [upd_ne (ne_of_none h1 n)]; exact h1, fun z => z.elim h2 (ne_of_none h1 n), h3, h4⟩, fun b h => upd_none h⟩
theorem DealAt.upd {H : Hp} {q : Addr × Addr} {p : Addr} {o : HO} (d : DealAt H q) (h1 : q.1 ≠ p) (h2 : q.2 ≠ p) : DealAt (L2.upd H p o) q := by
  obtain ⟨cs, m, e1, e2, r⟩ := d
  exact ⟨cs, m, by rw [upd_ne h1]; exact e1, by rw [upd_ne h2]; exact e2, r⟩
theorem DealAt.there {H : Hp} {q : Addr × Addr} (d : DealAt H q) : (∃ u, H q.1 = some u) ∧ ∃ u, H q.2 = some u := by
  obtain ⟨cs, m, e1, e2, r⟩ := d
  exact ⟨⟨_, e1⟩, ⟨_, e2⟩⟩
theorem Dl.there {S : G} {a : Addr} (w : WF S) (h : S.Dl a) : ∃ u, S.H a = some u := by
  obtain ⟨p, hp, e⟩ := h
  have d := (w.deal p hp).there
  rcases e with rfl | rfl
  · exact d.1
  · exact d.2
theorem wf_new {S : G} {p : Addr} {o : HO} (w : WF S) (n : S.H p = none) : WF { S with H := upd S.H p o } where
  dom := fun a f => by
    obtain ⟨u, h⟩ := w.dom a f
    exact ⟨u, by show upd S.H p o a = some u; rw [upd_ne (ne_of_none h n)]; exact h⟩
  deal := fun q hq => by
    obtain ⟨⟨u, h1⟩, ⟨u', h2⟩⟩ := (w.deal q hq).there
    exact (w.deal q hq).upd (ne_of_none h1 n) (ne_of_none h2 n)
  nf := w.nf
  dis := w.dis
theorem wf_newF {S : G} {p : Addr} {o : HO} (w : WF S) (n : S.H p = none) : WF { S with H := upd S.H p o, F := fun a => S.F a ∨ a = p } where
  dom := fun a f => by
    rcases f with f | rfl
    · obtain ⟨u, h⟩ := w.dom a f
      exact ⟨u, by show upd S.H p o a = some u; rw [upd_ne (ne_of_none h n)]; exact h⟩
    · exact ⟨o, upd_same⟩
  deal := fun q hq => by
    obtain ⟨⟨u, h1⟩, ⟨u', h2⟩⟩ := (w.deal q hq).there
    exact (w.deal q hq).upd (ne_of_none h1 n) (ne_of_none h2 n)
  nf := fun a d f => by
    rcases f with f | rfl
    · exact w.nf a d f
    · obtain ⟨u, h⟩ := Dl.there w d
      have h : S.H a = some u := h
      rw [n] at h
      cases h
  dis := w.dis
/-- the slots behind a step that leaves them as they are -/
theorem RepEnv.step {C : Cn} {S S' : G} {e : Env} {σ : L2.St} (r : RepEnv C S e σ) (x : Up S S') (k : ∀ p o, Own e σ p → S.H p = some o → S'.H p = some o ∧ ¬ S'.F p ∧ ¬ S'.Dl p) : RepEnv C S' e σ where
  len := r.len
  at_ := fun i w h => by
    obtain ⟨v, e1, e2⟩ := r.at_ i w h
    refine ⟨v, e1, ?_⟩
    cases w with
    | val d => exact Rep.mono x e2
    | bor j => exact e2
    | own o =>
      obtain ⟨p, rfl, nf, nd, ho⟩ := e2
      have hO : Own e σ p := ⟨i, o, h, e1⟩
      obtain ⟨u, hu⟩ := ho.there
      have q := k p u hO hu
      exact ⟨p, rfl, q.2.1, q.2.2, ho.mono x fun u hu => (k p u hO hu).1⟩
  dis := r.dis
  nb := r.nb
theorem At.new {C : Cn} {S : G} {e : Env} {σ : L2.St} {p : Addr} {o : HO} (a : At C S e σ) (n : S.H p = none) : At C { S with H := upd S.H p o } e σ :=
  ⟨wf_new a.wf n, a.re.step (ext_new a n).up fun q u hO hu => ⟨by show upd S.H p o q = some u; rw [upd_ne (ne_of_none hu n)]; exact hu, (Own.there a.re hO).2.1, (Own.there a.re hO).2.2⟩⟩
theorem At.newF {C : Cn} {S : G} {e : Env} {σ : L2.St} {p : Addr} {o : HO} (a : At C S e σ) (n : S.H p = none) : At C { S with H := upd S.H p o, F := fun a => S.F a ∨ a = p } e σ :=
  ⟨wf_newF a.wf n, a.re.step (ext_newF a n).up fun q u hO hu => ⟨by show upd S.H p o q = some u; rw [upd_ne (ne_of_none hu n)]; exact hu, fun z => z.elim (Own.there a.re hO).2.1 (ne_of_none hu n), (Own.there a.re hO).2.2⟩⟩
theorem New.ok {C : Cn} {S S' : G} {e : Env} {σ : L2.St} {v : V} {w : W} (a : At C S e σ) (h : New C S S' v w) : At C S' e σ ∧ Ext e σ S e σ S' ∧ Got C S e σ S' v w := by
  have nO : ∀ {p}, S.H p = none → ¬ Own e σ p := fun n hO => by
    obtain ⟨u, hu⟩ := (Own.there a.re hO).1
    rw [n] at hu; cases hu
  have nF : ∀ {p}, S.H p = none → ¬ S.F p := fun n f => by
    obtain ⟨u, hu⟩ := a.wf.dom _ f
    rw [n] at hu; cases hu
  have nD : ∀ {p}, S.H p = none → ¬ S.Dl p := fun n f => by
    obtain ⟨u, hu⟩ := Dl.there a.wf f
    rw [n] at hu; cases hu
  cases h with
  | same r => exact ⟨a, Ext.refl _ _ _, r, fun o p z => nomatch z⟩
  | @lst p vs xs n r z =>
    refine ⟨a.new n, ext_new a n, ⟨p, rfl, nF n, nD n, vs, upd_same, r.mono (ext_new a n).up, z⟩, fun o q _ z => ?_⟩
    cases z
    exact ⟨nO n, n⟩
  | @tup p vs xs n r z => exact ⟨a.newF n, ext_newF a n, .tup (.inr rfl) upd_same (r.mono (ext_newF a n).up) z, fun o q z => nomatch z⟩
  | @dct p kvs ks ds n hk r =>
    refine ⟨a.new n, ext_new a n, ⟨p, rfl, nF n, nD n, kvs, upd_same, hk, r.mono (ext_new a n).up⟩, fun o q _ z => ?_⟩
    cases z
    exact ⟨nO n, n⟩

/-! ### the judgements' joints -/
theorem _root_.L2.PE.imp {X : Cx} {e : Expr} {t t' : TE} (h : PE X e t) (i : ∀ σ H Q, t' σ H Q → t σ H Q) : PE X e t' := ⟨fun pins s σ H Q I q => h.run pins s σ H Q I (i σ H Q q)⟩
theorem _root_.L2.PT.imp {X : Cx} {e : Expr} {t t' : TT} (h : PT X e t) (i : ∀ σ H Q, t' σ H Q → t σ H Q) : PT X e t' := ⟨fun pins s σ H Q I q => h.run pins s σ H Q I (i σ H Q q)⟩
theorem _root_.L2.PW.imp {X : Cx} {e : Expr} {t t' : TT} (h : PW X e t) (i : ∀ σ H Q, t' σ H Q → t σ H Q) : PW X e t' := ⟨fun wh pins s σ H Q I q => h.run wh pins s σ H Q I (i σ H Q q)⟩
theorem _root_.L2.PA.imp {X : Cx} {es : List Expr} {t t' : TA} (h : PA X es t) (i : ∀ σ H Q, t' σ H Q → t σ H Q) : PA X es t' := ⟨fun pos pins s σ H Q I q => h.run pos pins s σ H Q I (i σ H Q q)⟩
theorem _root_.L2.PS.imp {X : Cx} {st : Stmt} {t t' : TS} (h : PS X st t) (i : ∀ D σ H, t' D σ H → t D σ H) : PS X st t' := ⟨fun pins s σ H D I q => h.run pins s σ H D I (i D σ H q)⟩
theorem _root_.L2.PSs.imp {X : Cx} {st : List Stmt} {t t' : TS} (h : PSs X st t) (i : ∀ D σ H, t' D σ H → t D σ H) : PSs X st t' := ⟨fun pins s σ H D I q => h.run pins s σ H D I (i D σ H q)⟩

section
variable {C : Cn} {Wx : WX} {σ : L2.St} {S S' : G} {e e' : Env}
theorem xpost.back (x : Ext e σ S e' σ S') {y : Exc} {e'' : Env} (h : xpost C e σ S Wx y e'') : xpost C e' σ S' Wx y e'' := fun cls d S'' a x' r => h cls d S'' a (x.trans x') r
/-- one expression, then more -/
theorem rd.then {f : TrE} (m : Mn W f) {Q0 : W → Env → Prop} {X0 : XP} {Q : VK} (a : At C S e σ) (h : f e Q0 X0) (hx : ∀ y e', X0 y e' → xpost C e σ S Wx y e')
    (k : ∀ w e' v S', Q0 w e' → At C S' e' σ → Ext e σ S e' σ S' → Got C S e' σ S' v w → Q v S'.H) : rd C Wx f σ S.H Q :=
  ⟨S, e, rfl, a, m _ _ _ _ _ (fun w e' q v S' a' x g => k w e' v S' q a' x g) hx h⟩
theorem rdT.then {f : Env → (Bool → Env → Prop) → XP → Prop} (m : Mn Bool f) {Q0 : Bool → Env → Prop} {X0 : XP} {Q : Bool → Hp → Prop} (a : At C S e σ) (h : f e Q0 X0) (hx : ∀ y e', X0 y e' → xpost C e σ S Wx y e')
    (k : ∀ b e' S', Q0 b e' → At C S' e' σ → Ext e σ S e' σ S' → Q b S'.H) : rdT C Wx f σ S.H Q :=
  ⟨S, e, rfl, a, m _ _ _ _ _ (fun w e' q S' a' x => k w e' S' q a' x) hx h⟩
theorem rdA.then {f : Env → (List W → Env → Prop) → XP → Prop} (m : Mn (List W) f) {Q0 : List W → Env → Prop} {X0 : XP} {Q : List V → Hp → Prop} (a : At C S e σ) (h : f e Q0 X0) (hx : ∀ y e', X0 y e' → xpost C e σ S Wx y e')
    (k : ∀ ws e' vs S', Q0 ws e' → At C S' e' σ → Ext e σ S e' σ S' → Args C σ S' vs ws → Q vs S'.H) : rdA C Wx f σ S.H Q :=
  ⟨S, e, rfl, a, m _ _ _ _ _ (fun w e' q vs S' a' x g => k w e' vs S' q a' x g) hx h⟩
/-- two expressions in a row, both resolved -/
theorem two {fa fb : TrE} (ma : Mn W fa) (mb : Mn W fb) {k : D → D → Env → Prop} {R : V → V → Hp → Prop} (a : At C S e σ) (h : w2 fa fb k e (xpost C e σ S Wx))
    (hk : ∀ da db e2 v1 v2 S2, k da db e2 → At C S2 e2 σ → Ext e σ S e2 σ S2 → Rop C S2 v1 da → Rop C S2 v2 db → R v1 v2 S2.H) :
    rd C Wx fa σ S.H fun x H1 => rd C Wx fb σ H1 fun y H2 => R x y H2 :=
  rd.then ma a h (fun _ _ z => z) fun wa e1 v1 S1 p1 a1 x1 g1 => rd.then mb a1 p1 (fun _ _ z => z.back x1) fun wb e2 v2 S2 p2 a2 x2 g2 => by
    obtain ⟨da, r1, p2⟩ := sat_iff.mp p2
    obtain ⟨db, r2, p2⟩ := sat_iff.mp p2
    exact hk da db e2 v1 v2 S2 p2 a2 (x1.trans x2) ((g1.mono x2).res a2 r1) (g2.res a2 r2)
end
end VL

set_option Elab.async false
set_option linter.all false
set_option maxRecDepth 100000
set_option maxHeartbeats 4000000
namespace VL
open PySem L2

section
variable {C : Cn} {S : G} {v : V}
theorem Rop.non (h : Rop C S v .non) : v = .non := by
  rcases h with h | ⟨p, o, rfl, e, h⟩
  · cases h; rfl
  · cases o <;> cases e
theorem Rop.bl {b : Bool} (h : Rop C S v (.bl b)) : v = .bl b := by
  rcases h with h | ⟨p, o, rfl, e, h⟩
  · cases h; rfl
  · cases o <;> cases e
theorem Rop.int {i : Int} (h : Rop C S v (.int i)) : v = .int i := by
  rcases h with h | ⟨p, o, rfl, e, h⟩
  · cases h; rfl
  · cases o <;> cases e
theorem Rop.str {x : Str} (h : Rop C S v (.str x)) : v = .str x := by
  rcases h with h | ⟨p, o, rfl, e, h⟩
  · cases h; rfl
  · cases o <;> cases e
theorem Rop.ty {x : String} (h : Rop C S v (.ty x)) : v = .ty x := by
  rcases h with h | ⟨p, o, rfl, e, h⟩
  · cases h; rfl
  · cases o <;> cases e
theorem Rop.lst {xs : List D} (h : Rop C S v (.lst xs)) : ∃ a vs, v = .ref a ∧ S.H a = some (.lst vs) ∧ Reps C S vs xs ∧ xs.length ≤ sizeLine := by
  rcases h with h | ⟨p, o, rfl, e, h⟩
  · cases h with
    | lst f h r z => exact ⟨_, _, rfl, h, r, z⟩
  · cases o with
    | lst ys =>
      cases e
      obtain ⟨vs, h1, h2, h3⟩ := h
      exact ⟨_, _, rfl, h1, h2, h3⟩
    | dct ks ds => cases e
theorem Rop.tup {K : PySem.W.Frag} (kt : KT C K) {xs : List D} (h : Rop C S v (.tup xs)) : ∃ a vs, v = .ref a ∧ SqT K S.H a vs ∧ Reps C S vs xs ∧ Rep C S v (.tup xs) ∧ xs.length ≤ sizeLine := by
  rcases h with h | ⟨p, o, rfl, e, h⟩
  · have h0 := h
    cases h with
    | tup f h r z => exact ⟨_, _, rfl, .inl (.inl h), r, h0, z⟩
    | kt h =>
      obtain ⟨o, _, _, q⟩ := kt _ h
      exact ⟨_, _, rfl, q _, .nil, h0, Nat.zero_le _⟩
  · cases o <;> cases e
theorem Rop.rep {d : D} (h : Rop C S v d) (n : ∀ o, d ≠ O.frz o) : Rep C S v d := by
  rcases h with h | ⟨p, o, rfl, e, h⟩
  · exact h
  · exact absurd e (n o)
end

/-! ### freezing a slot -/
section
variable {C : Cn} {S : G} {e : Env} {σ : L2.St}
theorem get_lt {e : Env} {i : Nat} {w : W} (g : get e i = some w) : i < e.length := by
  have gi := get_iff.mp g
  rcases Nat.lt_or_ge i e.length with h | h
  · exact h
  · rw [List.getElem?_eq_none h] at gi; cases gi
theorem own_put {i : Nat} {w : W} (hw : ∀ o, w ≠ .own o) {q : Addr} (h : Own (put e i w) σ q) : Own e σ q ∧ ∀ o p, get e i = some (.own o) → σ[i]? = some (some (.ref p)) → At C S e σ → q ≠ p := by
  obtain ⟨j, o', h1, h2⟩ := h
  rw [put_eq] at h1
  by_cases hj : i = j
  · subst hj
    by_cases hil : i < e.length
    · rw [List.getElem?_set_self hil] at h1
      cases h1
      exact absurd rfl (hw _)
    · rw [List.getElem?_eq_none (by rw [List.length_set]; omega)] at h1
      cases h1
  · rw [List.getElem?_set_ne hj] at h1
    refine ⟨⟨j, o', h1, h2⟩, fun o p g e1 a z => ?_⟩
    subst z
    exact a.re.dis i j o o' q hj (get_iff.mp g) e1 h1 h2
theorem frz_ok {i : Nat} {o : O} (a : At C S e σ) (g : get e i = some (.own o)) : ∃ p, σ[i]? = some (some (.ref p)) ∧ At C { S with F := fun a => S.F a ∨ a = p } (put e i (.val o.frz)) σ ∧
    Ext e σ S (put e i (.val o.frz)) σ { S with F := fun a => S.F a ∨ a = p } ∧ Rep C { S with F := fun a => S.F a ∨ a = p } (.ref p) o.frz := by
  have gi := get_iff.mp g
  obtain ⟨v, e1, p, rfl, nf, nd, ho⟩ := a.re.at_ i _ gi
  have hO : Own e σ p := ⟨i, o, gi, e1⟩
  have hil := get_lt g
  have u : Up S { S with F := fun a => S.F a ∨ a = p } := .frz S _ fun _ h => .inl h
  have x : Ext e σ S (put e i (.val o.frz)) σ { S with F := fun a => S.F a ∨ a = p } := by
    refine ⟨u, fun b u h1 h2 h3 h4 => ⟨h1, fun z => ?_, h3, fun z => h4 (own_put (C := C) (S := S) (fun _ z => W.noConfusion z) z).1⟩, fun _ h => h⟩
    rcases z with z | rfl
    · exact h2 z
    · exact h4 hO
  have rp : Rep C { S with F := fun a => S.F a ∨ a = p } (.ref p) o.frz := RepO.frz (ho.mono u fun _ h => h) (.inr rfl)
  refine ⟨p, e1, ⟨⟨fun b f => ?_, a.wf.deal, fun b d f => ?_, a.wf.dis⟩, ⟨?_, fun j w h => ?_, fun j k o1 o2 q hjk h1 h2 h3 => ?_, fun j k => ?_⟩⟩, x, rp⟩
  · rcases f with f | rfl
    · exact a.wf.dom b f
    · exact ho.there
  · rcases f with f | rfl
    · exact a.wf.nf b d f
    · exact nd d
  · rw [put_eq, List.length_set]; exact a.re.len
  · rw [put_eq] at h
    by_cases hj : i = j
    · subst hj
      rw [List.getElem?_set_self hil] at h
      cases h
      exact ⟨_, e1, rp⟩
    · rw [List.getElem?_set_ne hj] at h
      obtain ⟨v', f1, f2⟩ := a.re.at_ j w h
      refine ⟨v', f1, ?_⟩
      cases w with
      | val d => exact Rep.mono u f2
      | bor k => exact f2
      | own o' =>
        obtain ⟨q, rfl, nf', nd', ho'⟩ := f2
        have qp : q ≠ p := fun z => by
          subst z
          exact a.re.dis i j o o' q hj gi e1 h f1
        exact ⟨q, rfl, fun z => z.elim nf' qp, nd', ho'.mono u fun _ h => h⟩
  · rw [put_eq] at h1 h3
    have nj : i ≠ j := fun z => by subst z; rw [List.getElem?_set_self hil] at h1; cases h1
    have nk : i ≠ k := fun z => by subst z; rw [List.getElem?_set_self hil] at h3; cases h3
    rw [List.getElem?_set_ne nj] at h1
    rw [List.getElem?_set_ne nk] at h3
    exact a.re.dis j k o1 o2 q hjk h1 h2 h3
  · rw [put_eq]
    by_cases hj : i = j
    · subst hj
      rw [List.getElem?_set_self hil]
      intro z; cases z
    · rw [List.getElem?_set_ne hj]
      exact a.re.nb j k
end
end VL

set_option Elab.async false
set_option linter.all false
set_option maxRecDepth 100000
set_option maxHeartbeats 4000000
namespace VL
open PySem L2

section
variable {X : Cx} {C : Cn} {Wx : WX}

/-! ### names and constants -/
theorem r_var {i : Nat} {x : Str} {pos : Pos} (h : PE X (.Name x pos) (tVar i)) : PE X (.Name x pos) (rd C Wx (wVar i)) := h.imp fun σ H Q ⟨S, e, hH, a, q⟩ => by
  subst hH
  unfold wVar at q
  split at q
  · rename_i d g
    obtain ⟨v, e1, e2⟩ := a.re.at_ i _ (get_iff.mp g)
    exact ⟨v, e1, q v S a (.refl _ _ _) ⟨e2, fun _ _ z => nomatch z⟩⟩
  · rename_i o g
    obtain ⟨p, e1, a', x', r⟩ := frz_ok a g
    have z := q _ _ a' x' ⟨r, fun _ _ z => nomatch z⟩
    exact ⟨.ref p, e1, z⟩
  · exact q.elim
theorem r_bor {i : Nat} {x : Str} {pos : Pos} (h : PE X (.Name x pos) (tVar i)) : PE X (.Name x pos) (rd C Wx fun e Q _ => sat (get e i) fun _ => Q (.bor i) e) := h.imp fun σ H Q ⟨S, e, hH, a, q⟩ => by
  subst hH
  obtain ⟨w, g, q⟩ := sat_iff.mp q
  obtain ⟨v, e1, e2⟩ := a.re.at_ i _ (get_iff.mp g)
  exact ⟨v, e1, q v S a (.refl _ _ _) ⟨e1, fun _ _ z => nomatch z⟩⟩
theorem r_c {e : Expr} {v : V} {d : D} (h : PE X e (tC v)) (r : ∀ S, Rep C S v d) : PE X e (rd C Wx (wC d)) := h.imp fun σ H Q ⟨S, e, hH, a, q⟩ => by
  subst hH
  exact q v S a (.refl _ _ _) ⟨r S, fun _ _ z => nomatch z⟩

/-- a result, told to what is wanted -/
theorem tell {σ : L2.St} {S S2 S' : G} {e e2 : Env} {v : V} {w : W} {Q : VK} (q : post C e σ S Q w e2) (a2 : At C S2 e2 σ) (x : Ext e σ S e2 σ S2) (n : New C S2 S' v w) : Q v S'.H := by
  obtain ⟨a', x', g⟩ := n.ok a2
  exact q v S' a' (x.trans x') (g.from x)
theorem tellB {σ : L2.St} {S S2 : G} {e e2 : Env} {d : D} {v : V} {Q : VK} (q : post C e σ S Q (.val d) e2) (a2 : At C S2 e2 σ) (x : Ext e σ S e2 σ S2) (r : Rep C S2 v d) : Q v S2.H := tell q a2 x (.same r)

/-! ### two operands -/
def OpV (C : Cn) (o : D → D → Option (Prop × W)) (r : R2) : Prop := ∀ (S : G) (v1 v2 : V) (da db : D) (c : Prop) (w : W) (Q : VK), Rop C S v1 da → Rop C S v2 db → o da db = some (c, w) → c → (∀ v S', New C S S' v w → Q v S'.H) → r v1 v2 S.H Q
theorem r_bin {op : Operator} {r : R2} {a b : Expr} {fa fb : TrE} {pos : Pos} (ho : OpR X (binaryOp op) r) (hv : OpV C (vBin op) r) (ma : Mn W fa) (mb : Mn W fb) (ha : PE X a (rd C Wx fa)) (hb : PE X b (rd C Wx fb)) :
    PE X (.BinOp a op b pos) (rd C Wx (wBin op fa fb)) := (pe_op ho ha hb).imp fun σ H Q ⟨S, e, hH, a, q⟩ => by
  subst hH
  refine two ma mb a q fun da db e2 v1 v2 S2 k a2 x r1 r2 => ?_
  obtain ⟨c, w, e1, hc, k⟩ := sat2_iff.mp k
  exact hv S2 v1 v2 da db c w Q r1 r2 e1 hc fun v S' n => tell k a2 x n
theorem or_l {r r' : R2} {o : D → D → Option (Prop × W)} : OpV C o r → OpV C o fun x y H Q => r x y H Q ∨ r' x y H Q := fun h S v1 v2 da db c w Q a b e hc k => .inl (h S v1 v2 da db c w Q a b e hc k)
def rNever : R2 := fun _ _ _ _ => False
theorem op_never {f : Value → Value → Sem Value} : OpR X f rNever := fun _ _ _ _ _ _ _ _ _ _ _ _ h => h.elim
theorem vI_ok {cc : Int → Int → Prop} {f : Int → Int → Int} : OpV C (vI cc f) (rI cc fun i j => .int (f i j)) := fun S v1 v2 da db c w Q r1 r2 e hc k => by
  unfold vI at e
  split at e
  · cases e
    cases r1.int; cases r2.int
    exact ⟨_, _, rfl, rfl, hc, k _ _ (.same (.int _))⟩
  · cases e
theorem vI0_ok {f : Int → Int → Int} : OpV C (vI (fun _ _ => True) f) (rI0 fun i j => .int (f i j)) := fun S v1 v2 da db c w Q r1 r2 e hc k => by
  unfold vI at e
  split at e
  · cases e
    cases r1.int; cases r2.int
    exact ⟨_, _, rfl, rfl, k _ _ (.same (.int _))⟩
  · cases e
theorem none_ok : OpV C (fun _ _ => none) rNever := fun S v1 v2 da db c w Q r1 r2 e hc k => by cases e
def rAdd3 : R2 := fun x y H Q => rI0 (fun i j => .int (i + j)) x y H Q ∨ (∃ i j, x = .str i ∧ y = .str j ∧ i.length + j.length ≤ sizeLine ∧ Q (.str (i ++ j)) H) ∨ rCat x y H Q
theorem vAdd_ok : OpV C vAdd rAdd3 := fun S v1 v2 da db c w Q r1 r2 e hc k => by
  unfold vAdd at e
  split at e
  · cases e
    cases r1.int; cases r2.int
    exact .inl ⟨_, _, rfl, rfl, k _ _ (.same (.int _))⟩
  · cases e
    cases r1.str; cases r2.str
    exact .inr (.inl ⟨_, _, rfl, rfl, hc, k _ _ (.same (.str _))⟩)
  · cases e
    obtain ⟨a1, vs1, rfl, h1, q1, _⟩ := r1.lst
    obtain ⟨a2, vs2, rfl, h2, q2, _⟩ := r2.lst
    exact .inr (.inr ⟨a1, a2, vs1, vs2, rfl, rfl, h1, h2, by rw [q1.length, q2.length]; exact hc, fun p n => k _ _ (.lst n (q1.append q2) (by rw [List.length_append]; exact hc))⟩)
  · cases e
theorem bin_ok (op : Operator) : ∃ r, OpR X (binaryOp op) r ∧ OpV C (vBin op) r := by
  cases op with
  | Add => exact ⟨rAdd3, op_add.or (op_add_str.or op_cat), vAdd_ok⟩
  | Sub => exact ⟨_, op_sub, vI0_ok⟩
  | Mult => exact ⟨_, op_mulW, vI_ok⟩
  | FloorDiv => exact ⟨_, op_fdivW, vI_ok⟩
  | Mod => exact ⟨_, op_mod, vI_ok⟩
  | Pow => exact ⟨_, op_pow, vI_ok⟩
  | _ => exact ⟨rNever, op_never, none_ok⟩
end
end VL

set_option Elab.async false
set_option linter.all false
set_option maxRecDepth 100000
set_option maxHeartbeats 4000000
namespace VL
open PySem L2

/-! ### data -/
theorem toP_tup {xs : List D} {p : PyData} (h : (D.tup xs).toP = some p) : ∃ ps, D.toPs xs = some ps ∧ p = .tuple ps := by
  unfold D.toP at h
  cases e : D.toPs xs with
  | none => rw [e] at h; cases h
  | some ps => rw [e] at h; cases h; exact ⟨ps, rfl, rfl⟩
theorem toP_lst {xs : List D} {p : PyData} (h : (D.lst xs).toP = some p) : ∃ ps, D.toPs xs = some ps ∧ p = .list ps := by
  unfold D.toP at h
  cases e : D.toPs xs with
  | none => rw [e] at h; cases h
  | some ps => rw [e] at h; cases h; exact ⟨ps, rfl, rfl⟩
theorem toPs_cons {x : D} {xs : List D} {ps : List PyData} (h : D.toPs (x :: xs) = some ps) : ∃ p qs, x.toP = some p ∧ D.toPs xs = some qs ∧ ps = p :: qs := by
  unfold D.toPs at h
  split at h
  · rename_i p qs h1 h2
    cases h
    exact ⟨p, qs, h1, h2, rfl⟩
  · cases h
mutual
theorem Rep.dp {C : Cn} {S : G} {K : PySem.W.Frag} (kt : KT C K) : ∀ {v : V} {d : D}, Rep C S v d → ∀ {p : PyData}, d.toP = some p → Dp K S.H v p
  | _, _, .non, p, h => by unfold D.toP at h; cases h; exact .non
  | _, _, .bl b, p, h => by unfold D.toP at h; cases h; exact .bl b
  | _, _, .int i, p, h => by unfold D.toP at h; cases h; exact .int i
  | _, _, .str s, p, h => by unfold D.toP at h; cases h; exact .str s
  | _, _, .tup f a r _, p, h => by
    obtain ⟨ps, h1, rfl⟩ := toP_tup h
    exact .tup (.inl (.inl a)) (Reps.dp kt r h1)
  | _, _, .lst f a r _, p, h => by
    obtain ⟨ps, h1, rfl⟩ := toP_lst h
    exact .lst (.inl (.inl a)) (Reps.dp kt r h1)
  | _, _, .ins f c a n r, p, h => by unfold D.toP at h; cases h
  | _, _, .dct f a k r, p, h => by unfold D.toP at h; cases h
  | _, _, .kt q, p, h => by
    obtain ⟨ps, h1, rfl⟩ := toP_tup h
    unfold D.toPs at h1
    cases h1
    obtain ⟨o, _, _, z⟩ := kt _ q
    exact .tup (z _) .nil
  | _, _, .ty n, p, h => by unfold D.toP at h; cases h
  | _, _, .cls _, p, h => by unfold D.toP at h; cases h
  | _, _, .fn _, p, h => by unfold D.toP at h; cases h
  | _, _, .deal _, p, h => by unfold D.toP at h; cases h
  | _, _, .scr f a l, p, h => by unfold D.toP at h; cases h
  | _, _, .scrK a l, p, h => by unfold D.toP at h; cases h
theorem Reps.dp {C : Cn} {S : G} {K : PySem.W.Frag} (kt : KT C K) : ∀ {vs : List V} {ds : List D}, Reps C S vs ds → ∀ {ps : List PyData}, D.toPs ds = some ps → DpAll K S.H vs ps
  | _, _, .nil, ps, h => by unfold D.toPs at h; cases h; exact .nil
  | _, _, .cons a r, ps, h => by
    obtain ⟨p, qs, h1, h2, rfl⟩ := toPs_cons h
    exact .cons (Rep.dp kt a h1) (Reps.dp kt r h2)
end
theorem Rop.dp {C : Cn} {S : G} {K : PySem.W.Frag} (kt : KT C K) {v : V} {d : D} (h : Rop C S v d) {p : PyData} (e : d.toP = some p) : Dp K S.H v p := by
  rcases h with h | ⟨q, o, rfl, ed, h⟩
  · exact h.dp kt e
  · cases o with
    | lst xs =>
      subst ed
      obtain ⟨ps, h1, rfl⟩ := toP_lst e
      obtain ⟨vs, h2, h3, _⟩ := h
      exact .lst (.inl (.inl h2)) (h3.dp kt h1)
    | dct ks ds =>
      subst ed
      unfold D.toP at e
      cases e

section
variable {X : Cx} {C : Cn} {Wx : WX}
def CmpV (C : Cn) (o : D → D → Option (Prop × Bool)) (r : R2) : Prop := ∀ (S : G) (v1 v2 : V) (da db : D) (c : Prop) (k : Bool) (Q : VK), Rop C S v1 da → Rop C S v2 db → o da db = some (c, k) → c → Q (.bl k) S.H → r v1 v2 S.H Q
theorem vL_ok {f : Int → Int → Bool} : CmpV C (vL f) (rI0 fun i j => .bl (f i j)) := fun S v1 v2 da db c k Q r1 r2 e hc q => by
  unfold vL at e
  split at e
  · cases e
    cases r1.int; cases r2.int
    exact ⟨_, _, rfl, rfl, q⟩
  · cases e
theorem eqv_int (i j : Int) : PyData.eqv (.int i) (.int j) = decide (i = j) := by
  show (i == j) = decide (i = j)
  exact Bool.beq_eq_decide_eq i j
theorem vEq_ok {K : PySem.W.Frag} (kt : KT C K) : CmpV C vEq (rEqD K) := fun S v1 v2 da db c k Q r1 r2 e hc q => by
  unfold vEq at e
  split at e
  · rename_i i j
    cases e
    exact ⟨.int i, .int j, r1.dp kt rfl, r2.dp kt rfl, rfl, rfl, by rw [eqv_int]; exact q⟩
  · split at e
    · rename_i p p' h1 h2
      cases e
      exact ⟨p, p', r1.dp kt h1, r2.dp kt h2, hc.1, hc.2, q⟩
    · cases e
theorem neg2_some {o : Option (Prop × Bool)} {c : Prop} {k : Bool} (h : neg2 o = some (c, k)) : ∃ k', o = some (c, k') ∧ k = !k' := by
  cases o with
  | none => cases h
  | some p => obtain ⟨c', k'⟩ := p; cases h; exact ⟨k', rfl, rfl⟩
theorem vNe_ok {K : PySem.W.Frag} (kt : KT C K) : CmpV C (fun a b => neg2 (vEq a b)) (rNeD K) := fun S v1 v2 da db c k Q r1 r2 e hc q => by
  obtain ⟨k', e', rfl⟩ := neg2_some e
  clear e
  unfold vEq at e'
  split at e'
  · rename_i i j
    cases e'
    exact ⟨.int i, .int j, r1.dp kt rfl, r2.dp kt rfl, rfl, rfl, by rw [eqv_int]; exact q⟩
  · rename_i e'
    split at e'
    · rename_i p p' h1 h2
      cases e'
      exact ⟨p, p', r1.dp kt h1, r2.dp kt h2, hc.1, hc.2, q⟩
    · cases e'
theorem Rop.isNon {S : G} {v : V} {d : D} (h : Rop C S v d) : VL.isNon d = decide (v = .non) := by
  rcases h with h | ⟨q, o, rfl, ed, h⟩
  · cases h <;> rfl
  · subst ed; cases o <;> rfl
theorem vIs_ok : CmpV C vIs (fun x y H Q => y = .non ∧ Q (.bl (decide (x = .non))) H) := fun S v1 v2 da db c k Q r1 r2 e hc q => by
  unfold vIs at e
  split at e
  · cases e
    refine ⟨r2.non, ?_⟩
    rw [← r1.isNon]; exact q
  · cases e
theorem vIsN_ok : CmpV C (fun a b => neg2 (vIs a b)) (fun x y H Q => y = .non ∧ Q (.bl (!decide (x = .non))) H) := fun S v1 v2 da db c k Q r1 r2 e hc q => by
  obtain ⟨k', e', rfl⟩ := neg2_some e
  clear e
  unfold vIs at e'
  split at e'
  · cases e'
    refine ⟨r2.non, ?_⟩
    rw [← r1.isNon]; exact q
  · cases e'
theorem Rop.flat {S : G} {v : V} {d : D} (h : Rop C S v d) (f : flatD d = true) : Rep C S v d ∧ flatV v = true := by
  rcases h with h | ⟨q, o, rfl, ed, h⟩
  · refine ⟨h, ?_⟩
    cases h <;> first | rfl | cases f
  · subst ed; cases o <;> cases f
theorem Rep.flat {S : G} {v : V} {d : D} (h : Rep C S v d) (f : flatD d = true) : flatV v = true := (Rop.flat (.inl h) f).2
theorem Rep.eqF {S : G} {v v' : V} {d d' : D} (h : Rep C S v d) (h' : Rep C S v' d') (f : flatD d = true) (f' : flatD d' = true) : eqV v v' = VL.eqF d d' := by
  cases h <;> (try cases f) <;> cases h' <;> (try cases f') <;> rfl
theorem Reps.flat {S : G} : ∀ {vs : List V} {ds : List D}, Reps C S vs ds → ds.all flatD = true → vs.all flatV = true
  | _, _, .nil, _ => rfl
  | _, _, .cons h r, f => by
    rw [List.all_cons, Bool.and_eq_true] at f ⊢
    exact ⟨h.flat f.1, Reps.flat r f.2⟩
theorem Reps.inD {S : G} {v : V} {d : D} (h : Rep C S v d) (f : flatD d = true) : ∀ {vs : List V} {ds : List D}, Reps C S vs ds → ds.all flatD = true → inV v vs = VL.inD d ds
  | _, _, .nil, _ => rfl
  | _, _, .cons h' r, f' => by
    rw [List.all_cons, Bool.and_eq_true] at f'
    have := Reps.inD h f r f'.2
    unfold inV VL.inD at this ⊢
    rw [List.any_cons, List.any_cons, this, h'.eqF h f'.1 f]
theorem vIn_some {x y : D} {c : Prop} {k : Bool} (e : vIn x y = some (c, k)) : ∃ ys, (y = .lst ys ∨ y = .tup ys) ∧ c = (flatD x = true ∧ ys.all flatD = true) ∧ k = inD x ys := by
  unfold vIn at e
  split at e
  · cases e; exact ⟨_, .inl rfl, rfl, rfl⟩
  · cases e; exact ⟨_, .inr rfl, rfl, rfl⟩
  · cases e
theorem in_ok {K : PySem.W.Frag} (kt : KT C K) {neg : Bool} {S : G} {v1 v2 : V} {da db : D} {c : Prop} {k : Bool} {Q : VK} (r1 : Rop C S v1 da) (r2 : Rop C S v2 db) (e : vIn da db = some (c, k)) (hc : c) (q : Q (.bl (if neg then !k else k)) S.H) : rIn K neg v1 v2 S.H Q := by
  obtain ⟨ys, hy, rfl, rfl⟩ := vIn_some e
  obtain ⟨rx, fx⟩ := r1.flat hc.1
  rcases hy with rfl | rfl
  · obtain ⟨a, vs, rfl, h, r, _⟩ := r2.lst
    exact ⟨a, vs, rfl, .inl (.inl (.inl h)), fx, r.flat hc.2, by rw [Reps.inD rx hc.1 r hc.2]; exact q⟩
  · obtain ⟨a, vs, rfl, h, r, _, _⟩ := r2.tup kt
    exact ⟨a, vs, rfl, .inr h, fx, r.flat hc.2, by rw [Reps.inD rx hc.1 r hc.2]; exact q⟩
theorem vIn_ok {K : PySem.W.Frag} (kt : KT C K) : CmpV C vIn (rIn K false) := fun S v1 v2 da db c k Q r1 r2 e hc q => in_ok kt r1 r2 e hc q
theorem vNi_ok {K : PySem.W.Frag} (kt : KT C K) : CmpV C (fun a b => neg2 (vIn a b)) (rIn K true) := fun S v1 v2 da db c k Q r1 r2 e hc q => by
  obtain ⟨k', e', rfl⟩ := neg2_some e
  exact in_ok kt r1 r2 e' hc q
theorem cmp_ok (kt : KT C X.K) (hu : X.A.units + 64 < cLine) (op : CmpOp) : ∃ r, OpR X (compareOp op) r ∧ CmpV C (vCmp op) r := by
  cases op with
  | Lt => exact ⟨_, op_lt, vL_ok⟩
  | LtE => exact ⟨_, op_le, vL_ok⟩
  | Gt => exact ⟨_, op_gt, vL_ok⟩
  | GtE => exact ⟨_, op_ge, vL_ok⟩
  | Eq => exact ⟨_, op_eqD hu, vEq_ok kt⟩
  | NotEq => exact ⟨_, op_neD hu, vNe_ok kt⟩
  | Is => exact ⟨_, op_isN, vIs_ok⟩
  | IsNot => exact ⟨_, op_notN, vIsN_ok⟩
  | In => exact ⟨_, op_in_seq, vIn_ok kt⟩
  | NotIn => exact ⟨_, op_notIn_seq, vNi_ok kt⟩

variable {a b c : Expr} {fa fb fc : TrE} {pos : Pos}
theorem r_cmp {op : CmpOp} (kt : KT C X.K) (hu : X.A.units + 64 < cLine) (hm : behindInMarks op b = false) (ma : Mn W fa) (mb : Mn W fb) (ha : PE X a (rd C Wx fa)) (hb : PE X b (rd C Wx fb)) :
    PE X (.Compare a [op] [b] pos) (rd C Wx (asV (wCmpT op fa fb))) := by
  obtain ⟨r, ho, hv⟩ := cmp_ok (C := C) kt hu op
  refine (pe_cmpR ho ha hb hm).imp fun σ H Q ⟨S, e, hH, a, q⟩ => ?_
  subst hH
  refine two ma mb a q fun da db e2 v1 v2 S2 k a2 x r1 r2 => ?_
  obtain ⟨c, w, e1, hc, k⟩ := sat2_iff.mp k
  exact hv S2 v1 v2 da db c w Q r1 r2 e1 hc (tellB k a2 x (.bl _))
theorem r_cmpT {op : CmpOp} (kt : KT C X.K) (hu : X.A.units + 64 < cLine) (hm : behindInMarks op b = false) (ma : Mn W fa) (mb : Mn W fb) (ha : PE X a (rd C Wx fa)) (hb : PE X b (rd C Wx fb)) :
    PT X (.Compare a [op] [b] pos) (rdT C Wx (wCmpT op fa fb)) := by
  obtain ⟨r, ho, hv⟩ := cmp_ok (C := C) kt hu op
  refine (pt_cmpR ho ha hb hm).imp fun σ H Q ⟨S, e, hH, a, q⟩ => ?_
  subst hH
  refine two (R := fun x y H2 => r x y H2 fun x H' => ∃ k, x = .bl k ∧ Q k H') ma mb a q fun da db e2 v1 v2 S2 k a2 x r1 r2 => ?_
  obtain ⟨c, w, e1, hc, k⟩ := sat2_iff.mp k
  exact hv S2 v1 v2 da db c w _ r1 r2 e1 hc ⟨w, rfl, k S2 a2 x⟩
/-- three in a row -/
theorem chain_run {op op' : CmpOp} {r r' : R2} (hv : CmpV C (vCmp op) r) (hv' : CmpV C (vCmp op') r') (ma : Mn W fa) (mb : Mn W fb) (mc : Mn W fc) {σ : L2.St} {S : G} {e : Env} {Q : Bool → Env → Prop} {Q' : VK} (a : At C S e σ)
    (q : wChainT op op' fa fb fc e Q (xpost C e σ S Wx)) (hk : ∀ k e2 S2, Q k e2 → At C S2 e2 σ → Ext e σ S e2 σ S2 → Q' (.bl k) S2.H) : tChain r r' (rd C Wx fa) (rd C Wx fb) (rd C Wx fc) σ S.H Q' :=
  rd.then ma a q (fun _ _ z => z) fun wa e1 v1 S1 p1 a1 x1 g1 => rd.then mb a1 p1 (fun _ _ z => z.back x1) fun wb e2 v2 S2 p2 a2 x2 g2 => by
    obtain ⟨da, r1, p2⟩ := sat_iff.mp p2
    obtain ⟨db, r2, p2⟩ := sat_iff.mp p2
    obtain ⟨c, k, e3, hc, p2⟩ := sat2_iff.mp p2
    refine hv S2 v1 v2 da db c k _ ((g1.mono x2).res a2 r1) (g2.res a2 r2) e3 hc ⟨k, rfl, ?_⟩
    cases k with
    | false => exact hk _ _ S2 p2 a2 (x1.trans x2)
    | true =>
      have p2 := (if_pos rfl).mp p2
      refine rd.then mc a2 p2 (fun _ _ z => z.back (x1.trans x2)) fun wc e3 v3 S3 p3 a3 x3 g3 => ?_
      obtain ⟨db', r4, p3⟩ := sat_iff.mp p3
      obtain ⟨dc, r5, p3⟩ := sat_iff.mp p3
      obtain ⟨c', k', e4, hc', p3⟩ := sat2_iff.mp p3
      exact hv' S3 v2 v3 db' dc c' k' _ ((g2.mono x3).res a3 r4) (g3.res a3 r5) e4 hc' (hk _ _ S3 p3 a3 ((x1.trans x2).trans x3))
end
end VL

set_option Elab.async false
set_option linter.all false
set_option maxRecDepth 100000
set_option maxHeartbeats 4000000
namespace VL
open PySem L2
section
variable {X : Cx} {C : Cn} {Wx : WX} {a b c : Expr} {fa fb fc : TrE} {pos : Pos}
theorem r_chain {op op' : CmpOp} (kt : KT C X.K) (hu : X.A.units + 64 < cLine) (hm : lastMarks [op, op'] [b, c] = false) (ma : Mn W fa) (mb : Mn W fb) (mc : Mn W fc) (ha : PE X a (rd C Wx fa)) (hb : PE X b (rd C Wx fb)) (hc : PE X c (rd C Wx fc)) :
    PE X (.Compare a [op, op'] [b, c] pos) (rd C Wx (asV (wChainT op op' fa fb fc))) := by
  obtain ⟨r, ho, hv⟩ := cmp_ok (C := C) kt hu op
  obtain ⟨r', ho', hv'⟩ := cmp_ok (C := C) kt hu op'
  refine (pe_chain ho ho' ha hb hc hm).imp fun σ H Q ⟨S, e, hH, a, q⟩ => ?_
  subst hH
  exact chain_run hv hv' ma mb mc a q fun k e2 S2 k a2 x => tellB k a2 x (.bl _)
theorem r_chainT {op op' : CmpOp} (kt : KT C X.K) (hu : X.A.units + 64 < cLine) (hm : lastMarks [op, op'] [b, c] = false) (ma : Mn W fa) (mb : Mn W fb) (mc : Mn W fc) (ha : PE X a (rd C Wx fa)) (hb : PE X b (rd C Wx fb)) (hc : PE X c (rd C Wx fc)) :
    PT X (.Compare a [op, op'] [b, c] pos) (rdT C Wx (wChainT op op' fa fb fc)) := by
  obtain ⟨r, ho, hv⟩ := cmp_ok (C := C) kt hu op
  obtain ⟨r', ho', hv'⟩ := cmp_ok (C := C) kt hu op'
  refine (pt_chain ho ho' ha hb hc hm).imp fun σ H Q ⟨S, e, hH, a, q⟩ => ?_
  subst hH
  exact chain_run (Q' := fun x H' => ∃ k, x = .bl k ∧ Q k H') hv hv' ma mb mc a q fun k e2 S2 k a2 x => ⟨_, rfl, k S2 a2 x⟩

/-! ### truth -/
theorem Rop.tru {K : PySem.W.Frag} (kt : KT C K) {S : G} {v : V} {d : D} {cc : Prop} {k : Bool} (h : Rop C S v d) (e : vTru d = some (cc, k)) (hc : cc) : TruV K v S.H k := by
  unfold vTru at e
  split at e
  · cases e; cases h.non; rfl
  · cases e; cases h.bl; rfl
  · cases e; cases h.int; rfl
  · rename_i s
    cases e; cases h.str
    refine ⟨hc, ?_⟩
    have e2 : ((s.length : Int) != 0) = (s.length != 0) := by
      by_cases z : s.length = 0
      · rw [z]; rfl
      · have z2 : ¬ ((s.length : Int) = 0) := by omega
        rw [bne_iff_ne.mpr z, bne_iff_ne.mpr z2]
    exact e2.symm
  · cases e
    obtain ⟨a, vs, rfl, h1, h2, _, _⟩ := h.tup kt
    exact .inr (.inl ⟨vs, h1, by cases h2 <;> rfl⟩)
  · cases e
    obtain ⟨a, vs, rfl, h1, h2, _⟩ := h.lst
    exact .inl ⟨vs, .inl (.inl h1), by cases h2 <;> rfl⟩
  · cases e
theorem r_tru (kt : KT C X.K) (ma : Mn W fa) (he : ∀ whole, isTrue a X.env whole = (do let v ← whole; standAt a.pos; holding [v] (truthy v))) (ha : PE X a (rd C Wx fa)) : PT X a (rdT C Wx (tOf fa)) :=
  (pt_truth ha he).imp fun σ H Q ⟨S, e, hH, a, q⟩ => by
    subst hH
    refine rd.then ma a q (fun _ _ z => z) fun w e1 v S1 p a1 x1 g => ?_
    obtain ⟨d, r, p⟩ := sat_iff.mp p
    obtain ⟨cc, k, e2, hc, p⟩ := sat2_iff.mp p
    exact ⟨k, (g.res a1 r).tru kt e2 hc, p S1 a1 x1⟩
theorem post.back {σ : L2.St} {S S' : G} {e e' e'' : Env} {Q : VK} {w : W} (x : Ext e σ S e' σ S') (h : post C e σ S Q w e'') : post C e' σ S' Q w e'' := fun v S'' a x' g => h v S'' a (x.trans x') (g.from x)
theorem tpost.back {σ : L2.St} {S S' : G} {e e' e'' : Env} {Q : Bool → Hp → Prop} {w : Bool} (x : Ext e σ S e' σ S') (h : tpost C e σ S Q w e'') : tpost C e' σ S' Q w e'' := fun S'' a x' => h S'' a (x.trans x')
/-- an expression at the end -/
theorem rd.last {f : TrE} (m : Mn W f) {σ : L2.St} {S S' : G} {e e' : Env} {Q : VK} (a : At C S' e' σ) (x : Ext e σ S e' σ S') (h : f e' (post C e σ S Q) (xpost C e σ S Wx)) : rd C Wx f σ S'.H Q :=
  ⟨S', e', rfl, a, m _ _ _ _ _ (fun w e' q => q.back x) (fun _ _ q => q.back x) h⟩
theorem rdT.last {f : Env → (Bool → Env → Prop) → XP → Prop} (m : Mn Bool f) {σ : L2.St} {S S' : G} {e e' : Env} {Q : Bool → Hp → Prop} (a : At C S' e' σ) (x : Ext e σ S e' σ S') (h : f e' (tpost C e σ S Q) (xpost C e σ S Wx)) : rdT C Wx f σ S'.H Q :=
  ⟨S', e', rfl, a, m _ _ _ _ _ (fun w e' q => q.back x) (fun _ _ q => q.back x) h⟩
variable {rest : List Expr}
theorem r_and (kt : KT C X.K) (ma : Mn W fa) (mb : Mn W fb) (ha : PE X a (rd C Wx fa)) (hb : PE X (.BoolOp .And (b :: rest) pos) (rd C Wx fb)) : PE X (.BoolOp .And (a :: b :: rest) pos) (rd C Wx (wAnd fa fb)) :=
  (pe_andT ha hb).imp fun σ H Q ⟨S, e, hH, a, q⟩ => by
    subst hH
    refine rd.then ma a q (fun _ _ z => z) fun w e1 v S1 p a1 x1 g => ?_
    obtain ⟨d, r, p⟩ := sat_iff.mp p
    obtain ⟨cc, k, e2, hc, p⟩ := sat2_iff.mp p
    refine ⟨k, (g.res a1 r).tru kt e2 hc, ?_⟩
    cases k with
    | true => exact rd.last mb a1 x1 p
    | false => exact p v S1 a1 x1 g
theorem r_or (kt : KT C X.K) (ma : Mn W fa) (mb : Mn W fb) (ha : PE X a (rd C Wx fa)) (hb : PE X (.BoolOp .Or (b :: rest) pos) (rd C Wx fb)) : PE X (.BoolOp .Or (a :: b :: rest) pos) (rd C Wx (wOr fa fb)) :=
  (pe_orT ha hb).imp fun σ H Q ⟨S, e, hH, a, q⟩ => by
    subst hH
    refine rd.then ma a q (fun _ _ z => z) fun w e1 v S1 p a1 x1 g => ?_
    obtain ⟨d, r, p⟩ := sat_iff.mp p
    obtain ⟨cc, k, e2, hc, p⟩ := sat2_iff.mp p
    refine ⟨k, (g.res a1 r).tru kt e2 hc, ?_⟩
    cases k with
    | true => exact p v S1 a1 x1 g
    | false => exact rd.last mb a1 x1 p
theorem r_not (kt : KT C X.K) (ma : Mn W fa) (ha : PE X a (rd C Wx fa)) : PE X (.UnaryOp .Not a pos) (rd C Wx fun e Q Xx => tOf fa e (fun k e1 => Q (.val (.bl (!k))) e1) Xx) :=
  (pe_notT ha).imp fun σ H Q ⟨S, e, hH, a, q⟩ => by
    subst hH
    refine rd.then ma a q (fun _ _ z => z) fun w e1 v S1 p a1 x1 g => ?_
    obtain ⟨d, r, p⟩ := sat_iff.mp p
    obtain ⟨cc, k, e2, hc, p⟩ := sat2_iff.mp p
    exact ⟨k, (g.res a1 r).tru kt e2 hc, tellB p a1 x1 (.bl _)⟩
abbrev TrT := Env → (Bool → Env → Prop) → XP → Prop
variable {ga gb : TrT}
theorem rw_and (ma : Mn Bool ga) (mb : Mn Bool gb) (ha : PT X a (rdT C Wx ga)) (hb : PW X (.BoolOp .And (b :: rest) pos) (rdT C Wx gb)) :
    PW X (.BoolOp .And (a :: b :: rest) pos) (rdT C Wx fun e Q Xx => ga e (fun k e1 => if k = true then gb e1 Q Xx else Q false e1) Xx) :=
  (pw_and ha hb).imp fun σ H Q ⟨S, e, hH, a, q⟩ => by
    subst hH
    refine rdT.then ma a q (fun _ _ z => z) fun k e1 S1 p a1 x1 => ?_
    cases k with
    | true => exact rdT.last mb a1 x1 p
    | false => exact p S1 a1 x1
theorem rw_or (ma : Mn Bool ga) (mb : Mn Bool gb) (ha : PT X a (rdT C Wx ga)) (hb : PW X (.BoolOp .Or (b :: rest) pos) (rdT C Wx gb)) :
    PW X (.BoolOp .Or (a :: b :: rest) pos) (rdT C Wx fun e Q Xx => ga e (fun k e1 => if k = true then Q true e1 else gb e1 Q Xx) Xx) :=
  (pw_or ha hb).imp fun σ H Q ⟨S, e, hH, a, q⟩ => by
    subst hH
    refine rdT.then ma a q (fun _ _ z => z) fun k e1 S1 p a1 x1 => ?_
    cases k with
    | true => exact p S1 a1 x1
    | false => exact rdT.last mb a1 x1 p
theorem rt_not (ma : Mn Bool ga) (ha : PT X a (rdT C Wx ga)) : PT X (.UnaryOp .Not a pos) (rdT C Wx fun e Q Xx => ga e (fun k e1 => Q (!k) e1) Xx) :=
  (pt_not ha).imp fun σ H Q ⟨S, e, hH, a, q⟩ => by
    subst hH
    exact rdT.then ma a q (fun _ _ z => z) fun k e1 S1 p a1 x1 => p S1 a1 x1
theorem r_ife (mt : Mn Bool ga) (ma : Mn W fa) (mb : Mn W fb) (ht : PT X c (rdT C Wx ga)) (ha : PE X a (rd C Wx fa)) (hb : PE X b (rd C Wx fb)) : PE X (.IfExp c a b pos) (rd C Wx (wIfe ga fa fb)) :=
  (pe_ifExp ht ha hb).imp fun σ H Q ⟨S, e, hH, a, q⟩ => by
    subst hH
    refine rdT.then mt a q (fun _ _ z => z) fun k e1 S1 p a1 x1 => ?_
    cases k with
    | true => exact rd.last ma a1 x1 p
    | false => exact rd.last mb a1 x1 p

theorem r_neg (ma : Mn W fa) (ha : PE X a (rd C Wx fa)) : PE X (.UnaryOp .USub a pos) (rd C Wx (wNeg fa)) :=
  (pe_un un_neg ha).imp fun σ H Q ⟨S, e, hH, a, q⟩ => by
    subst hH
    refine rd.then ma a q (fun _ _ z => z) fun w e1 v S1 p a1 x1 g => ?_
    obtain ⟨d, r, p⟩ := sat_iff.mp p
    cases d <;> first | exact p.elim | skip
    cases (g.res a1 r).int
    exact ⟨_, rfl, tellB p a1 x1 (.int _)⟩
theorem pt_ife {tc ta tb : TT} (hc : PT X c tc) (ha : PT X a ta) (hb : PT X b tb) : PT X (.IfExp c a b pos) fun σ H Q => tc σ H fun k H1 => if k = true then ta σ H1 Q else tb σ H1 Q := ⟨fun pins s σ H Q I hw => by
  unfold PySem.isTrue
  refine wpAny_bind (thn (hc.run pins s σ H _ I hw) fun k s1 ⟨H1, I1, q⟩ => ?_)
  cases k with
  | true => exact ha.run pins s1 σ H1 Q I1 q
  | false => exact hb.run pins s1 σ H1 Q I1 q⟩
theorem rt_ife (mt : Mn Bool ga) {g1 g2 : TrT} (m1 : Mn Bool g1) (m2 : Mn Bool g2) (ht : PT X c (rdT C Wx ga)) (ha : PT X a (rdT C Wx g1)) (hb : PT X b (rdT C Wx g2)) : PT X (.IfExp c a b pos) (rdT C Wx fun e Q Xx => ga e (fun k e1 => if k = true then g1 e1 Q Xx else g2 e1 Q Xx) Xx) :=
  (pt_ife ht ha hb).imp fun σ H Q ⟨S, e, hH, a, q⟩ => by
    subst hH
    refine rdT.then mt a q (fun _ _ z => z) fun k e1 S1 p a1 x1 => ?_
    cases k with
    | true => exact rdT.last m1 a1 x1 p
    | false => exact rdT.last m2 a1 x1 p

/-! ### arguments, displays -/
abbrev TrA := Env → (List W → Env → Prop) → XP → Prop
variable {h : TrA}
theorem ra_nil : PA X [] (rdA C Wx fun e Q _ => Q [] e) := pa_nil.imp fun σ H Q ⟨S, e, hH, a, q⟩ => by
  subst hH
  exact q [] S a (.refl _ _ _) .nil
theorem ra_cons (hs : starEach (a :: rest) X.env = (false, eval a X.env) :: starEach rest X.env) (ma : Mn W fa) (mr : Mn (List W) h) (ha : PE X a (rd C Wx fa)) (hr : PA X rest (rdA C Wx h)) :
    PA X (a :: rest) (rdA C Wx fun e Q Xx => fa e (fun w e1 => h e1 (fun ws e2 => Q (w :: ws) e2) Xx) Xx) := (pa_cons ha hr hs).imp fun σ H Q ⟨S, e, hH, a, q⟩ => by
  subst hH
  refine rd.then ma a q (fun _ _ z => z) fun w e1 v S1 p a1 x1 g => ?_
  obtain ⟨S2, eH, a2, x2, u, ar⟩ := g.frz a1 x1
  rw [← eH]
  refine rdA.then mr a2 p (fun _ _ z => z.back x2) fun ws e2 vs S3 q3 a3 x3 as => ?_
  exact q3 (v :: vs) S3 a3 (x2.trans x3) (.cons (ar.mono x3.up) as)
theorem Args.len {σ : L2.St} {S : G} : ∀ {vs : List V} {ws : List W}, Args C σ S vs ws → vs.length = ws.length
  | _, _, .nil => rfl
  | _, _, .cons _ r => by rw [List.length_cons, List.length_cons, Args.len r]
theorem r_tup {es : List Expr} {k : Nat} (mr : Mn (List W) h) (hr : PA X es (rdA C Wx h)) : PE X (.Tuple es k pos) (rd C Wx fun e Q Xx => h e (fun ws e1 => sat (toDs ws) fun ds => ds.length ≤ sizeLine ∧ Q (.val (.tup ds)) e1) Xx) :=
  (pe_tup hr).imp fun σ H Q ⟨S, e, hH, a, q⟩ => by
    subst hH
    refine rdA.then mr a q (fun _ _ z => z) fun ws e1 vs S1 p a1 x1 as => ?_
    obtain ⟨ds, r, p1, p2⟩ := sat_iff.mp p
    have rs := as.toDs r
    exact ⟨by rw [rs.length]; exact p1, fun p n => tell p2 a1 x1 (.tup n rs p1)⟩
theorem r_lst {es : List Expr} (mr : Mn (List W) h) (hr : PA X es (rdA C Wx h)) : PE X (.List es pos) (rd C Wx fun e Q Xx => h e (fun ws e1 => sat (toDs ws) fun ds => ds.length ≤ sizeLine ∧ Q (.own (.lst ds)) e1) Xx) :=
  (pe_lst hr).imp fun σ H Q ⟨S, e, hH, a, q⟩ => by
    subst hH
    refine rdA.then mr a q (fun _ _ z => z) fun ws e1 vs S1 p a1 x1 as => ?_
    obtain ⟨ds, r, p1, p2⟩ := sat_iff.mp p
    have rs := as.toDs r
    exact ⟨by rw [rs.length]; exact p1, fun p n => tell p2 a1 x1 (.lst n rs p1)⟩

/-! ### subscripts -/
theorem atI_rep {S : G} {vs : List V} {ds : List D} {i : Int} {d : D} (r : Reps C S vs ds) (h : atI ds i = some d) : ∃ v, atI vs i = some v ∧ Rep C S v d := by
  unfold atI at h ⊢
  rw [r.length]
  cases e : ixN ds.length i with
  | none => rw [e] at h; cases h
  | some j =>
    rw [e] at h
    obtain ⟨v, h1, h2⟩ := r.get (i := j) h
    exact ⟨v, h1, h2⟩
theorem r_idx (kt : KT C X.K) (ma : Mn W fa) (mb : Mn W fb) (hs : PlainIx b) (ha : PE X a (rd C Wx fa)) (hb : PE X b (rd C Wx fb)) : PE X (.Subscript a b pos) (rd C Wx (wIdx fa fb)) :=
  (pe_ix ix_seq ha hb hs).imp fun σ H Q ⟨S, e, hH, a, q⟩ => by
    subst hH
    refine two ma mb a q fun da db e2 v1 v2 S2 k a2 x r1 r2 => ?_
    obtain ⟨c, d, e1, hc, kk⟩ := sat2_iff.mp k
    clear k
    unfold vIdx at e1
    split at e1
    · rename_i xs i
      cases r2.int
      obtain ⟨p, vs, rfl, h1, h2, _⟩ := r1.lst
      cases e3 : atI xs i with
      | none => rw [e3] at e1; cases e1
      | some d' =>
        rw [e3] at e1
        cases e1
        obtain ⟨v, h3, h4⟩ := atI_rep h2 e3
        exact .inl ⟨p, vs, i, v, rfl, rfl, .inl (.inl h1), h3, tellB kk a2 x h4⟩
    · rename_i xs i
      cases r2.int
      obtain ⟨p, vs, rfl, h1, h2, _, _⟩ := r1.tup kt
      cases e3 : atI xs i with
      | none => rw [e3] at e1; cases e1
      | some d' =>
        rw [e3] at e1
        cases e1
        obtain ⟨v, h3, h4⟩ := atI_rep h2 e3
        exact .inr (.inl ⟨p, vs, i, v, rfl, rfl, h1, h3, tellB kk a2 x h4⟩)
    · rename_i s i
      cases r2.int
      cases r1.str
      cases e3 : atI s.cps.toList i with
      | none => rw [e3] at e1; cases e1
      | some d' =>
        rw [e3] at e1
        cases e1
        exact .inr (.inr ⟨s, i, d', rfl, rfl, hc, e3, tellB kk a2 x (.str _)⟩)
    · cases e1
end
end VL

set_option Elab.async false
set_option linter.all false
set_option maxRecDepth 100000
set_option maxHeartbeats 4000000
namespace VL
open PySem L2
section
variable {X : Cx} {C : Cn} {Wx : WX} {a b c : Expr} {fa fb fc : TrE} {pos : Pos} {h : TrA}
/-! ### slices -/
theorem cut_rep {S : G} {vs : List V} {ds : List D} (r : Reps C S vs ds) (lo hi : Option Int) : Reps C S (cutV vs lo hi) (cutD ds lo hi) := by
  unfold cutV cutD
  rw [r.length]
  exact (r.drop _).take _
theorem cutD_len (ds : List D) (lo hi : Option Int) : (cutD ds lo hi).length ≤ ds.length := by
  unfold cutD
  rw [List.length_take, List.length_drop]
  omega
def opost (C : Cn) (e : Env) (σ : L2.St) (S : G) (Q : Option Int → Hp → Prop) : Option Int → Env → Prop := fun o e' => ∀ S', At C S' e' σ → Ext e σ S e' σ S' → Q o S'.H
def rdO (C : Cn) (Wx : WX) (f : TrO) : TO := fun σ H Q => ∃ S e, S.H = H ∧ At C S e σ ∧ f e (opost C e σ S Q) (xpost C e σ S Wx)
theorem ro_none : PO X none (rdO C Wx noPart) := by
  have h : PO X none tNoPart := po_none
  refine ⟨fun pins s σ H Q I ⟨S, e, hH, a, q⟩ => h.run pins s σ H Q I ?_⟩
  subst hH
  exact q S a (.refl _ _ _)
theorem ro_some (ma : Mn W fa) (ha : PE X a (rd C Wx fa)) : PO X (some a) (rdO C Wx (wPart fa)) := by
  have h := po_some ha
  refine ⟨fun pins s σ H Q I ⟨S, e, hH, a, q⟩ => h.run pins s σ H Q I ?_⟩
  subst hH
  refine rd.then ma a q (fun _ _ z => z) fun w e1 v S1 p a1 x1 g => ?_
  obtain ⟨d, r, p⟩ := sat_iff.mp p
  cases d <;> first | exact p.elim | skip
  cases (g.res a1 r).int
  exact ⟨_, rfl, p S1 a1 x1⟩
theorem rdO.then {f : TrO} (m : Mn (Option Int) f) {Q0 : Option Int → Env → Prop} {X0 : XP} {σ : L2.St} {S : G} {e : Env} {Q : Option Int → Hp → Prop} (a : At C S e σ) (h : f e Q0 X0) (hx : ∀ y e', X0 y e' → xpost C e σ S Wx y e')
    (k : ∀ o e' S', Q0 o e' → At C S' e' σ → Ext e σ S e' σ S' → Q o S'.H) : rdO C Wx f σ S.H Q :=
  ⟨S, e, rfl, a, m _ _ _ _ _ (fun o e' q S' a' x => k o e' S' q a' x) hx h⟩
theorem r_cut {lo hi : Option Expr} {fl fh : TrO} {p2 : Pos} (ma : Mn W fa) (ml : Mn (Option Int) fl) (mh : Mn (Option Int) fh) (ha : PE X a (rd C Wx fa)) (hl : PO X lo (rdO C Wx fl)) (hh : PO X hi (rdO C Wx fh)) :
    PE X (.Subscript a (.Slice lo hi none p2) pos) (rd C Wx (wCut fa fl fh)) := (pe_slice sl_list ha hl hh).imp fun σ H Q ⟨S, e, hH, a, q⟩ => by
  subst hH
  refine rd.then ma a q (fun _ _ z => z) fun wa e1 v1 S1 p1 a1 x1 g1 => rdO.then ml a1 p1 (fun _ _ z => z.back x1) fun l e2 S2 p2 a2 x2 => rdO.then mh a2 p2 (fun _ _ z => z.back (x1.trans x2)) fun u e3 S3 p3 a3 x3 => ?_
  obtain ⟨da, r1, p3⟩ := sat_iff.mp p3
  obtain ⟨c, w, e4, hc, p3⟩ := sat2_iff.mp p3
  unfold vCut at e4
  split at e4
  · cases e4
    obtain ⟨p, vs, rfl, h1, h2, h3⟩ := ((g1.mono x2).mono x3 |>.res a3 r1).lst
    exact ⟨p, vs, rfl, .inl (.inl h1), fun q n => tell p3 a3 ((x1.trans x2).trans x3) (.lst n (cut_rep h2 l u) (Nat.le_trans (cutD_len _ l u) h3))⟩
  · cases e4

/-! ### globals -/
theorem r_glob {x : Str} {v : V} {T : Tab} (hv : ∀ d, T.con x = some d → PE X (.Name x pos) (tC v) ∧ ∀ S, Rep C S v d) : PE X (.Name x pos) (rd C Wx fun e Q _ => sat (T.con x) fun d => Q (.val d) e) := by
  cases e : T.con x with
  | none => exact ⟨fun pins s σ H Q I ⟨S, e, hH, a, q⟩ => q.elim⟩
  | some d =>
    obtain ⟨h1, h2⟩ := hv d e
    exact r_c h1 h2

/-! ### built-ins, called -/
def CalV (C : Cn) (o : List D → Option (Prop × W)) (r : List V → Hp → VK → Prop) : Prop := ∀ (S : G) (vs : List V) (ds : List D) (c : Prop) (w : W) (Q : VK), Rops C S vs ds → o ds = some (c, w) → c → (∀ v S', New C S S' v w → Q v S'.H) → r vs S.H Q
theorem r_cb {e : Expr} {r : List V → Hp → VK → Prop} {o : List D → Option (Prop × W)} (hv : CalV C o r) (mr : Mn (List W) h) (hp : PE X e (tCB r (rdA C Wx h))) :
    PE X e (rd C Wx fun e Q Xx => h e (fun ws e1 => sat (ress e1 ws) fun ds => sat2 (o ds) fun w => Q w e1) Xx) := hp.imp fun σ H Q ⟨S, e, hH, a, q⟩ => by
  subst hH
  refine rdA.then mr a q (fun _ _ z => z) fun ws e1 vs S1 p a1 x1 as => ?_
  obtain ⟨ds, r1, p⟩ := sat_iff.mp p
  obtain ⟨c, w, e2, hc, p⟩ := sat2_iff.mp p
  exact hv S1 vs ds c w Q (as.ress a1 r1) e2 hc fun v S' n => tell p a1 x1 n
theorem Rops.one {S : G} {vs : List V} {d : D} (h : Rops C S vs [d]) : ∃ v, vs = [v] ∧ Rop C S v d := by
  cases h with
  | cons h r => cases r; exact ⟨_, rfl, h⟩
theorem Rops.two {S : G} {vs : List V} {d e : D} (h : Rops C S vs [d, e]) : ∃ v w, vs = [v, w] ∧ Rop C S v d ∧ Rop C S w e := by
  cases h with
  | cons h r => cases r with
    | cons h' r => cases r; exact ⟨_, _, rfl, h, h'⟩
theorem cInt_ok : CalV C cInt (fun xs H Q => (∃ i, xs = [.int i] ∧ Q (.int i) H) ∨ ∃ k, xs = [.bl k] ∧ Q (.int (if k then 1 else 0)) H) := fun S vs ds c w Q r e hc k => by
  unfold cInt at e
  split at e
  · cases e
    obtain ⟨v, rfl, h⟩ := r.one
    cases h.int
    exact .inl ⟨_, rfl, k _ _ (.same (.int _))⟩
  · cases e
theorem cAbs_ok : CalV C cAbs (fun xs H Q => ∃ i, xs = [.int i] ∧ Q (.int (if i < 0 then -i else i)) H) := fun S vs ds c w Q r e hc k => by
  unfold cAbs at e
  split at e
  · cases e
    obtain ⟨v, rfl, h⟩ := r.one
    cases h.int
    exact ⟨_, rfl, k _ _ (.same (.int _))⟩
  · cases e
theorem cLen_ok {K : PySem.W.Frag} (kt : KT C K) : CalV C cLen (fun xs H Q => (∃ p ys, xs = [.ref p] ∧ (SqL K H p ys ∨ SqT K H p ys) ∧ Q (.int ys.length) H) ∨ ∃ z, xs = [.str z] ∧ z.length ≤ sizeLine ∧ Q (.int z.length) H) := fun S vs ds c w Q r e hc k => by
  unfold cLen at e
  split at e
  · cases e
    obtain ⟨v, rfl, h⟩ := r.one
    obtain ⟨a, us, rfl, h1, h2, hz⟩ := h.lst
    exact .inl ⟨a, us, rfl, .inl (.inl (.inl h1)), by rw [h2.length]; exact k _ _ (.same (.int _))⟩
  · cases e
    obtain ⟨v, rfl, h⟩ := r.one
    obtain ⟨a, us, rfl, h1, h2, _, hz⟩ := h.tup kt
    exact .inl ⟨a, us, rfl, .inr h1, by rw [h2.length]; exact k _ _ (.same (.int _))⟩
  · cases e
    obtain ⟨v, rfl, h⟩ := r.one
    cases h.str
    exact .inr ⟨_, rfl, hc, k _ _ (.same (.int _))⟩
  · cases e
theorem cTuple_ok {K : PySem.W.Frag} (kt : KT C K) : CalV C cTuple (fun xs H Q => ∃ p ys, xs = [.ref p] ∧ ((SqL K H p ys ∧ ∀ l, H l = none → Q (.ref l) (upd H l (.tup ys))) ∨ (SqT K H p ys ∧ Q (.ref p) H))) := fun S vs ds c w Q r e hc k => by
  unfold cTuple at e
  split at e
  · cases e
    obtain ⟨v, rfl, h⟩ := r.one
    obtain ⟨a, us, rfl, h1, h2, hz⟩ := h.lst
    exact ⟨a, us, rfl, .inl ⟨.inl (.inl h1), fun l n => k _ _ (.tup n h2 hz)⟩⟩
  · cases e
    obtain ⟨v, rfl, h⟩ := r.one
    obtain ⟨a, us, rfl, h1, h2, h3, hz⟩ := h.tup kt
    exact ⟨a, us, rfl, .inr ⟨h1, k _ _ (.same h3)⟩⟩
  · cases e
theorem cList_ok {K : PySem.W.Frag} (kt : KT C K) : CalV C cList (fun xs H Q => ∃ p ys, xs = [.ref p] ∧ (SqL K H p ys ∨ SqT K H p ys) ∧ ∀ l, H l = none → Q (.ref l) (upd H l (.lst ys))) := fun S vs ds c w Q r e hc k => by
  unfold cList at e
  split at e
  · cases e
    obtain ⟨v, rfl, h⟩ := r.one
    obtain ⟨a, us, rfl, h1, h2, hz⟩ := h.lst
    exact ⟨a, us, rfl, .inl (.inl (.inl h1)), fun l n => k _ _ (.lst n h2 hz)⟩
  · cases e
    obtain ⟨v, rfl, h⟩ := r.one
    obtain ⟨a, us, rfl, h1, h2, _, hz⟩ := h.tup kt
    exact ⟨a, us, rfl, .inr h1, fun l n => k _ _ (.lst n h2 hz)⟩
  · cases e
theorem toInts_eq : ∀ {xs : List D} {ns : List Int}, toInts xs = some ns → xs = ns.map D.int
  | [], _, h => by cases h; rfl
  | d :: ds, ns, h => by
    cases d <;> try (simp only [toInts] at h; cases h)
    rename_i i
    simp only [toInts] at h
    cases e : toInts ds with
    | none => rw [e] at h; cases h
    | some ms => rw [e] at h; cases h; rw [toInts_eq e]; rfl
theorem toBls_eq : ∀ {xs : List D} {ns : List Bool}, toBls xs = some ns → xs = ns.map D.bl
  | [], _, h => by cases h; rfl
  | d :: ds, ns, h => by
    cases d <;> try (simp only [toBls] at h; cases h)
    rename_i i
    simp only [toBls] at h
    cases e : toBls ds with
    | none => rw [e] at h; cases h
    | some ms => rw [e] at h; cases h; rw [toBls_eq e]; rfl
end
end VL

set_option Elab.async false
set_option linter.all false
set_option maxRecDepth 100000
set_option maxHeartbeats 4000000
namespace VL
open PySem L2

/-! ### isinstance -/
def tyTypes : List String := ["NoneType", "bool", "int", "str", "tuple", "list", "dict"]
theorem kitB_all : (tyTypes.all fun t => tyNames.all fun n => decide (kitB t n = some (t == n || (t == "bool" && n == "int")))) = true := by decide +kernel
theorem kitB_ok {t n : String} (ht : t ∈ tyTypes) (hn : n ∈ tyNames) : kitB t n = some (t == n || (t == "bool" && n == "int")) := of_decide_eq_true (List.all_eq_true.mp (List.all_eq_true.mp kitB_all t ht) n hn)
theorem tyD_mem {d : D} {t : String} (h : tyD d = some t) : t ∈ tyTypes := by
  unfold tyD at h
  split at h <;> first | (cases h; decide) | cases h

/-- what is known of an own class whose instances are asked -/
structure TyIns (K : PySem.W.Frag) (Ca : Addr) : Prop where
  cl : Cls K Ca
  ha : PySem.W.findIn K (.ref Ca) "__class__" = some (some (.builtin "object.__class__"))
  hn : PySem.W.specialIn K (.builtin "object.__class__") "__get__" = some (some (.builtin "getset_descriptor.__get__"))
  tk : PySem.W.takesIn K (.builtin "object.__class__") = some true
  hm : PySem.W.mroIn K Ca (.type "object") = some true
/-- what isinstance's answers rest on -/
structure IsiK (K : PySem.W.Frag) (C : Cn) (T : Tab) : Prop where
  sub : ∀ k c b Ca Cc, T.sub k c = some b → C.cl k = some Ca → C.cl c = some Cc → TyIns K Ca ∧ PySem.W.kitOne K (.ref Ca) (.ref Cc) = some b
  subT : ∀ k n b Ca, T.subT k n = some b → C.cl k = some Ca → TyIns K Ca ∧ PySem.W.kitOne K (.ref Ca) (.type n) = some b
  subB : ∀ c b Cc t, T.subB c = some b → C.cl c = some Cc → t ∈ tyTypes → PySem.W.kitOne K (.type t) (.ref Cc) = some b
section
variable {X : Cx} {C : Cn} {Wx : WX} {a b c : Expr} {fa fb fc : TrE} {pos : Pos} {h : TrA} {T : Tab}
theorem Rop.tyx {K : PySem.W.Frag} (kt : KT C K) {S : G} {v : V} {d : D} {t : String} (r : Rop C S v d) (e : tyD d = some t) : TyX K S.H v (.type t) := by
  unfold tyD at e
  split at e
  · cases e; cases r.non; exact .base .non
  · cases e; cases r.bl; exact .base (.bl _)
  · cases e; cases r.int; exact .base (.int _)
  · cases e; cases r.str; exact .base (.str _)
  · cases e
    rcases r with r | ⟨p, o, rfl, e, r⟩
    · cases r with
      | tup f h r _ => exact .base (.tup h)
      | kt h => obtain ⟨o, h1, h2, _⟩ := kt _ h; exact .kTuple h1 h2
    · cases o <;> cases e
  · cases e
    obtain ⟨a, vs, rfl, h1, h2, _⟩ := r.lst
    exact .base (.lst h1)
  · cases e
    rcases r with r | ⟨p, o, rfl, e, r⟩
    · cases r with
      | dct f h k r =>
        rcases h with h | ⟨o, h⟩
        · exact .base (.dK h)
        · exact .fDict h
    · cases o with
      | lst xs => cases e
      | dct ks ds =>
        cases e
        obtain ⟨kvs, h1, _, _⟩ := r
        exact .base (.dK h1)
  · cases e
/-- the type of a value, against all classes -/
def TyGood (K : PySem.W.Frag) (C : Cn) (T : Tab) (S : G) (v : V) (d : D) (t : Value) : Prop := TyX K S.H v t ∧ ∀ u c b, Rop C S u c → isi1 T d c = some b → ∃ w, ClsV u w ∧ PySem.W.kitOne K t w = some b
theorem isi_b {K : PySem.W.Frag} (kt : KT C K) (ik : IsiK K C T) {S : G} {v : V} {d : D} {t : String} (r : Rop C S v d) (e3 : tyD d = some t) : TyGood K C T S v d (.type t) := by
  refine ⟨r.tyx kt e3, fun u c b r2 e => ?_⟩
  unfold isi1 at e
  split at e
  · cases e3
  · cases e3
  · rename_i n _ _
    split at e
    · rename_i hn
      cases r2.ty
      rw [e3] at e
      cases e
      exact ⟨_, .ty _, kit_ty (kitB_ok (tyD_mem e3) hn)⟩
    · cases e
  · rename_i cn _ _
    rw [e3] at e
    rcases r2 with r2 | ⟨p, o, rfl, e', r2⟩
    · cases r2 with
      | cls hc => exact ⟨_, .own _, ik.subB _ _ _ _ e hc (tyD_mem e3)⟩
    · cases o <;> cases e'
  · cases e
theorem isi_i {K : PySem.W.Frag} (ik : IsiK K C T) {S : G} {v : V} {k : Str} {ns : List Str} {ds : List D} {c0 : D} {b0 : Bool} (r : Rop C S v (.ins k ns ds)) (e0 : isi1 T (.ins k ns ds) c0 = some b0) (hc0 : ∃ u, Rop C S u c0) : ∃ t, TyGood K C T S v (.ins k ns ds) t := by
  rcases r with r | ⟨p, o, rfl, e', r⟩
  · cases r with
    | @ins a Ca dx fs _ _ _ f hk hH hn hr =>
      have ti : TyIns K Ca := by
        obtain ⟨u0, r0⟩ := hc0
        unfold isi1 at e0
        split at e0
        · rename_i h1
          cases h1
          rcases r0 with r0 | ⟨p, o, rfl, e', r0⟩
          · cases r0 with
            | cls hc => exact (ik.sub _ _ _ _ _ e0 hk hc).1
          · cases o <;> cases e'
        · rename_i h1
          cases h1
          split at e0
          · exact (ik.subT _ _ _ _ e0 hk).1
          · cases e0
        · rename_i _ h1
          exact absurd rfl (h1 k ns ds)
        · rename_i _ h1
          exact absurd rfl (h1 k ns ds)
        · cases e0
      refine ⟨.ref Ca, .base (.ins hH ti.cl ti.ha ti.hn ti.tk ti.hm), fun u c b r2 e => ?_⟩
      unfold isi1 at e
      split at e
      · rename_i h1
        cases h1
        rcases r2 with r2 | ⟨p, o, rfl, e', r2⟩
        · cases r2 with
          | cls hc => exact ⟨_, .own _, (ik.sub _ _ _ _ _ e hk hc).2⟩
        · cases o <;> cases e'
      · rename_i h1
        cases h1
        split at e
        · cases r2.ty
          exact ⟨_, .ty _, (ik.subT _ _ _ _ e hk).2⟩
        · cases e
      · rename_i _ h1
        exact absurd rfl (h1 k ns ds)
      · rename_i _ h1
        exact absurd rfl (h1 k ns ds)
      · cases e
  · cases o <;> cases e'
theorem isi_ok {K : PySem.W.Frag} (kt : KT C K) (ik : IsiK K C T) {S : G} {v : V} {d c0 : D} {b0 : Bool} (r : Rop C S v d) (e0 : isi1 T d c0 = some b0) (hc0 : ∃ u, Rop C S u c0) : ∃ t, TyGood K C T S v d t := by
  cases e3 : tyD d with
  | some t => exact ⟨_, isi_b kt ik r e3⟩
  | none =>
    have ex : ∃ k ns ds, d = .ins k ns ds := by
      unfold isi1 at e0
      split at e0
      · exact ⟨_, _, _, rfl⟩
      · exact ⟨_, _, _, rfl⟩
      · split at e0
        · rw [e3] at e0; cases e0
        · cases e0
      · rw [e3] at e0; cases e0
      · cases e0
    obtain ⟨k, ns, ds, rfl⟩ := ex
    exact isi_i ik r e0 hc0
def rIsi2 (K : PySem.W.Frag) : List V → Hp → VK → Prop := fun xs H Q => rIsi K xs H Q ∨ rIsiT K xs H Q
theorem isiN_cons {d c : D} {cs : List D} {b : Bool} (e : isiN T d (c :: cs) = some b) : ∃ b1 b2, isi1 T d c = some b1 ∧ isiN T d cs = some b2 ∧ b = (b1 || b2) := by
  unfold isiN at e
  split at e
  · rename_i b1 b2 h1 h2
    cases e
    exact ⟨b1, b2, h1, h2, rfl⟩
  · cases e
theorem isiN_ok {K : PySem.W.Frag} {S : G} {v : V} {d : D} {t : Value} (hk : TyGood K C T S v d t) : ∀ {us : List V} {cs : List D} {b : Bool}, Reps C S us cs → isiN T d cs = some b → ∃ ws, Paired ClsV us ws ∧ PySem.W.kitAny K t ws = some b
  | _, _, b, .nil, e => by cases e; exact ⟨[], .nil, rfl⟩
  | _, c :: cs, b, .cons h r, e => by
    obtain ⟨b1, b2, e1, e2, rfl⟩ := isiN_cons e
    obtain ⟨w, h1, h2⟩ := hk.2 _ _ _ (.inl h) e1
    obtain ⟨ws, h3, h4⟩ := isiN_ok hk r e2
    refine ⟨w :: ws, .cons h1 h3, kitAny_cons h2 (fun z => ?_) fun z => ?_⟩
    · subst z; exact h4
    · subst z; rfl
theorem cIsi_ok {K : PySem.W.Frag} (kt : KT C K) (ik : IsiK K C T) : CalV C (cIsi T) (rIsi2 K) := fun S vs ds c w Q r e hc k => by
  unfold cIsi at e
  split at e
  · rename_i d c1 cs
    cases e2 : isiN T d (c1 :: cs) with
    | none => rw [e2] at e; cases e
    | some b =>
      rw [e2] at e
      cases e
      obtain ⟨v, u, rfl, r1, r2⟩ := r.two
      have r3 := r2.rep fun o => by cases o <;> exact fun z => nomatch z
      cases r3 with
      | @tup a us ds f hH hr _ =>
        obtain ⟨b1, b2, e3, _, _⟩ := isiN_cons e2
        have hc0 : ∃ u, Rop C S u c1 := by
          cases hr with
          | cons h _ => exact ⟨_, .inl h⟩
        obtain ⟨t, tg⟩ := isi_ok kt ik r1 e3 hc0
        obtain ⟨ws, h1, h2⟩ := isiN_ok tg hr e2
        exact .inr ⟨v, a, us, t, ws, b, rfl, hH, h1, tg.1, h2, k _ _ (.same (.bl b))⟩
  · rename_i d cc _
    cases e2 : isi1 T d cc with
    | none => rw [e2] at e; cases e
    | some b =>
      rw [e2] at e
      cases e
      obtain ⟨v, u, rfl, r1, r2⟩ := r.two
      obtain ⟨t, tg⟩ := isi_ok kt ik r1 e2 ⟨u, r2⟩
      obtain ⟨w, h1, h2⟩ := tg.2 u cc b r2 e2
      exact .inl ⟨v, u, t, w, b, rfl, h1, tg.1, h2, k _ _ (.same (.bl b))⟩
  · cases e

/-! ### sorted, sum, all, any -/
theorem cSorted_ok {K : PySem.W.Frag} : CalV C cSorted (rSortedI K) := fun S vs ds c w Q r e hc k => by
  unfold cSorted at e
  split at e
  · rename_i xs
    cases e2 : toInts xs with
    | none => rw [e2] at e; cases e
    | some ns =>
      rw [e2] at e
      cases e
      obtain ⟨v, rfl, h⟩ := r.one
      obtain ⟨a, us, rfl, h1, h2, hz⟩ := h.lst
      rw [toInts_eq e2] at h2 hz
      have := h2.ints_inv
      subst this
      refine ⟨a, ns, rfl, .inl (.inl h1), fun ns' p hp hs n => ?_⟩
      have e3 : ns' = ns.mergeSort fun a b => decide (a ≤ b) := by
        refine List.Perm.eq_of_pairwise (le := fun a b => a ≤ b) (fun a b _ _ h1 h2 => Int.le_antisymm h1 h2) hs ?_ (hp.trans (List.mergeSort_perm ns _).symm)
        have := List.pairwise_mergeSort (le := fun a b : Int => decide (a ≤ b)) (fun a b c h1 h2 => decide_eq_true (Int.le_trans (of_decide_eq_true h1) (of_decide_eq_true h2))) (fun a b => by
          rcases Int.le_total a b with h | h
          · simp [h]
          · simp [h]) ns
        exact this.imp fun h => of_decide_eq_true h
      rw [e3]
      exact k _ _ (.lst n (Reps.ints _) (by rw [List.length_map, List.length_mergeSort, ← List.length_map (f := D.int)]; exact hz))
  · cases e
theorem cSum_ok {K : PySem.W.Frag} : CalV C cSum (rSum K) := fun S vs ds c w Q r e hc k => by
  unfold cSum at e
  split at e
  · rename_i xs
    cases e2 : toInts xs with
    | none => rw [e2] at e; cases e
    | some ns =>
      rw [e2] at e
      cases e
      obtain ⟨v, rfl, h⟩ := r.one
      obtain ⟨a, us, rfl, h1, h2, _⟩ := h.lst
      rw [toInts_eq e2] at h2
      have := h2.ints_inv
      subst this
      exact ⟨a, ns, rfl, .inl (.inl h1), k _ _ (.same (.int _))⟩
  · cases e
theorem cAll_ok {K : PySem.W.Frag} : CalV C cAll (rAll K) := fun S vs ds c w Q r e hc k => by
  unfold cAll at e
  split at e
  · rename_i xs
    cases e2 : toBls xs with
    | none => rw [e2] at e; cases e
    | some ns =>
      rw [e2] at e
      cases e
      obtain ⟨v, rfl, h⟩ := r.one
      obtain ⟨a, us, rfl, h1, h2, _⟩ := h.lst
      rw [toBls_eq e2] at h2
      have := h2.bls_inv
      subst this
      exact ⟨a, ns, rfl, .inl (.inl h1), k _ _ (.same (.bl _))⟩
  · cases e
theorem cAny_ok {K : PySem.W.Frag} : CalV C cAny (rAny K) := fun S vs ds c w Q r e hc k => by
  unfold cAny at e
  split at e
  · rename_i xs
    cases e2 : toBls xs with
    | none => rw [e2] at e; cases e
    | some ns =>
      rw [e2] at e
      cases e
      obtain ⟨v, rfl, h⟩ := r.one
      obtain ⟨a, us, rfl, h1, h2, _⟩ := h.lst
      rw [toBls_eq e2] at h2
      have := h2.bls_inv
      subst this
      exact ⟨a, ns, rfl, .inl (.inl h1), k _ _ (.same (.bl _))⟩
  · cases e
end
end VL

set_option Elab.async false
set_option linter.all false
set_option maxRecDepth 100000
set_option maxHeartbeats 4000000
namespace VL
open PySem L2
def B.name : B → Str
  | .int => "int" | .abs => "abs" | .len => "len" | .tuple => "tuple" | .list => "list" | .sorted => "sorted" | .sum => "sum" | .all => "all" | .any => "any"
  | .repr => "repr" | .str => "str" | .bool => "bool" | .max => "max" | .min => "min" | .isinstance => "isinstance" | .set => "set" | .dict => "dict"
def B.ok : B → Bool
  | .int => true | .abs => true | .len => true | .tuple => true | .list => true | .sorted => true | .sum => true | .all => true | .any => true | .isinstance => true
  | _ => false
theorem bb_abs : bootBuiltins "abs" = some (.builtin "abs") := by decide +kernel
theorem bb_sorted : bootBuiltins "sorted" = some (.builtin "sorted") := by decide +kernel
theorem bb_sum : bootBuiltins "sum" = some (.builtin "sum") := by decide +kernel
theorem bb_all : bootBuiltins "all" = some (.builtin "all") := by decide +kernel
theorem bb_any : bootBuiltins "any" = some (.builtin "any") := by decide +kernel
theorem bb_isinstance : bootBuiltins "isinstance" = some (.builtin "isinstance") := by decide +kernel
theorem bb_int : bootBuiltins "int" = some (.type "int") := by decide +kernel
theorem bb_tuple : bootBuiltins "tuple" = some (.type "tuple") := by decide +kernel
theorem bb_list : bootBuiltins "list" = some (.type "list") := by decide +kernel
section
variable {X : Cx} {C : Cn} {Wx : WX} {T : Tab} {e : Expr} {es : List Expr} {pos p : Pos} {h : TrA}
theorem r_bcall (hc : X.calm = true) (kt : KT C X.K) (ik : IsiK X.K C T) (b : B) (hb : b.ok = true) (hg : Gl X b.name) (hm : X.mg b.name = none) (mr : Mn (List W) h) (ha : PA X (e :: es) (rdA C Wx h))
    (he : starEach (e :: es) X.env = (false, eval e X.env) :: starEach es X.env) (hpl : (backTo pos (starEach es X.env)).any (·.1) = false) :
    PE X (.Call (.Name b.name p) (e :: es) [] pos) (rd C Wx fun e Q Xx => h e (fun ws e1 => sat (ress e1 ws) fun ds => sat2 (vCall T b ds) fun w => Q w e1) Xx) := by
  cases b with
  | int => exact r_cb cInt_ok mr (pe_callTy call_int1 hg hm bb_int ha (by decide) (by decide) he hpl)
  | abs => exact r_cb cAbs_ok mr (pe_callB call_abs hg hm bb_abs ha (by decide) (by decide) he hpl)
  | len => exact r_cb (cLen_ok kt) mr (pe_callB (call_len_seq.or call_len_str) hg hm PySem.boot_len ha (by decide) (by decide) he hpl)
  | tuple => exact r_cb (cTuple_ok kt) mr (pe_callTy call_tuple_of hg hm bb_tuple ha (by decide) (by decide) he hpl)
  | list => exact r_cb (cList_ok kt) mr (pe_callTy call_list_of hg hm bb_list ha (by decide) (by decide) he hpl)
  | sorted => exact r_cb cSorted_ok mr (pe_callB cr_sortedI hg hm bb_sorted ha (by decide) (by decide) he hpl)
  | sum => exact r_cb cSum_ok mr (pe_callB (cr_sum hc) hg hm bb_sum ha (by decide) (by decide) he hpl)
  | all => exact r_cb cAll_ok mr (pe_callB (cr_all hc) hg hm bb_all ha (by decide) (by decide) he hpl)
  | any => exact r_cb cAny_ok mr (pe_callB (cr_any hc) hg hm bb_any ha (by decide) (by decide) he hpl)
  | isinstance => exact r_cb (cIsi_ok kt ik) mr (pe_callB (call_isi.or call_isiT) hg hm bb_isinstance ha (by decide) (by decide) he hpl)
  | _ => cases hb
end

/-! ### a slot's own container changes -/
section
variable {C : Cn} {S : G} {e : Env} {σ : L2.St}
/-- the container of a slot is written: its new content o', at the same place -/
theorem own_upd {i : Nat} {o o' : O} {p : Addr} {u : HO} (a : At C S e σ) (g : get e i = some (.own o)) (hp : σ[i]? = some (some (.ref p))) (hr : ∀ S', Up S S' → S'.H p = some u → RepO C S' p o') :
    At C { S with H := upd S.H p u } (put e i (.own o')) σ ∧ Ext e σ S (put e i (.own o')) σ { S with H := upd S.H p u } := by
  have gi := get_iff.mp g
  have hil := get_lt g
  have hO : Own e σ p := ⟨i, o, gi, hp⟩
  obtain ⟨⟨u0, hu0⟩, nf, nd⟩ := Own.there a.re hO
  have up : Up S { S with H := upd S.H p u } := by
    refine ⟨fun _ h => h, fun _ h => h, fun b w f h _ => ?_, fun b w f h => ?_⟩
    · have : b ≠ p := fun z => nf (z ▸ f)
      show upd S.H p u b = some w
      rw [upd_ne this]; exact h
    · have : b ≠ p := fun z => nf (z ▸ f)
      rcases h with h | ⟨x, h⟩
      · exact .inl (by show upd S.H p u b = _; rw [upd_ne this]; exact h)
      · exact .inr ⟨x, by show upd S.H p u b = _; rw [upd_ne this]; exact h⟩
  have ownEq : ∀ q, Own (put e i (.own o')) σ q → Own e σ q := fun q hq => by
    obtain ⟨j, o1, h1, h2⟩ := hq
    rw [put_eq] at h1
    by_cases hj : i = j
    · subst hj
      exact ⟨i, o, gi, h2⟩
    · rw [List.getElem?_set_ne hj] at h1
      exact ⟨j, o1, h1, h2⟩
  have x : Ext e σ S (put e i (.own o')) σ { S with H := upd S.H p u } := by
    refine ⟨up, fun b w h1 h2 h3 h4 => ⟨?_, h2, h3, fun z => h4 (ownEq b z)⟩, fun b h => upd_none h⟩
    have : b ≠ p := fun z => h4 (z ▸ hO)
    show upd S.H p u b = some w
    rw [upd_ne this]; exact h1
  refine ⟨⟨⟨fun b f => ?_, fun q hq => ?_, a.wf.nf, a.wf.dis⟩, ⟨?_, fun j w hj => ?_, fun j k o1 o2 q hjk h1 h2 h3 => ?_, fun j k => ?_⟩⟩, x⟩
  · obtain ⟨w, hw⟩ := a.wf.dom b f
    have : b ≠ p := fun z => nf (z ▸ f)
    exact ⟨w, by show upd S.H p u b = _; rw [upd_ne this]; exact hw⟩
  · refine (a.wf.deal q hq).upd (fun z => nd ⟨q, hq, .inl z.symm⟩) (fun z => nd ⟨q, hq, .inr z.symm⟩)
  · rw [put_eq, List.length_set]; exact a.re.len
  · rw [put_eq] at hj
    by_cases hij : i = j
    · subst hij
      rw [List.getElem?_set_self hil] at hj
      cases hj
      exact ⟨_, hp, p, rfl, nf, nd, hr _ up upd_same⟩
    · rw [List.getElem?_set_ne hij] at hj
      obtain ⟨v', f1, f2⟩ := a.re.at_ j w hj
      refine ⟨v', f1, ?_⟩
      cases w with
      | val d => exact Rep.mono up f2
      | bor k => exact f2
      | own o1 =>
        obtain ⟨q, rfl, nf', nd', ho'⟩ := f2
        have qp : q ≠ p := fun z => by
          subst z
          exact a.re.dis i j o o1 q hij gi hp hj f1
        exact ⟨q, rfl, nf', nd', ho'.mono up fun w hw => by show upd S.H p u q = _; rw [upd_ne qp]; exact hw⟩
  · have fix : ∀ (k : Nat) (o1 : O), (put e i (W.own o'))[k]? = some (some (W.own o1)) → ∃ o2 : O, e[k]? = some (some (W.own o2)) := fun k o1 h => by
      rw [put_eq] at h
      by_cases hk : i = k
      · subst hk; exact ⟨o, gi⟩
      · rw [List.getElem?_set_ne hk] at h; exact ⟨o1, h⟩
    obtain ⟨o3, h4⟩ := fix j o1 h1
    obtain ⟨o4, h5⟩ := fix k o2 h3
    exact a.re.dis j k o3 o4 q hjk h4 h2 h5
  · rw [put_eq]
    by_cases hj : i = j
    · subst hj
      rw [List.getElem?_set_self hil]
      intro z; cases z
    · rw [List.getElem?_set_ne hj]
      exact a.re.nb j k
/-- the list of a slot -/
theorem own_lst {i : Nat} {xs : List D} (a : At C S e σ) (g : get e i = some (.own (.lst xs))) : ∃ p vs, σ[i]? = some (some (.ref p)) ∧ S.H p = some (.lst vs) ∧ Reps C S vs xs ∧ xs.length ≤ sizeLine := by
  obtain ⟨v, e1, p, rfl, nf, nd, vs, h1, h2, h3⟩ := a.re.at_ i _ (get_iff.mp g)
  exact ⟨p, vs, e1, h1, h2, h3⟩
end
section
variable {X : Cx} {C : Cn} {Wx : WX} {x : Str} {p apos cpos : Pos} {a : Expr} {fa : TrE} {i : Nat}
theorem r_app (hv : PE X (.Name x p) (tVar i)) (hs : starEach [a] X.env = [(false, eval a X.env)]) (hline : (apos.endLine == cpos.line) = true) (ma : Mn W fa) (ha : PE X a (rd C Wx fa)) :
    PE X (.Call (.Attribute (.Name x p) "append" apos) [a] [] cpos) (rd C Wx (wApp i fa)) := by
  have hr : PA X [a] (rdA C Wx fun e Q Xx => fa e (fun w e1 => (fun e Q _ => Q [] e : TrA) e1 (fun ws e2 => Q (w :: ws) e2) Xx) Xx) := ra_cons (h := fun e Q _ => Q [] e) hs ma (fun e Q Q' X X' q x p => q _ _ p) ha ra_nil
  have hfew : ((backTo cpos (starEach [a] X.env)).all (fun x => !x.1) && (backToKw cpos (keywordEach [] X.env)).all (fun x => x.1.isSome) && decide ([a].length + ([] : List Keyword).length + (if ([] : List Keyword).isEmpty then 0 else 1) < 30)) = true := by
    rw [hs]; rfl
  refine (pe_bm PySem.F.plainAttrs_list PySem.F.slot_list_append PySem.F.type_list_append mt_append hv hr rfl hfew hline hs rfl).imp fun σ H Q ⟨S, e, hH, a, q⟩ => ?_
  subst hH
  unfold wApp at q
  split at q
  · rename_i ys g
    obtain ⟨p0, vs0, hp0, hl0, _, _⟩ := own_lst a g
    refine ⟨_, hp0, .inl ⟨rfl, _, SqL.of hl0⟩, ?_⟩
    have hq : fa e (fun w e1 => ∃ w', [w] = [w'] ∧ appK i (post C e σ S Q) w' e1) (xpost C e σ S Wx) := ma _ _ _ _ _ (fun w e1 k => ⟨w, rfl, k⟩) (fun _ _ z => z) q
    refine rdA.then (f := fun e Q Xx => fa e (fun w e1 => Q [w] e1) Xx) (Q0 := fun ws e1 => ∃ w, ws = [w] ∧ appK i (post C e σ S Q) w e1) (X0 := xpost C e σ S Wx) (fun e Q Q' X X' q x p => ma _ _ _ _ _ (fun w e1 p => q _ _ p) x p) a hq (fun _ _ z => z) fun ws e1 vs S1 ⟨w, ew, k⟩ a1 x1 as => ?_
    subst ew
    obtain ⟨d, r, k⟩ := sat_iff.mp k
    cases as with
    | cons ar as =>
      cases as
      have rd := ar.toD r
      split at k
      · rename_i xs g1
        obtain ⟨p1, vs1, hp1, hl1, hr1, _⟩ := own_lst a1 g1
        rw [hp0] at hp1
        cases hp1
        refine ⟨p0, vs1, _, rfl, rfl, hl1, by rw [hr1.length]; exact k.1, ?_⟩
        obtain ⟨a2, x2⟩ := own_upd (u := .lst (vs1 ++ [_])) (o' := .lst (xs ++ [d])) a1 g1 hp0 fun S' up h => ⟨_, h, (hr1.mono up).append (.cons (rd.mono up) .nil), by rw [List.length_append]; exact k.1⟩
        have z := k.2 .non _ a2 (x1.trans x2) ⟨.non, fun _ _ z => nomatch z⟩
        exact z
      · exact k.elim
  · exact q.elim
theorem r_pop (hv : PE X (.Name x p) (tVar i)) (hline : (apos.endLine == cpos.line) = true) : PE X (.Call (.Attribute (.Name x p) "pop" apos) [] [] cpos) (rd C Wx (wPop i)) := by
  refine (pe_bm0 PySem.F.plainAttrs_list PySem.F.slot_list_pop PySem.F.type_list_pop mt_pop hv rfl hline).imp fun σ H Q ⟨S, e, hH, a, q⟩ => ?_
  subst hH
  unfold wPop at q
  split at q
  · rename_i xs g
    obtain ⟨p0, vs0, hp0, hl0, hr0, hz0⟩ := own_lst a g
    obtain ⟨d, hd, q⟩ := sat_iff.mp q
    obtain ⟨v, hv1, hv2⟩ := hr0.get hd
    refine ⟨_, hp0, .inl ⟨rfl, _, SqL.of hl0⟩, p0, vs0, v, rfl, rfl, hl0, by rw [hr0.length]; exact hv1, ?_⟩
    obtain ⟨a2, x2⟩ := own_upd (u := .lst vs0.dropLast) (o' := .lst xs.dropLast) a g hp0 fun S' up h => ⟨_, h, (hr0.mono up).dropLast, by rw [List.length_dropLast]; omega⟩
    have z := q v _ a2 x2 ⟨hv2.mono x2.up, fun _ _ z => nomatch z⟩
    exact z
  · exact q.elim
end
end VL

set_option Elab.async false
set_option linter.all false
set_option maxRecDepth 100000
set_option maxHeartbeats 4000000
namespace VL
open PySem L2

/-! ### a def of one's own, by its promise over values -/
/-- what a call may do -/
structure FStep (S S' : G) : Prop where
  wf : WF S'
  x : Ext [] [] S [] [] S'
theorem own_nil {a : Addr} : ¬ Own [] [] a := fun ⟨i, o, h, _⟩ => by simp at h
theorem FStep.at_ {C : Cn} {S S' : G} {e : Env} {σ : L2.St} (f : FStep S S') (a : At C S e σ) : At C S' e σ ∧ Ext e σ S e σ S' := by
  have kp : ∀ b o, S.H b = some o → ¬ S.F b → ¬ S.Dl b → S'.H b = some o ∧ ¬ S'.F b ∧ ¬ S'.Dl b := fun b o h1 h2 h3 => by
    obtain ⟨k1, k2, k3, _⟩ := f.x.kp b o h1 h2 h3 own_nil
    exact ⟨k1, k2, k3⟩
  refine ⟨⟨f.wf, a.re.step f.x.up fun p o hO hp => ?_⟩, f.x.up, fun b o h1 h2 h3 h4 => ?_, f.x.dm⟩
  · obtain ⟨_, nf, nd⟩ := Own.there a.re hO
    exact kp p o hp nf nd
  · obtain ⟨k1, k2, k3⟩ := kp b o h1 h2 h3
    exact ⟨k1, k2, k3, h4⟩
structure FnV (P : Program) (w : World) (K : PySem.W.Frag) (mg : Str → Option Value) (base : Heap) (C : Cn) (k : Nat) (f : Addr) (fd : FuncData) (ps : List Str) (sp : FSpec) : Prop where
  len : ∀ ds Q E, sp ds Q E → ds.length = ps.length
  run : ∀ (A : Around) (outer : List PySem.Env) (s : Shared) (args : PySem.Args) (us : List Value) (vs : List V) (ds : List D) (S : G) (Q : VK) (E : XK), Room k A → A.guards = some [] → Env0 P w K mg base A outer s S.H → BindsTo s fd args (ps.zip us) → Vals vs us →
    WF S → Reps C S vs ds → ap sp ds (fun d => ∀ v S', FStep S S' → Rep C S' v d → Q v S'.H) (fun x => ∀ cls dd S', FStep S S' → RepX C S' cls dd x → E cls dd S'.H) →
    codeAny (model P w) A (.call (.ref f) args) (CR (L2.CX P w) outer P w S.H s Q E) s
theorem FnV.mono {P : Program} {w : World} {K : PySem.W.Frag} {mg : Str → Option Value} {base : Heap} {C : Cn} {j k : Nat} {f : Addr} {fd : FuncData} {ps : List Str} {sp : FSpec} (F : FnV P w K mg base C j f fd ps sp) (h : j ≤ k) : FnV P w K mg base C k f fd ps sp :=
  ⟨F.len, fun A outer s args us vs ds S Q E hr => F.run A outer s args us vs ds S Q E (hr.mono h)⟩
section
variable {X : Cx} {C : Cn} {Wx : WX} {T : Tab} {e : Expr} {es : List Expr} {pos p : Pos} {h : TrA} {k : Nat} {f : Addr} {fd : FuncData} {ps : List Str} {sp : FSpec} {x : Str}
theorem run_fnV {pins : List (Addr × Obj)} {σ : L2.St} {s : Shared} {Q : VK} {us : List Value} {vs : List V} {ds : List D} {S : G} {ev : Env} {Qd : D → Prop} {Qx : Exc → Prop} (F : FnV X.prog X.w X.K X.mg X.base C k f fd ps sp) (hr : Room k X.A) (hgd : X.A.guards = some []) (hb : Binds X.K fd ps [])
    (tk : Takes X Wx) (I : Inv X pins σ S.H s) (r : Vals vs us) (a : At C S ev σ) (rs : Reps C S vs ds) (q : ap sp ds Qd Qx) (hq : ∀ d v S', Qd d → At C S' ev σ → Ext ev σ S ev σ S' → Rep C S' v d → Q v S'.H)
    (hx : ∀ y cls dd S', Qx y → At C S' ev σ → Ext ev σ S ev σ S' → RepX C S' cls dd y → Wx cls dd σ S'.H) : wpAny (model X.prog X.w) X.A (call (.ref f) us) (EP X pins σ Q) X.xe s := by
  have hl : (us ++ []).length = ps.length := by
    obtain ⟨_, _, q0, _⟩ := q
    rw [List.append_nil, ← r.length, rs.length]
    exact F.len _ _ _ q0
  have hbt := hb s us I.kIn hl
  rw [List.append_nil] at hbt
  refine wpAny_call (codeAny_mono (F.run X.A X.stack s ⟨us, []⟩ us vs ds S Q (fun cls dd H' => Wx cls dd σ H') hr hgd I.env0 hbt r a.wf rs (q.imp (fun d qd v S' fs rp => ?_) (fun y qy cls dd S' fs rx => ?_))) fun r s' hq => ?_)
  · obtain ⟨a', x'⟩ := fs.at_ a
    exact hq d v S' qd a' x' rp
  · obtain ⟨a', x'⟩ := fs.at_ a
    exact hx y cls dd S' qy a' x' rx
  · cases r with
    | error e => exact tk e s' (XE.of_call I (fun _ _ _ z => z) hq)
    | ok fl =>
      cases fl with
      | ret u => exact I.after hq
      | next => exact False.elim hq
      | brk => exact False.elim hq
      | cont => exact False.elim hq
theorem r_call (hT : T.fn x = some sp) (F : FnV X.prog X.w X.K X.mg X.base C k f fd ps sp) (hr : Room k X.A) (hgd : X.A.guards = some []) (hg : Gl X x) (hm : X.mg x = some (.ref f)) (hk : PySem.W.keepIn X.K (.ref f) = true) (hb : Binds X.K fd ps []) (tk : Takes X Wx)
    (mr : Mn (List W) h) (ha : PA X (e :: es) (rdA C Wx h)) (hdb : (x == ("__debug__" : Str)) = false) (he : starEach (e :: es) X.env = (false, eval e X.env) :: starEach es X.env) (hpl : (backTo pos (starEach es X.env)).any (·.1) = false) :
    PE X (.Call (.Name x p) (e :: es) [] pos) (rd C Wx fun e Q Xx => h e (fun ws e1 => sat (toDs ws) fun ds => sat (T.fn x) fun sp => ap sp ds (fun d => Q (.val d) e1) (fun y => Xx y e1)) Xx) := by
  refine ⟨fun pins s σ H Q I ⟨S, e, hH, a, q⟩ => ?_⟩
  subst hH
  refine wpAny_Call_Name_kw (ld_glob I hg hm ?_ hdb)
  have hrd : rdA C Wx h σ S.H fun vs H1 => ∃ S1 e1 ds, S1.H = H1 ∧ At C S1 e1 σ ∧ Ext e σ S e1 σ S1 ∧ Reps C S1 vs ds ∧ ap sp ds (fun d => post C e σ S Q (.val d) e1) (fun y => xpost C e σ S Wx y e1) :=
    rdA.then mr a q (fun _ _ z => z) fun ws e1 vs S1 p a1 x1 as => by
      obtain ⟨ds, r, p⟩ := sat_iff.mp p
      rw [hT] at p
      exact ⟨S1, e1, ds, rfl, a1, x1, as.toDs r, p⟩
  refine PySem.W.callWith_K (h₀ := X.base) I.ok.mod.kin hk (thn (ha.run pos pins s σ S.H _ I hrd) fun us s1 ⟨vs, H1, I1, r, S1, e1, ds, eH, a1, x1, rs, q1⟩ => ⟨I1.kIn, ?_⟩) he hpl
  subst eH
  refine run_fnV F hr hgd hb tk I1 r a1 rs q1 (fun d v S' qd a' x' rp => ?_) (fun y cls dd S' qy a' x' rx => ?_)
  · exact qd v S' a' (x1.trans x') ⟨rp, fun _ _ z => nomatch z⟩
  · exact qy cls dd S' a' (x1.trans x') rx
theorem r_call0 (hT : T.fn x = some sp) (F : FnV X.prog X.w X.K X.mg X.base C k f fd ps sp) (hr : Room k X.A) (hgd : X.A.guards = some []) (hg : Gl X x) (hm : X.mg x = some (.ref f)) (hk : PySem.W.keepIn X.K (.ref f) = true) (hb : Binds X.K fd ps []) (tk : Takes X Wx)
    (hdb : (x == ("__debug__" : Str)) = false) : PE X (.Call (.Name x p) [] [] pos) (rd C Wx fun e Q Xx => sat (toDs []) fun ds => sat (T.fn x) fun sp => ap sp ds (fun d => Q (.val d) e) (fun y => Xx y e)) := by
  refine ⟨fun pins s σ H Q I ⟨S, e, hH, a, q⟩ => ?_⟩
  subst hH
  refine wpAny_Call_Name_kw (ld_glob I hg hm ?_ hdb)
  have q : sat (T.fn x) fun sp => ap sp [] (fun d => post C e σ S Q (.val d) e) (fun y => xpost C e σ S Wx y e) := q
  rw [hT] at q
  refine PySem.W.callWith_K0 I.kIn hk (run_fnV (us := []) F hr hgd hb tk I .nil a .nil q (fun d v S' qd a' x' rp => ?_) (fun y cls dd S' qy a' x' rx => ?_))
  · exact qd v S' a' x' ⟨rp, fun _ _ z => nomatch z⟩
  · exact qy cls dd S' a' x' rx
end
end VL

set_option Elab.async false
set_option linter.all false
set_option maxRecDepth 100000
set_option maxHeartbeats 4000000
namespace VL
open PySem L2
abbrev TrI := Env → (List D → Env → Prop) → XP → Prop
/-- a walk that gives these items while what is frozen stands -/
structure WalkV (C : Cn) (J : It) (items : List D) (S0 : G) : Prop where
  len : items.length ≤ sizeLine
  go : ∀ S, Up S0 S → ∀ i, i < items.length → J.go i S.H
  stop : ∀ S, Up S0 S → J.stop items.length S.H
  yld : ∀ S, Up S0 S → WF S → ∀ i x H', i < items.length → J.yld i S.H x H' → ∃ S' d, S'.H = H' ∧ items[i]? = some d ∧ Rep C S' x d ∧ ∀ e σ, At C S e σ → At C S' e σ ∧ Ext e σ S e σ S'
theorem WalkV.up {C : Cn} {J : It} {items : List D} {S0 S1 : G} (w : WalkV C J items S0) (u : Up S0 S1) : WalkV C J items S1 :=
  ⟨w.len, fun S v i h => w.go S (u.trans v) i h, fun S v => w.stop S (u.trans v), fun S v wf i x H' h y => w.yld S (u.trans v) wf i x H' h y⟩
def ipost (C : Cn) (e : Env) (σ : L2.St) (S : G) (R : It → Hp → Prop) : List D → Env → Prop := fun items e' => ∀ J S', At C S' e' σ → Ext e σ S e' σ S' → WalkV C J items S' → R J S'.H
def rdI (C : Cn) (Wx : WX) (f : TrI) : TI := fun σ H R => ∃ S e, S.H = H ∧ At C S e σ ∧ f e (ipost C e σ S R) (xpost C e σ S Wx)
theorem _root_.L2.PI.imp {X : Cx} {tg iter : Expr} {t t' : TI} (h : PI X tg iter t) (i : ∀ σ H R, t' σ H R → t σ H R) : PI X tg iter t' := ⟨fun pins s σ H R I q => h.run pins s σ H R I (i σ H R q)⟩
theorem _root_.L2.PI.or {X : Cx} {tg iter : Expr} {t t' : TI} (h : PI X tg iter t) (h' : PI X tg iter t') : PI X tg iter fun σ H R => t σ H R ∨ t' σ H R := ⟨fun pins s σ H R I q => q.elim (h.run pins s σ H R I) (h'.run pins s σ H R I)⟩

section
variable {C : Cn} {S0 : G}
theorem same_step {S : G} : ∀ e σ, At C S e σ → At C S e σ ∧ Ext e σ S e σ S := fun e σ a => ⟨a, .refl _ _ _⟩
theorem walkV_list {K : PySem.W.Frag} {a : Addr} {vs : List V} {ds : List D} (f : S0.F a) (h : S0.H a = some (.lst vs)) (r : Reps C S0 vs ds) (hz : ds.length ≤ sizeLine) : WalkV C (Itl K a) ds S0 := by
  have hs : ∀ S, Up S0 S → SqL K S.H a vs := fun S u => .inl (.inl (u.fz _ _ f h trivial))
  refine ⟨hz, fun S u i hi => ⟨vs, vs[i]'(by rw [r.length]; exact hi), hs S u, by simp [show i < vs.length by rw [r.length]; exact hi]⟩, fun S u => ⟨vs, hs S u, by rw [r.length]; exact Nat.le_refl _⟩, fun S u wf i x H' hi y => ?_⟩
  obtain ⟨rfl, y⟩ := y
  have hx := y vs (hs S u)
  obtain ⟨d, h1, h2⟩ := r.getV hx
  exact ⟨S, d, rfl, h1, h2.mono u, same_step⟩
theorem walkV_tup {K : PySem.W.Frag} {a : Addr} {vs : List V} {ds : List D} (h : ∀ S, Up S0 S → SqT K S.H a vs) (r : Reps C S0 vs ds) (hz : ds.length ≤ sizeLine) : WalkV C (Itt K a) ds S0 := by
  refine ⟨hz, fun S u i hi => ⟨vs, vs[i]'(by rw [r.length]; exact hi), h S u, by simp [show i < vs.length by rw [r.length]; exact hi]⟩, fun S u => ⟨vs, h S u, by rw [r.length]; exact Nat.le_refl _⟩, fun S u wf i x H' hi y => ?_⟩
  obtain ⟨rfl, y⟩ := y
  have hx := y vs (h S u)
  obtain ⟨d, h1, h2⟩ := r.getV hx
  exact ⟨S, d, rfl, h1, h2.mono u, same_step⟩
theorem walkV_str {x : Str} (hz : x.length ≤ sizeLine) : WalkV C (Its x) (x.cps.toList.map fun c => .str ⟨#[c]⟩) S0 := by
  have hl : (x.cps.toList.map fun c => D.str ⟨#[c]⟩).length = x.cps.size := by simp
  refine ⟨by rw [hl]; exact hz, fun S u i hi => by rw [hl] at hi; exact hi, fun S u => by rw [hl]; exact Nat.le_refl _, fun S u wf i v H' hi y => ?_⟩
  obtain ⟨rfl, c, h1, rfl⟩ := y
  refine ⟨S, .str ⟨#[c]⟩, rfl, ?_, .str _, same_step⟩
  rw [List.getElem?_map, Array.getElem?_toList, h1]
  rfl
theorem rangeD_get {lo : Int} {n i : Nat} (h : i < n) : (rangeD lo n)[i]? = some (.int (lo + (i : Int))) := by
  unfold rangeD
  rw [List.getElem?_map, List.getElem?_range h]
  rfl
theorem rangeD_len {lo : Int} {n : Nat} : (rangeD lo n).length = n := by unfold rangeD; simp
theorem walkV_range {lo : Int} {n : Nat} (hz : n ≤ sizeLine) : WalkV C (Itr lo n) (rangeD lo n) S0 := by
  refine ⟨by rw [rangeD_len]; exact hz, fun S u i hi => by rw [rangeD_len] at hi; exact hi, fun S u => by rw [rangeD_len]; exact Nat.le_refl _, fun S u wf i v H' hi y => ?_⟩
  obtain ⟨rfl, rfl⟩ := y
  rw [rangeD_len] at hi
  exact ⟨S, _, rfl, rangeD_get hi, .int _, same_step⟩
theorem enumD_get : ∀ {k : Nat} {ds : List D} {i : Nat} {d : D}, ds[i]? = some d → (enumD k ds)[i]? = some (.tup [.int ((k + i : Nat) : Int), d])
  | k, [], i, d, h => by simp at h
  | k, x :: ds, 0, d, h => by simp at h; subst h; rfl
  | k, x :: ds, i + 1, d, h => by
    have := enumD_get (k := k + 1) (ds := ds) (i := i) (d := d) (by simpa using h)
    show (enumD (k + 1) ds)[i]? = _
    rw [this, show k + 1 + i = k + (i + 1) by omega]
theorem enumD_len : ∀ (k : Nat) (ds : List D), (enumD k ds).length = ds.length
  | _, [] => rfl
  | k, x :: ds => by show (enumD (k + 1) ds).length + 1 = _; rw [enumD_len]; rfl
theorem walkV_enum {K : PySem.W.Frag} {a : Addr} {vs : List V} {ds : List D} (f : S0.F a) (h : S0.H a = some (.lst vs)) (r : Reps C S0 vs ds) (hz : ds.length ≤ sizeLine) : WalkV C (Ite K a) (enumD 0 ds) S0 := by
  have hs : ∀ S, Up S0 S → SqL K S.H a vs := fun S u => .inl (.inl (u.fz _ _ f h trivial))
  have hl : (enumD 0 ds).length = vs.length := by rw [enumD_len, r.length]
  refine ⟨by rw [enumD_len]; exact hz, fun S u i hi => ⟨vs, vs[i]'(by omega), hs S u, by simp [show i < vs.length by omega]⟩, fun S u => ⟨vs, hs S u, by omega⟩, fun S u wf i x H' hi y => ?_⟩
  obtain ⟨T, x', rfl, hn, rfl, y⟩ := y
  have hx := y vs (hs S u)
  obtain ⟨d, h1, h2⟩ := r.getV hx
  refine ⟨{ S with H := upd S.H T (.tup [.int (i : Nat), x']), F := fun a => S.F a ∨ a = T }, .tup [.int ((i : Nat) : Int), d], rfl, ?_, ?_, fun e σ a => ⟨a.newF hn, ext_newF a hn⟩⟩
  · have := enumD_get (k := 0) h1
    rw [Nat.zero_add] at this
    exact this
  · have up : Up S { S with H := upd S.H T (.tup [.int (i : Nat), x']), F := fun a => S.F a ∨ a = T } := ⟨fun _ h => .inl h, fun _ h => h, fun b u _ h _ => by show upd S.H T _ b = some u; rw [upd_ne (ne_of_none h hn)]; exact h, fun b u _ h => rd_upd hn h⟩
    exact .tup (.inr rfl) upd_same (.cons (.int _) (.cons ((h2.mono u).mono up) .nil)) (by show 2 ≤ sizeLine; decide)
theorem zipD_get : ∀ {xs ys : List D} {i : Nat} {d d' : D}, xs[i]? = some d → ys[i]? = some d' → (zipD xs ys)[i]? = some (.tup [d, d'])
  | [], _, i, d, d', h, _ => by simp at h
  | _ :: _, [], i, d, d', _, h => by simp at h
  | x :: xs, y :: ys, 0, d, d', h, h' => by simp at h h'; subst h h'; rfl
  | x :: xs, y :: ys, i + 1, d, d', h, h' => zipD_get (xs := xs) (ys := ys) (i := i) (by simpa using h) (by simpa using h')
theorem zipD_len : ∀ (xs ys : List D), (zipD xs ys).length = min xs.length ys.length
  | [], ys => by simp [zipD]
  | x :: xs, [] => by simp [zipD]
  | x :: xs, y :: ys => by show (zipD xs ys).length + 1 = _; rw [zipD_len xs ys]; simp
theorem walkV_zip {K : PySem.W.Frag} {a b : Addr} {vs us : List V} {ds es : List D} (f : S0.F a) (h : S0.H a = some (.lst vs)) (r : Reps C S0 vs ds) (f' : S0.F b) (h' : S0.H b = some (.lst us)) (r' : Reps C S0 us es) (hz : ds.length ≤ sizeLine) : WalkV C (Itz K a b) (zipD ds es) S0 := by
  have hs : ∀ S, Up S0 S → SqL K S.H a vs := fun S u => .inl (.inl (u.fz _ _ f h trivial))
  have hs' : ∀ S, Up S0 S → SqL K S.H b us := fun S u => .inl (.inl (u.fz _ _ f' h' trivial))
  have hl : (zipD ds es).length = min vs.length us.length := by rw [zipD_len, r.length, r'.length]
  refine ⟨by rw [zipD_len]; omega, fun S u i hi => ⟨vs, us, vs[i]'(by omega), us[i]'(by omega), hs S u, hs' S u, by simp [show i < vs.length by omega], by simp [show i < us.length by omega]⟩, fun S u => ⟨vs, us, hs S u, hs' S u, by omega⟩, fun S u wf i x H' hi y => ?_⟩
  obtain ⟨T, x', y', rfl, hn, rfl, y1, y2⟩ := y
  obtain ⟨d, h1, h2⟩ := r.getV (y1 vs (hs S u))
  obtain ⟨d', h3, h4⟩ := r'.getV (y2 us (hs' S u))
  refine ⟨{ S with H := upd S.H T (.tup [x', y']), F := fun a => S.F a ∨ a = T }, .tup [d, d'], rfl, zipD_get h1 h3, ?_, fun e σ a => ⟨a.newF hn, ext_newF a hn⟩⟩
  have up : Up S { S with H := upd S.H T (.tup [x', y']), F := fun a => S.F a ∨ a = T } := ⟨fun _ h => .inl h, fun _ h => h, fun b u _ h _ => by show upd S.H T _ b = some u; rw [upd_ne (ne_of_none h hn)]; exact h, fun b u _ h => rd_upd hn h⟩
  exact .tup (.inr rfl) upd_same (.cons ((h2.mono u).mono up) (.cons ((h4.mono u).mono up) .nil)) (by show 2 ≤ sizeLine; decide)
end
section
variable {X : Cx} {C : Cn} {Wx : WX} {tg l a b : Expr} {fa fb : TrE}
/-- what a plain expression gives, walked: a list, a tuple, a text -/
def anyIt (K : PySem.W.Frag) (x : V) (H : Hp) (R : It → Hp → Prop) : Prop :=
  (∃ p us, x = .ref p ∧ SqL K H p us ∧ R (Itl K p) H) ∨ (∃ p us, x = .ref p ∧ SqT K H p us ∧ R (Itt K p) H) ∨ ∃ z, x = .str z ∧ R (Its z) H
theorem pi_any {tl : TE} (hl : PE X l tl) : PI X tg l fun σ H R => tl σ H fun x H1 => anyIt X.K x H1 R := ⟨fun pins s0 σ H R I hw => by
  refine thn (hl.run pins s0 σ H _ I hw) fun val s2 ⟨x, Hx, Ix, rx, qx⟩ => ?_
  have lone : ∀ b ∈ [s2.heap.objs.size], FpOk X pins Hx b := fun b hb => by
    rw [List.mem_singleton.mp hb]
    exact Ix.fpOk (Nat.le_refl _) (Ix.hok.fresh (Nat.le_refl _))
  rcases qx with ⟨p, us, rfl, sq, q⟩ | ⟨p, us, rfl, sq, q⟩ | ⟨z, rfl, q⟩
  · cases rx
    obtain ⟨vals, _, pl, _⟩ := Ix.list sq
    exact wpAny_pyIter_list pl.isList ⟨_, _, _, _, Hx, rfl, Ix.kept (t' := s2.toks) fun _ _ h => Heap.get?_push_of_some _ h, turn_list p _, ⟨_, Heap.get?_push_size _ rfl, rfl, rfl⟩, lone, q⟩
  · cases rx
    obtain ⟨vals, _, pl, _⟩ := Ix.tuple sq
    exact wpAny_pyIter_tuple (show s2.heap.IsTuple p vals.toArray from pl) ⟨_, _, _, _, Hx, rfl, Ix.kept (t' := s2.toks) fun _ _ h => Heap.get?_push_of_some _ h, turn_tuple p _, ⟨_, Heap.get?_push_size _ rfl, rfl, rfl⟩, lone, q⟩
  · obtain ⟨t, rfl⟩ := rx
    by_cases asc : z.cps.all (· < 128) = true
    · exact wpAny_pyIter_ascii asc (pi_one (tk := s2.toks) Ix _ (turn_str _ z t "str_ascii_iterator" (.inl rfl)) ⟨_, Heap.get?_push_size _ rfl, rfl, rfl⟩ q)
    · exact wpAny_pyIter_wide (by simpa using asc) (pi_one (tk := s2.toks) Ix _ (turn_str _ z t "str_iterator" (.inr rfl)) ⟨_, Heap.get?_push_size _ rfl, rfl, rfl⟩ q)⟩
theorem ri_any (kt : KT C X.K) (ma : Mn W fa) (ha : PE X a (rd C Wx fa)) : PI X tg a (rdI C Wx (iOf fa)) := (pi_any ha).imp fun σ H R ⟨S, e, hH, a, q⟩ => by
  subst hH
  refine rd.then ma a q (fun _ _ z => z) fun w e1 v S1 p a1 x1 g => ?_
  obtain ⟨d, r, p⟩ := sat_iff.mp p
  obtain ⟨S2, eH, a2, x2, u, ar⟩ := g.frz a1 x1
  rw [← eH]
  have rp := ar.toD r
  obtain ⟨cz, xs, hx, hc, pp⟩ := sat2_iff.mp p
  clear p
  unfold itemsOf at hx
  split at hx
  · cases hx
    cases rp with
    | lst f h r z => exact .inl ⟨_, _, rfl, .inl (.inl h), pp _ S2 a2 x2 (walkV_list f h r z)⟩
  · cases hx
    cases rp with
    | @tup p0 vs ds f h r z => exact .inr (.inl ⟨_, _, rfl, .inl (.inl h), pp _ S2 a2 x2 (walkV_tup (fun S u => .inl (.inl (u.fz _ _ f h trivial))) r z)⟩)
    | kt h =>
      obtain ⟨o, _, _, z⟩ := kt _ h
      exact .inr (.inl ⟨_, _, rfl, z _, pp _ S2 a2 x2 (walkV_tup (fun S u => z _) .nil (Nat.zero_le _))⟩)
  · cases hx
    cases rp with
    | str s => exact .inr (.inr ⟨_, rfl, pp _ S2 a2 x2 (walkV_str hc)⟩)
  · cases hx
variable {p pos tpos : Pos} {elts : List Expr} {kk : Nat}
theorem ri_rng1 (hg : Gl X "range") (hm : X.mg "range" = none) (hs : starEach [a] X.env = [(false, eval a X.env)]) (ma : Mn W fa) (ha : PE X a (rd C Wx fa)) : PI X tg (.Call (.Name "range" p) [a] [] pos) (rdI C Wx (iRng1 fa)) :=
  (pi_range1 hg hm (pa_cons ha pa_nil hs) hs).imp fun σ H R ⟨S, e, hH, a, q⟩ => by
    subst hH
    refine rd.then ma a q (fun _ _ z => z) fun w e1 v S1 p a1 x1 g => ?_
    obtain ⟨d, r, p⟩ := sat_iff.mp p
    cases d <;> first | exact p.elim | skip
    cases (g.res a1 r).int
    exact ⟨_, rfl, p.1.1, p.1.2, p.2.2 _ S1 a1 x1 (walkV_range p.2.1)⟩
theorem ri_rng2 (hg : Gl X "range") (hm : X.mg "range" = none) (hs : starEach [a, b] X.env = [(false, eval a X.env), (false, eval b X.env)]) (hs2 : starEach [b] X.env = [(false, eval b X.env)]) (ma : Mn W fa) (mb : Mn W fb) (ha : PE X a (rd C Wx fa)) (hb : PE X b (rd C Wx fb)) :
    PI X tg (.Call (.Name "range" p) [a, b] [] pos) (rdI C Wx (iRng2 fa fb)) :=
  (pi_range2 hg hm (pa_cons ha (pa_cons hb pa_nil hs2) (by rw [hs, hs2])) hs hs2).imp fun σ H R ⟨S, e, hH, a, q⟩ => by
    subst hH
    refine two ma mb a q fun da db e2 v1 v2 S2 k a2 x r1 r2 => ?_
    split at k
    · cases r1.int; cases r2.int
      exact ⟨_, _, rfl, ⟨k.1.1, k.1.2, k.2.1.1, k.2.1.2⟩, k.2.2.2 _ S2 a2 x (walkV_range k.2.2.1)⟩
    · exact k.elim
theorem ri_zip (hg : Gl X "zip") (hm : X.mg "zip" = none) (hs : starEach [a, b] X.env = (false, eval a X.env) :: starEach [b] X.env) (hs2 : starEach [b] X.env = [(false, eval b X.env)]) (ma : Mn W fa) (mb : Mn W fb) (ha : PE X a (rd C Wx fa)) (hb : PE X b (rd C Wx fb)) :
    PI X (.Tuple elts kk tpos) (.Call (.Name "zip" p) [a, b] [] pos) (rdI C Wx (iZip fa fb)) :=
  (pi_zip hg hm (pa_cons ha (pa_cons hb pa_nil hs2) hs) hs (by rw [hs2]; rfl)).imp fun σ H R ⟨S, e, hH, a, q⟩ => by
    subst hH
    refine rd.then ma a q (fun _ _ z => z) fun w e1 v S1 p a1 x1 g => ?_
    obtain ⟨S1', eH, a1', x1', u1, ar1⟩ := g.frz a1 x1
    rw [← eH]
    refine rd.then mb a1' p (fun _ _ z => z.back x1') fun w2 e2 v2 S2 p2 a2 x2 g2 => ?_
    obtain ⟨S2', eH2, a2', x2', u2, ar2⟩ := g2.frz a2 x2
    rw [← eH2]
    obtain ⟨da, r1, p2⟩ := sat_iff.mp p2
    obtain ⟨db, r2, p2⟩ := sat_iff.mp p2
    have rp1 := (ar1.toD r1).mono x2'.up
    have rp2 := ar2.toD r2
    split at p2
    · cases rp1 with
      | lst f h r z =>
        cases rp2 with
        | lst f' h' r' z' => exact ⟨_, _, _, _, rfl, .inl (.inl h), .inl (.inl h'), p2 _ S2' a2' (x1'.trans x2') (walkV_zip f h r f' h' r' z)⟩
    · exact p2.elim
end
end VL

set_option Elab.async false
set_option linter.all false
set_option maxRecDepth 100000
set_option maxHeartbeats 4000000
namespace VL
open PySem L2
section
variable {C : Cn} {S S0 : G} {e e0 : Env} {σ σ0 : L2.St} {v : V} {w : W} {i : Nat}
theorem set_at {α : Type} {l : List α} {i j : Nat} {x y : α} (h : (l.set i x)[j]? = some y) : (i = j ∧ y = x) ∨ (i ≠ j ∧ l[j]? = some y) := by
  by_cases hij : i = j
  · subst hij
    by_cases hl : i < l.length
    · rw [List.getElem?_set_self hl] at h; exact .inl ⟨rfl, (Option.some.inj h).symm⟩
    · rw [List.getElem?_eq_none (by rw [List.length_set]; omega)] at h; cases h
  · rw [List.getElem?_set_ne hij] at h; exact .inr ⟨hij, h⟩
/-- a name is given what was got -/
theorem set_w (hw : ∀ j, w ≠ .bor j) (a : At C S e σ) (x : Ext e0 σ0 S0 e σ S) (g : Got C S0 e σ S v w) : At C S (put e i w) (σ.set i (some v)) ∧ Ext e0 σ0 S0 (put e i w) (σ.set i (some v)) S := by
  have ownIn : ∀ q, Own (put e i w) (σ.set i (some v)) q → (∃ o, w = .own o ∧ v = .ref q) ∨ Own e σ q := fun q ⟨j, o, h1, h2⟩ => by
    rw [put_eq] at h1
    rcases set_at h1 with ⟨rfl, h⟩ | ⟨hij, h⟩
    · rcases set_at h2 with ⟨_, h'⟩ | ⟨hn, _⟩
      · cases h; cases h'; exact .inl ⟨o, rfl, rfl⟩
      · exact absurd rfl hn
    · rcases set_at h2 with ⟨hn, _⟩ | ⟨_, h'⟩
      · exact absurd hn hij
      · exact .inr ⟨j, o, h, h'⟩
  have rw' : ∀ {w' : W} {v' : V}, (∀ j, w' ≠ .bor j) → RepW C σ S v' w' → RepW C (σ.set i (some v)) S v' w' := fun {w' v'} hb h => by
    cases w' with
    | val d => exact h
    | own o => exact h
    | bor j => exact absurd rfl (hb j)
  refine ⟨⟨a.wf, ?_, fun j w' h => ?_, fun j k o1 o2 q hjk h1 h2 h3 h4 => ?_, fun j k h => ?_⟩, x.up, fun b o h1 h2 h3 h4 => ?_, x.dm⟩
  · rw [put_eq, List.length_set, List.length_set]; exact a.re.len
  · rw [put_eq] at h
    rcases set_at h with ⟨rfl, hh⟩ | ⟨hij, hh⟩
    · cases hh
      have hl : i < σ.length := by
        rw [← a.re.len]
        rcases Nat.lt_or_ge i e.length with z | z
        · exact z
        · rw [List.getElem?_eq_none (by rw [List.length_set]; exact z)] at h; cases h
      exact ⟨v, List.getElem?_set_self hl, rw' hw g.1⟩
    · obtain ⟨v', e1, e2⟩ := a.re.at_ j w' hh
      exact ⟨v', by rw [List.getElem?_set_ne hij]; exact e1, rw' (fun k z => a.re.nb j k (z ▸ hh)) e2⟩
  · rw [put_eq] at h1 h3
    rcases set_at h1 with ⟨rfl, z1⟩ | ⟨n1, z1⟩
    · rcases set_at h3 with ⟨z, _⟩ | ⟨n3, z3⟩
      · exact hjk z
      · rcases set_at h4 with ⟨z, _⟩ | ⟨_, z4⟩
        · exact n3 z
        · rcases set_at h2 with ⟨_, z2⟩ | ⟨z, _⟩
          · cases z1; cases z2
            exact (g.2 o1 q rfl rfl).1 ⟨k, o2, z3, z4⟩
          · exact z rfl
    · rcases set_at h2 with ⟨z, _⟩ | ⟨_, z2⟩
      · exact n1 z
      · rcases set_at h3 with ⟨rfl, z3⟩ | ⟨n3, z3⟩
        · rcases set_at h4 with ⟨_, z4⟩ | ⟨z, _⟩
          · cases z3; cases z4
            exact (g.2 o2 q rfl rfl).1 ⟨j, o1, z1, z2⟩
          · exact z rfl
        · rcases set_at h4 with ⟨z, _⟩ | ⟨_, z4⟩
          · exact n3 z
          · exact a.re.dis j k o1 o2 q hjk z1 z2 z3 z4
  · rw [put_eq] at h
    rcases set_at h with ⟨rfl, z⟩ | ⟨_, z⟩
    · exact hw k (Option.some.inj z).symm
    · exact a.re.nb j k z
  · obtain ⟨k1, k2, k3, k4⟩ := x.kp b o h1 h2 h3 h4
    refine ⟨k1, k2, k3, fun z => ?_⟩
    rcases ownIn b z with ⟨o', z1, z2⟩ | z
    · have := (g.2 o' b z1 z2).2
      rw [h1] at this; cases this
    · exact k4 z
theorem set_val {d : D} (a : At C S e σ) (r : Rep C S v d) : At C S (put e i (.val d)) (σ.set i (some v)) ∧ Ext e σ S (put e i (.val d)) (σ.set i (some v)) S :=
  set_w (fun j z => nomatch z) a (.refl _ _ _) ⟨r, fun _ _ z => nomatch z⟩
/-- targets -/
def TgOk (K : PySem.W.Frag) (C : Cn) (g : TG) (tg : List Nat) (one : Bool) : Prop := ∀ (S : G) (e : Env) (σ : L2.St) (v : V) (d : D) (k : Env → Prop) (Q : L2.St → Hp → Prop), KT C K → At C S e σ → Rep C S v d → bindT tg one d e k →
  (∀ e' σ', k e' → At C S e' σ' → Ext e σ S e' σ' S → (∀ j, j ∉ tg → e'[j]? = e[j]? ∧ σ'[j]? = σ[j]?) → (∀ j, j ∈ tg → ∀ o : O, e'[j]? ≠ some (some (.own o))) → σ'.length = σ.length → e'.length = e.length → Q σ' S.H) → g v σ S.H Q
theorem tg_name {K : PySem.W.Frag} : TgOk K C (gName i) [i] true := fun S e σ v d k Q kt a r h q => by
  obtain ⟨a', x'⟩ := set_val (i := i) a r
  refine q _ _ h a' x' (fun j hj => ?_) (fun j hj o z => ?_) (by rw [List.length_set]) (by rw [put_eq, List.length_set])
  · have : i ≠ j := fun z => hj (by simp [z])
    exact ⟨by rw [put_eq, List.getElem?_set_ne this], by rw [List.getElem?_set_ne this]⟩
  · have : j = i := by simpa using hj
    subst this
    rw [put_eq] at z
    rcases set_at z with ⟨_, z⟩ | ⟨z, _⟩
    · cases z
    · exact z rfl
def gNames : List Nat → TGs
  | [] => gNil
  | i :: is => gCons (gName i) (gNames is)
theorem tgs_names : ∀ (is : List Nat) (S : G) (e : Env) (σ : L2.St) (vs : List V) (ds : List D) (k : Env → Prop) (Q : L2.St → Hp → Prop), At C S e σ → Reps C S vs ds → ds.length = is.length → k (puts e is ds) →
    (∀ e' σ', k e' → At C S e' σ' → Ext e σ S e' σ' S → (∀ j, j ∉ is → e'[j]? = e[j]? ∧ σ'[j]? = σ[j]?) → (∀ j, j ∈ is → ∀ o : O, e'[j]? ≠ some (some (.own o))) → σ'.length = σ.length → e'.length = e.length → Q σ' S.H) → gNames is vs σ S.H Q
  | [], S, e, σ, vs, ds, k, Q, a, r, hl, h, q => by
    cases ds with
    | nil =>
      cases r
      exact ⟨rfl, q e σ h a (.refl _ _ _) (fun _ _ => ⟨rfl, rfl⟩) (fun _ z => nomatch z) rfl rfl⟩
    | cons d ds => cases hl
  | i :: is, S, e, σ, vs, ds, k, Q, a, r, hl, h, q => by
    cases ds with
    | nil => cases hl
    | cons d ds =>
      cases r with
      | @cons v vs _ _ r1 r2 =>
        refine ⟨v, vs, rfl, ?_⟩
        obtain ⟨a', x'⟩ := set_val (i := i) a r1
        refine tgs_names is S _ _ vs ds k Q a' r2 (by simpa using hl) h fun e2 σ2 h2 a2 x2 k2 o2 l2 l3 => ?_
        refine q e2 σ2 h2 a2 (x'.trans x2) (fun j hj => ?_) (fun j hj o z => ?_) (by rw [l2, List.length_set]) (by rw [l3, put_eq, List.length_set])
        · have n1 : i ≠ j := fun z => hj (by simp [z])
          have n2 : j ∉ is := fun z => hj (by simp [z])
          obtain ⟨z1, z2⟩ := k2 j n2
          rw [z1, z2, put_eq, List.getElem?_set_ne n1, List.getElem?_set_ne n1]
          exact ⟨rfl, rfl⟩
        · by_cases hm : j ∈ is
          · exact o2 j hm o z
          · have : j = i := by
              rcases List.mem_cons.mp hj with z | z
              · exact z
              · exact absurd z hm
            subst this
            obtain ⟨z1, _⟩ := k2 j hm
            rw [z1, put_eq] at z
            rcases set_at z with ⟨_, z⟩ | ⟨z, _⟩
            · cases z
            · exact z rfl
theorem bindT_tup {is : List Nat} {d : D} {k : Env → Prop} (h : bindT is false d e k) : ∃ ds, d = .tup ds ∧ ds.length = is.length ∧ k (puts e is ds) := by
  cases d <;> first | exact ⟨_, rfl, h⟩ | exact h.elim
theorem tg_tup {K : PySem.W.Frag} {is : List Nat} : TgOk K C (gTup K is.length (gNames is)) is false := fun S e σ v d k Q kt a r h q => by
  obtain ⟨ds, rfl, hl, h⟩ := bindT_tup h
  cases r with
  | tup f hH rs _ => exact ⟨_, _, rfl, .inl (.inl hH), by rw [rs.length]; exact hl, tgs_names is S e σ _ _ k Q a rs hl h q⟩
  | kt hk =>
    obtain ⟨o, _, _, z⟩ := kt _ hk
    exact ⟨_, _, rfl, z _, hl, tgs_names is S e σ _ _ k Q a .nil hl h q⟩
end
/-! an object that nobody has yet -/
section
variable {C : Cn} {S S0 : G} {e e0 : Env} {σ σ0 : L2.St} {p : Addr} {u : HO}
theorem tmp_up (nf : ¬ S.F p) : Up S { S with H := upd S.H p u } := by
  refine ⟨fun _ h => h, fun _ h => h, fun b w f h _ => ?_, fun b w f h => ?_⟩
  · have : b ≠ p := fun z => nf (z ▸ f)
    show upd S.H p u b = some w
    rw [upd_ne this]; exact h
  · have : b ≠ p := fun z => nf (z ▸ f)
    rcases h with h | ⟨x, h⟩
    · exact .inl (by show upd S.H p u b = _; rw [upd_ne this]; exact h)
    · exact .inr ⟨x, by show upd S.H p u b = _; rw [upd_ne this]; exact h⟩
theorem tmp_at (a : At C S e σ) (nf : ¬ S.F p) (nd : ¬ S.Dl p) (no : ¬ Own e σ p) : At C { S with H := upd S.H p u } e σ := by
  refine ⟨⟨fun b f => ?_, fun q hq => ?_, a.wf.nf, a.wf.dis⟩, a.re.step (tmp_up nf) fun q o hO hq => ?_⟩
  · obtain ⟨w, hw⟩ := a.wf.dom b f
    have : b ≠ p := fun z => nf (z ▸ f)
    exact ⟨w, by show upd S.H p u b = _; rw [upd_ne this]; exact hw⟩
  · exact (a.wf.deal q hq).upd (fun z => nd ⟨q, hq, .inl z.symm⟩) (fun z => nd ⟨q, hq, .inr z.symm⟩)
  · have : q ≠ p := fun z => no (z ▸ hO)
    obtain ⟨_, nf', nd'⟩ := Own.there a.re hO
    exact ⟨by show upd S.H p u q = _; rw [upd_ne this]; exact hq, nf', nd'⟩
theorem tmp_ext (x : Ext e0 σ0 S0 e σ S) (nf : ¬ S.F p) (n0 : S0.H p = none) : Ext e0 σ0 S0 e σ { S with H := upd S.H p u } := by
  refine ⟨x.up.trans (tmp_up nf), fun b o h1 h2 h3 h4 => ?_, fun b h => x.dm b (upd_none h)⟩
  obtain ⟨k1, k2, k3, k4⟩ := x.kp b o h1 h2 h3 h4
  have : b ≠ p := fun z => by subst z; rw [n0] at h1; cases h1
  exact ⟨by show upd S.H p u b = _; rw [upd_ne this]; exact k1, k2, k3, k4⟩
end
end VL

set_option Elab.async false
set_option linter.all false
set_option maxRecDepth 100000
set_option maxHeartbeats 4000000
namespace VL
open PySem L2
/-- no exception -/
def WF0 : WX := fun _ _ _ _ => False
theorem wipe_at {σ : L2.St} {vs : List Nat} {j : Nat} (h : j ∉ vs) : (wipe σ vs)[j]? = σ[j]? := wipe_out h
theorem wipeE_len (e : Env) : ∀ vs, (wipeE e vs).length = e.length
  | [] => rfl
  | v :: vs => by unfold wipeE; rw [clr_eq, List.length_set, wipeE_len e vs]
theorem wipeE_at {e : Env} : ∀ {vs : List Nat} {j : Nat}, j ∉ vs → (wipeE e vs)[j]? = e[j]?
  | [], j, _ => rfl
  | v :: vs, j, h => by
    have n1 : v ≠ j := fun z => h (by simp [z])
    have n2 : j ∉ vs := fun z => h (by simp [z])
    unfold wipeE
    rw [clr_eq, List.getElem?_set_ne n1, wipeE_at n2]
theorem wipeE_in {e : Env} : ∀ {vs : List Nat} {j : Nat} {w : W}, j ∈ vs → (wipeE e vs)[j]? ≠ some (some w)
  | [], j, w, h => nomatch h
  | v :: vs, j, w, h => fun z => by
    unfold wipeE at z
    rw [clr_eq] at z
    rcases set_at z with ⟨_, z⟩ | ⟨n, z⟩
    · cases z
    · have : j ∈ vs := by
        rcases List.mem_cons.mp h with q | q
        · exact absurd q.symm n
        · exact q
      exact wipeE_in this z
theorem wipe_set {σ : L2.St} {o : Option V} : ∀ {vs : List Nat} {i : Nat}, i ∈ vs → wipe (σ.set i o) vs = wipe σ vs
  | [], i, h => nomatch h
  | v :: vs, i, h => by
    unfold wipe
    by_cases hm : i ∈ vs
    · rw [wipe_set hm]
    · have e : v = i := by
        rcases List.mem_cons.mp h with q | q
        · exact q.symm
        · exact absurd q hm
      subst e
      have : wipe (σ.set v o) vs = (wipe σ vs).set v o := by
        clear h
        induction vs with
        | nil => rfl
        | cons u us ih =>
          have n1 : u ≠ v := fun z => hm (by simp [z])
          have n2 : v ∉ us := fun z => hm (by simp [z])
          unfold wipe
          rw [ih n2, List.set_comm _ _ n1.symm]
      rw [this, List.set_set]
theorem ext_list {α : Type} {l m : List α} (hl : l.length = m.length) (h : ∀ j, j < l.length → l[j]? = m[j]?) : l = m := by
  apply List.ext_getElem? 
  intro j
  by_cases hj : j < l.length
  · exact h j hj
  · rw [List.getElem?_eq_none (by omega), List.getElem?_eq_none (by omega)]
theorem wipe_none {σ : L2.St} : ∀ {vs : List Nat} {j : Nat}, j ∈ vs → j < σ.length → (wipe σ vs)[j]? = some none
  | [], j, h, _ => nomatch h
  | v :: vs, j, h, hl => by
    unfold wipe
    by_cases e : v = j
    · subst e
      rw [List.getElem?_set_self (by rw [wipe_length]; exact hl)]
    · rw [List.getElem?_set_ne e]
      rcases List.mem_cons.mp h with q | q
      · exact absurd q.symm e
      · exact wipe_none q hl
/-- slots that differ at the block's own places alone are wiped to the same -/
theorem wipe_same {σ σ' : L2.St} {vs : List Nat} (hl : σ'.length = σ.length) (h : ∀ j, j ∉ vs → σ'[j]? = σ[j]?) : wipe σ' vs = wipe σ vs := by
  refine ext_list (by rw [wipe_length, wipe_length, hl]) fun j hj => ?_
  rw [wipe_length] at hj
  by_cases hm : j ∈ vs
  · rw [wipe_none hm hj, wipe_none hm (by omega)]
  · rw [wipe_at hm, wipe_at hm, h j hm]
section
variable {C : Cn} {S S' : G} {e e2 : Env} {σ σ2 : L2.St} {vs : List Nat}
theorem wipe_in (a : At C S e σ) : At C S (wipeE e vs) (wipe σ vs) := by
  refine ⟨a.wf, by rw [wipeE_len, wipe_length]; exact a.re.len, fun j w h => ?_, fun j k o o' q hjk h1 h2 h3 h4 => ?_, fun j k h => ?_⟩
  · by_cases hm : j ∈ vs
    · exact absurd h (wipeE_in hm)
    · rw [wipeE_at hm] at h
      obtain ⟨v, e1, e2⟩ := a.re.at_ j w h
      refine ⟨v, by rw [wipe_at hm]; exact e1, ?_⟩
      cases w with
      | val d => exact e2
      | own o => exact e2
      | bor i => exact absurd h (a.re.nb j i)
  · by_cases hj : j ∈ vs
    · exact absurd h1 (wipeE_in hj)
    · by_cases hk : k ∈ vs
      · exact absurd h3 (wipeE_in hk)
      · rw [wipeE_at hj] at h1
        rw [wipeE_at hk] at h3
        rw [wipe_at hj] at h2
        rw [wipe_at hk] at h4
        exact a.re.dis j k o o' q hjk h1 h2 h3 h4
  · by_cases hj : j ∈ vs
    · exact absurd h (wipeE_in hj)
    · rw [wipeE_at hj] at h
      exact a.re.nb j k h
/-- behind the block's own code: the def's slots are as they were -/
theorem wipe_back (a : At C S e σ) (hag : ∀ j, j ∉ vs → e2[j]? = e[j]? ∧ σ2[j]? = σ[j]?) (hno : ∀ j, j ∈ vs → ∀ o : O, e2[j]? ≠ some (some (.own o))) (a2 : At C S' e2 σ2) (x : Ext e2 σ2 S e2 σ2 S') : At C S' e σ ∧ Ext e σ S e σ S' := by
  have o2 : ∀ q, Own e2 σ2 q → Own e σ q := fun q ⟨j, o, h1, h2⟩ => by
    by_cases hm : j ∈ vs
    · exact absurd h1 (hno j hm o)
    · obtain ⟨z1, z2⟩ := hag j hm
      exact ⟨j, o, by rw [← z1]; exact h1, by rw [← z2]; exact h2⟩
  refine ⟨⟨a2.wf, a.re.len, fun j w h => ?_, a.re.dis, a.re.nb⟩, x.up, fun b o h1 h2 h3 h4 => ?_, x.dm⟩
  · obtain ⟨v, e1, e2'⟩ := a.re.at_ j w h
    refine ⟨v, e1, ?_⟩
    cases w with
    | val d => exact Rep.mono x.up e2'
    | bor i => exact e2'
    | own o =>
      obtain ⟨q, rfl, nf, nd, ho⟩ := e2'
      by_cases hm : j ∈ vs
      · have no : ¬ Own e2 σ2 q := fun ⟨k, o', h1, h2⟩ => by
          by_cases hk : k ∈ vs
          · exact hno k hk o' h1
          · obtain ⟨z1, z2⟩ := hag k hk
            rw [z1] at h1
            rw [z2] at h2
            exact a.re.dis j k o o' q (fun z => hk (z ▸ hm)) h e1 h1 h2
        obtain ⟨u, hu⟩ := ho.there
        obtain ⟨k1, k2, k3, _⟩ := x.kp q u hu nf nd no
        exact ⟨q, rfl, k2, k3, ho.mono x.up fun u hu => (x.kp q u hu nf nd no).1⟩
      · obtain ⟨z1, z2⟩ := hag j hm
        obtain ⟨v', f1, f2⟩ := a2.re.at_ j (.own o) (by rw [z1]; exact h)
        rw [z2, e1] at f1
        cases f1
        exact f2
  · obtain ⟨k1, k2, k3, _⟩ := x.kp b o h1 h2 h3 fun z => h4 (o2 b z)
    exact ⟨k1, k2, k3, h4⟩
theorem frzAll_ok : ∀ {e : Env} {S : G} (fz : List Nat), At C S e σ → ∃ S', S'.H = S.H ∧ At C S' (frzAll e fz) σ ∧ Ext e σ S (frzAll e fz) σ S'
  | e, S, [], a => ⟨S, rfl, a, .refl _ _ _⟩
  | e, S, i :: fz, a => by
    unfold frzAll frzE
    split
    · rename_i o g
      obtain ⟨p, _, a', x', _⟩ := frz_ok a g
      obtain ⟨S2, h2, a2, x2⟩ := frzAll_ok fz a'
      exact ⟨S2, h2, a2, x'.trans x2⟩
    · exact frzAll_ok fz a
end
theorem lcL_at {f : D → (Option D → Prop) → Prop} {items : List D} {ys : List D} {Q : List D → Prop} {i : Nat} {d : D} (h : lcL f (items.drop i) ys Q) (hd : items[i]? = some d) :
    f d fun r => match r with
      | some y => lcL f (items.drop (i + 1)) (ys ++ [y]) Q
      | none => lcL f (items.drop (i + 1)) ys Q := by
  have e : items.drop i = d :: items.drop (i + 1) := by
    obtain ⟨hl, hg⟩ := List.getElem?_eq_some_iff.mp hd
    rw [← hg]
    exact List.drop_eq_getElem_cons hl
  rw [e] at h
  exact h
section
variable {X : Cx} {C : Cn} {Wx : WX} {elt tgE iter : Expr} {ifs : List Expr} {scope : Scope} {own : List (Str × Nat)} {pos : Pos} {fi : TrI} {g : TG} {t : TrT} {fe : TrE} {fz tg : List Nat} {one : Bool}
theorem lc_run {σ : L2.St} {S : G} {e : Env} {Q : VK} {vs : List Nat} (kt : KT C X.K) (tgok : TgOk X.K C g tg one) (hsub : ∀ j ∈ tg, j ∈ vs) (mi : Mn (List D) fi) (mt : Mn Bool t) (me : Mn W fe) (a : At C S e σ)
    (q : wLc fz vs tg one fi t fe e (post C e σ S Q) (xpost C e σ S Wx)) : tLc (rdI C Wx fi) g (rdT C WF0 t) (rd C WF0 fe) vs σ S.H Q := by
  obtain ⟨S1, eH, a1, x1⟩ := frzAll_ok fz a
  rw [← eH]
  refine ⟨S1, frzAll e fz, rfl, a1, mi _ _ _ _ _ (fun items e1 p => ?_) (fun _ _ z => z.back x1) q⟩
  intro J S2 a2 x2 wk D hD
  have hlen := wk.len
  have x02 : Ext e σ S e1 σ S2 := x1.trans x2
  have nF : ¬ S2.F D := fun f => by obtain ⟨u, hu⟩ := a2.wf.dom _ f; rw [hD] at hu; cases hu
  have nD : ¬ S2.Dl D := fun f => by obtain ⟨u, hu⟩ := Dl.there a2.wf f; rw [hD] at hu; cases hu
  have nO : ¬ Own e1 σ D := fun f => by obtain ⟨⟨u, hu⟩, _⟩ := Own.there a2.re f; rw [hD] at hu; cases hu
  have n0 : S.H D = none := x02.dm D hD
  let Pv : Nat → Hp → Prop := fun i H => ∃ S3 acc ys, S3.H = H ∧ At C S3 e1 σ ∧ Ext e σ S e1 σ S3 ∧ Up S2 S3 ∧ S3.H D = some (.lst acc) ∧ Reps C S3 acc ys ∧ ¬ S3.F D ∧ ¬ S3.Dl D ∧ acc.length ≤ i ∧
    lcL (lcF vs tg one t fe e1) (items.drop i) ys fun ys => post C e σ S Q (.own (.lst ys)) e1
  refine ⟨fun i m H => m = items.length - i ∧ i ≤ items.length ∧ Pv i H, ⟨items.length, by simp, Nat.zero_le _, { S2 with H := upd S2.H D (.lst []) }, [], [], rfl, tmp_at a2 nF nD nO, tmp_ext x02 nF n0, tmp_up nF, upd_same, .nil, nF, nD, Nat.le_refl _, p⟩, ?_⟩
  rintro i m H ⟨rfl, hi, S3, acc, ys, rfl, a3, x3, u3, hacc, racc, nF3, nD3, hal, hlc⟩
  by_cases hlt : i < items.length
  · refine .inr ⟨wk.go S3 u3 i hlt, Pv (i + 1), fun H' p' => ⟨items.length - (i + 1), by omega, rfl, hlt, p'⟩, fun x H' y => ?_⟩
    obtain ⟨S4, d, rfl, hd, rd4, st4⟩ := wk.yld S3 u3 a3.wf i x H' hlt y
    obtain ⟨a4, x4⟩ := st4 e1 σ a3
    obtain ⟨a4w, x4w⟩ := st4 _ _ (wipe_in (vs := vs) a3)
    have hb := lcL_at hlc hd
    have nO3 : ¬ Own e1 σ D := nO
    obtain ⟨h4, nF4, nD4, _⟩ := x4.kp D _ hacc nF3 nD3 nO3
    refine tgok S4 _ _ x d _ _ kt a4w rd4 hb fun e2 σ2 hk a5 x5 ag ag2 l2 l3 => ?_
    have hag : ∀ j, j ∉ vs → e2[j]? = e1[j]? ∧ σ2[j]? = σ[j]? := fun j hj => by
      obtain ⟨z1, z2⟩ := ag j fun z => hj (hsub j z)
      rw [z1, z2, wipeE_at hj, wipe_at hj]
      exact ⟨rfl, rfl⟩
    have hno : ∀ j, j ∈ vs → ∀ o : O, e2[j]? ≠ some (some (.own o)) := fun j hj o z => by
      by_cases hm : j ∈ tg
      · exact ag2 j hm o z
      · rw [(ag j hm).1] at z
        exact wipeE_in hj z
    have nO2 : ¬ Own e2 σ2 D := fun ⟨j, o, h1, h2⟩ => by
      by_cases hm : j ∈ vs
      · exact hno j hm o h1
      · obtain ⟨z1, z2⟩ := hag j hm
        exact nO3 ⟨j, o, by rw [← z1]; exact h1, by rw [← z2]; exact h2⟩
    refine ⟨wipe_same (by rw [l2, wipe_length]) fun j hj => (hag j hj).2, ?_⟩
    refine rdT.then mt a5 hk (fun _ _ z => z.elim) fun b e3 S5 p5 a6 x6 => ?_
    obtain ⟨rfl, p5⟩ := p5
    obtain ⟨b5, y5⟩ := wipe_back a4 hag hno a6 x6
    obtain ⟨h5, nF5, nD5, _⟩ := x6.kp D _ h4 nF4 nD4 nO2
    cases b with
    | false =>
      have u5 := (u3.trans x4.up).trans y5.up
      exact ⟨S5, acc, ys, rfl, b5, (x3.trans x4).trans y5, u5, h5, (racc.mono x4.up).mono y5.up, nF5, nD5, by omega, p5⟩
    | true =>
      refine rd.then me a6 p5 (fun _ _ z => z.elim) fun w e4 v S6 p6 a7 x7 g7 => ?_
      obtain ⟨rfl, p6⟩ := p6
      obtain ⟨S7, eH7, a8, x8, u8, ar⟩ := g7.frz a7 x7
      obtain ⟨y, ry, p6⟩ := sat_iff.mp p6
      have rv := ar.toD ry
      obtain ⟨b6, y6⟩ := wipe_back b5 hag hno a8 x8
      obtain ⟨h6, nF6, nD6, _⟩ := x8.kp D _ h5 nF5 nD5 nO2
      rw [← eH7]
      refine ⟨acc, h6, Nat.lt_of_le_of_lt hal (Nat.lt_of_lt_of_le hlt hlen), ?_⟩
      have xx := ((x3.trans x4).trans y5).trans y6
      refine ⟨{ S7 with H := upd S7.H D (.lst (acc ++ [v])) }, acc ++ [v], ys ++ [y], rfl, tmp_at b6 nF6 nD6 nO3, tmp_ext xx nF6 n0, ?_, upd_same, ?_, nF6, nD6, ?_, p6⟩
      · exact (((u3.trans x4.up).trans y5.up).trans y6.up).trans (tmp_up nF6)
      · exact ((((racc.mono x4.up).mono y5.up).mono y6.up).mono (tmp_up nF6)).append (.cons (rv.mono (tmp_up nF6)) .nil)
      · rw [List.length_append]; exact Nat.add_le_add hal (Nat.le_refl 1)
  · have e : i = items.length := by omega
    subst e
    rw [List.drop_length] at hlc
    exact .inl ⟨wk.stop S3 u3, hlc (.ref D) S3 a3 x3 ⟨⟨D, rfl, nF3, nD3, acc, hacc, racc, by rw [← racc.length]; exact Nat.le_trans hal hlen⟩, fun o q _ z => by cases z; exact ⟨nO, n0⟩⟩⟩
end
end VL

set_option Elab.async false
set_option linter.all false
set_option maxRecDepth 100000
set_option maxHeartbeats 4000000
namespace VL
open PySem L2
def Pst (C : Cn) (Wx : WX) (e : Env) (σ : L2.St) (S : G) (K : Ends) : Post where
  nx := fun e' => ∀ σ' S', At C S' e' σ' → Ext e σ S e' σ' S' → K.nx σ' S'.H
  rt := fun d => ∀ v e' σ' S', At C S' e' σ' → Ext e σ S e' σ' S' → Rep C S' v d → K.rt v S'.H
  bk := fun e' => ∀ σ' S', At C S' e' σ' → Ext e σ S e' σ' S' → K.bk σ' S'.H
  ct := fun e' => ∀ σ' S', At C S' e' σ' → Ext e σ S e' σ' S' → K.ct σ' S'.H
  xc := fun x e' => ∀ cls d σ' S', At C S' e' σ' → Ext e σ S e' σ' S' → RepX C S' cls d x → Wx cls d σ' S'.H
def rdS (C : Cn) (Wx : WX) (f : TrS) : TS := fun K σ H => ∃ S e, S.H = H ∧ At C S e σ ∧ f e (Pst C Wx e σ S K)
theorem Pst.x {C : Cn} {Wx : WX} {e : Env} {σ : L2.St} {S : G} {K : Ends} {y : Exc} {e' : Env} (h : (Pst C Wx e σ S K).xc y e') : xpost C e σ S Wx y e' := fun cls d S' a x r => h cls d σ S' a x r
theorem Pst.back {C : Cn} {Wx : WX} {e e' : Env} {σ σ' : L2.St} {S S' : G} {K : Ends} (x : Ext e σ S e' σ' S') : Pimp (Pst C Wx e σ S K) (Pst C Wx e' σ' S' K) :=
  ⟨fun _ h σ2 S2 a y => h σ2 S2 a (x.trans y), fun _ h v e2 σ2 S2 a y => h v e2 σ2 S2 a (x.trans y), fun _ h σ2 S2 a y => h σ2 S2 a (x.trans y), fun _ h σ2 S2 a y => h σ2 S2 a (x.trans y), fun _ _ h cls d σ2 S2 a y => h cls d σ2 S2 a (x.trans y)⟩
/-- a statement at the end -/
theorem rdS.last {C : Cn} {Wx : WX} {f : TrS} (m : Ms f) {e e' : Env} {σ σ' : L2.St} {S S' : G} {K : Ends} (a : At C S' e' σ') (x : Ext e σ S e' σ' S') (h : f e' (Pst C Wx e σ S K)) : rdS C Wx f K σ' S'.H :=
  ⟨S', e', rfl, a, m _ _ _ (Pst.back x) h⟩
section
variable {X : Cx} {C : Cn} {Wx : WX} {st : Stmt} {rest body els : List Stmt} {f g : TrS} {fa fb : TrE} {t : TrT} {a b c : Expr} {pos : Pos} {i j : Nat}
theorem s_nil : PSs X [] (rdS C Wx fun e P => P.nx e) := pss_nil.imp fun K σ H ⟨S, e, hH, a, q⟩ => by
  subst hH
  exact q σ S a (.refl _ _ _)
theorem s_cons (mg : Ms g) (h1 : PS X st (rdS C Wx f)) (mf : Ms f) (h2 : PSs X rest (rdS C Wx g)) : PSs X (st :: rest) (rdS C Wx (wSeq f g)) := (pss_cons h1 h2).imp fun K σ H ⟨S, e, hH, a, q⟩ => by
  subst hH
  refine ⟨S, e, rfl, a, mf e { Pst C Wx e σ S K with nx := fun e1 => g e1 (Pst C Wx e σ S K) } _ ⟨fun e1 h σ1 S1 a1 x1 => ?_, fun _ h => h, fun _ h => h, fun _ h => h, fun _ _ h => h⟩ q⟩
  exact rdS.last mg a1 x1 h
theorem s_set {te : TE} (hs : PS X st (tAsg te (gName i))) (ht : ∀ σ H Q, rd C Wx fa σ H Q → te σ H Q) (ma : Mn W fa) : PS X st (rdS C Wx (wSet i fa)) := hs.imp fun K σ H ⟨S, e, hH, a, q⟩ => by
  subst hH
  refine ht _ _ _ (rd.then ma a q (fun _ _ z => Pst.x z) fun w e1 v S1 p a1 x1 g1 => ?_)
  show K.nx (σ.set i (some v)) S1.H
  cases w with
  | bor j => exact p.elim
  | val d =>
    obtain ⟨a2, x2⟩ := set_w (i := i) (fun j z => W.noConfusion z) a1 x1 g1
    exact p _ _ a2 x2
  | own o =>
    obtain ⟨a2, x2⟩ := set_w (i := i) (fun j z => W.noConfusion z) a1 x1 g1
    exact p _ _ a2 x2
theorem setK_ok {k : Env → Prop} {w : W} {e0 e : Env} {σ0 σ : L2.St} {S0 S : G} {v : V} (h : setK i k w e) (a : At C S e σ) (x : Ext e0 σ0 S0 e σ S) (g : Got C S0 e σ S v w) : k (put e i w) ∧ At C S (put e i w) (σ.set i (some v)) ∧ Ext e0 σ0 S0 (put e i w) (σ.set i (some v)) S ∧ ∀ j, w ≠ .bor j := by
  cases w with
  | bor j => exact h.elim
  | val d =>
    obtain ⟨a2, x2⟩ := set_w (i := i) (fun j z => W.noConfusion z) a x g
    exact ⟨h, a2, x2, fun j z => W.noConfusion z⟩
  | own o =>
    obtain ⟨a2, x2⟩ := set_w (i := i) (fun j z => W.noConfusion z) a x g
    exact ⟨h, a2, x2, fun j z => W.noConfusion z⟩
theorem s_par {x y : Str} {px py pt : Pos} {kt k2 pt2} (hc : X.calm = true) (hN : X.N.Nodup) (hi : X.N[i]? = some x) (hj : X.N[j]? = some y) (hij : i ≠ j) (hx : X.env.scope.names.lookup x = some .local) (hy : X.env.scope.names.lookup y = some .local)
    (hs1 : starEach [a, b] X.env = (false, eval a X.env) :: starEach [b] X.env) (hs2 : starEach [b] X.env = [(false, eval b X.env)]) (ma : Mn W fa) (mb : Mn W fb) (ha : PE X a (rd C Wx fa)) (hb : PE X b (rd C Wx fb))
    (hw : swappedStores [.Tuple [.Name x px, .Name y py] kt pt] (.Tuple [a, b] k2 pt2) X.env = pure (some [x, y])) :
    PS X (.Assign [.Tuple [.Name x px, .Name y py] kt pt] (.Tuple [a, b] k2 pt2) pos) (rdS C Wx (wPar i j fa fb)) := (ps_par hc hN hi hj hij hx hy (pa_cons ha (pa_cons hb pa_nil hs2) hs1) hw rfl).imp fun K σ H ⟨S, e, hH, a, q⟩ => by
  subst hH
  refine rd.then ma a q (fun _ _ z => Pst.x z) fun w1 e1 v1 S1 p1 a1 x1 g1 => rd.then mb a1 p1 (fun _ _ z => (Pst.x z).back x1) fun w2 e2 v2 S2 p2 a2 x2 g2 => ?_
  refine ⟨v1, v2, rfl, ?_⟩
  obtain ⟨p3, a3, x3, n3⟩ := setK_ok p2 a2 (x1.trans x2) (g1.mono x2)
  have g2' : Got C S (put e2 i w1) (σ.set i (some v1)) S2 v2 w2 := by
    have gg := g2.from x1
    refine ⟨?_, fun o p ew ev => ⟨fun hO => ?_, (gg.2 o p ew ev).2⟩⟩
    · cases w2 with
      | bor j => exact p3.elim
      | val d => exact gg.1
      | own o => exact gg.1
    · subst ew ev
      obtain ⟨k, o', h1, h2⟩ := hO
      rw [put_eq] at h1
      rcases set_at h1 with ⟨rfl, z1⟩ | ⟨n1, z1⟩
      · rcases set_at h2 with ⟨_, z2⟩ | ⟨z, _⟩
        · cases z1
          cases z2
          obtain ⟨pp, epp, _, _, ho⟩ := g1.1
          cases epp
          obtain ⟨u, hu⟩ := ho.there
          have := (g2.2 o p rfl rfl).2
          rw [hu] at this
          cases this
        · exact z rfl
      · rcases set_at h2 with ⟨z, _⟩ | ⟨_, z2⟩
        · exact n1 z
        · exact (g2.2 o p rfl rfl).1 ⟨k, o', z1, z2⟩
  obtain ⟨p4, a4, x4, _⟩ := setK_ok p3 a3 x3 g2'
  exact p4 _ _ a4 x4
theorem s_unp {is : List Nat} {gt : TG} (kt : KT C X.K) (hs : PS X st (tAsg (rd C Wx fa) gt)) (tg : TgOk X.K C gt is false) (ma : Mn W fa) : PS X st (rdS C Wx (wUnp is fa)) := hs.imp fun K σ H ⟨S, e, hH, a, q⟩ => by
  subst hH
  refine rd.then ma a q (fun _ _ z => Pst.x z) fun w e1 v S1 p a1 x1 g1 => ?_
  obtain ⟨S2, eH, a2, x2, u, ar⟩ := g1.frz a1 x1
  obtain ⟨d, r, p⟩ := sat_iff.mp p
  rw [← eH]
  exact tg S2 e1 σ v d _ _ kt a2 (ar.toD r) p fun e' σ' k a3 x3 _ _ _ _ => k σ' S2 a3 (x2.trans x3)
theorem s_setIx {o ix : Expr} {sp : Pos} (hv : PE X o (tVar i)) (ma : Mn W fa) (mi : Mn W fb) (ha : PE X a (rd C Wx fa)) (hi : PE X ix (rd C Wx fb)) (hs : swapsWithSole [.Subscript o ix sp] a pos.line X.env = pure false) (hw : swappedStores [.Subscript o ix sp] a X.env = pure none)
    (hpl : ∀ v, assign (.Subscript o ix sp) X.env v = (do let ov ← holding [v] (eval o X.env); let iv ← holding [v, ov] (eval ix X.env); standAt sp; holding [v, ov, iv] (setItem ov iv v); release [v, ov, iv] [])) (h1 : (assignEach [.Subscript o ix sp] X.env).map (·.2) = [assign (.Subscript o ix sp) X.env]) :
    PS X (.Assign [.Subscript o ix sp] a pos) (rdS C Wx (wSetIx i fb fa)) := (ps_asg ha (pg_sub hv hi set_list hpl) hs hw h1).imp fun K σ H ⟨S, e, hH, a, q⟩ => by
  subst hH
  refine rd.then ma a q (fun _ _ z => Pst.x z) fun w e1 v S1 p a1 x1 g1 => ?_
  obtain ⟨S2, eH, a2, x2, u, ar⟩ := g1.frz a1 x1
  obtain ⟨d, r, p⟩ := sat_iff.mp p
  rw [← eH]
  obtain ⟨w0, g0, p⟩ := sat_iff.mp p
  obtain ⟨vv, hvv, _⟩ := a2.re.at_ i _ (get_iff.mp g0)
  refine ⟨vv, hvv, rd.then mi a2 p (fun _ _ z => (Pst.x z).back x2) fun wi e2 vi S3 p3 a3 x3 g3 => ?_⟩
  obtain ⟨k, rk, p3⟩ := sat_iff.mp p3
  unfold setIxK at p3
  split at p3
  · rename_i xs k g4
    obtain ⟨j, hj, p3⟩ := sat_iff.mp p3
    cases (g3.res a3 rk).int
    obtain ⟨p0, vs0, hp0, hl0, hr0, hz0⟩ := own_lst a3 g4
    rw [hvv] at hp0
    cases hp0
    refine ⟨p0, vs0, k, j, rfl, rfl, hl0, by rw [hr0.length]; exact hj, ?_⟩
    have rv := (ar.toD r).mono x3.up
    obtain ⟨a4, x4⟩ := own_upd (u := .lst (vs0.set j v)) (o' := .lst (xs.set j d)) a3 g4 hvv fun S' up h => ⟨_, h, (hr0.mono up).set (rv.mono up) j, by rw [List.length_set]; exact hz0⟩
    have z := p3 σ _ a4 ((x2.trans x3).trans x4)
    exact z
  · exact p3.elim
theorem s_expr (ha : PE X a (rd C Wx fa)) (ma : Mn W fa) (hs : swapsWith a none pos.line X.env = pure false) : PS X (.Expr a pos) (rdS C Wx (wExpr fa)) := (ps_expr ha hs).imp fun K σ H ⟨S, e, hH, a, q⟩ => by
  subst hH
  exact rd.then ma a q (fun _ _ z => Pst.x z) fun w e1 v S1 p a1 x1 g1 => p σ S1 a1 x1
theorem s_ite (hc : PT X c (rdT C Wx t)) (mt : Mn Bool t) (ha : PSs X body (rdS C Wx f)) (mf : Ms f) (hb : PSs X els (rdS C Wx g)) (mg : Ms g) : PS X (.If c body els pos) (rdS C Wx (wIte t f g)) := (ps_if hc ha hb).imp fun K σ H ⟨S, e, hH, a, q⟩ => by
  subst hH
  refine rdT.then mt a q (fun _ _ z => Pst.x z) fun k e1 S1 p a1 x1 => ?_
  cases k with
  | true => exact rdS.last mf a1 x1 p
  | false => exact rdS.last mg a1 x1 p
theorem s_whl (hp : PassesOwn (model X.prog X.w) X.A X.env X.xe) (hc : PT X c (rdT C Wx t)) (mt : Mn Bool t) (hb : PSs X body (rdS C Wx f)) (mf : Ms f) : PS X (.While c body [] pos) (rdS C Wx (wWhl t f)) := (ps_while hp hc hb).imp fun K σ H ⟨S, e, hH, a, q⟩ => by
  subst hH
  obtain ⟨I, ⟨m0, hm0⟩, turn⟩ := q
  refine ⟨fun m σ1 H1 => ∃ S1 e1, S1.H = H1 ∧ At C S1 e1 σ1 ∧ Ext e σ S e1 σ1 S1 ∧ I m e1, ⟨m0, S, e, rfl, a, .refl _ _ _, hm0⟩, ?_⟩
  rintro m σ1 H1 ⟨S1, e1, rfl, a1, x1, hI⟩
  refine rdT.then mt a1 (turn m e1 hI) (fun _ _ z cls d S' a' x' r => z cls d _ S' a' (x1.trans x') r) fun k e2 S2 p a2 x2 => ?_
  cases k with
  | false => exact p σ1 S2 a2 (x1.trans x2)
  | true =>
    refine ⟨fun σ3 H3 => ∃ S3 e3, S3.H = H3 ∧ At C S3 e3 σ3 ∧ Ext e σ S e3 σ3 S3 ∧ ∃ m', m' < m ∧ I m' e3, fun σ3 H3 ⟨S3, e3, h3, a3, x3, m', hm, hI'⟩ => ⟨m', hm, S3, e3, h3, a3, x3, hI'⟩, ?_⟩
    refine ⟨S2, e2, rfl, a2, mf e2 { Pst C Wx e σ S K with nx := fun e2 => ∃ m', m' < m ∧ I m' e2, ct := fun e2 => ∃ m', m' < m ∧ I m' e2, bk := (Pst C Wx e σ S K).nx } _ ?_ p⟩
    have x12 := x1.trans x2
    exact ⟨fun e3 h σ3 S3 a3 x3 => ⟨S3, e3, rfl, a3, x12.trans x3, h⟩, fun d h v e3 σ3 S3 a3 x3 r => h v e3 σ3 S3 a3 (x12.trans x3) r, fun e3 h σ3 S3 a3 x3 => h σ3 S3 a3 (x12.trans x3), fun e3 h σ3 S3 a3 x3 => ⟨S3, e3, rfl, a3, x12.trans x3, h⟩, fun y e3 h cls d σ3 S3 a3 x3 r => h cls d σ3 S3 a3 (x12.trans x3) r⟩
theorem forL_at {ff : D → Env → (Env → Prop) → Prop} {items : List D} {e : Env} {Q : Env → Prop} {i : Nat} {d : D} (h : forL ff (items.drop i) e Q) (hd : items[i]? = some d) : ff d e fun e' => forL ff (items.drop (i + 1)) e' Q := by
  have ed : items.drop i = d :: items.drop (i + 1) := by
    obtain ⟨hl, hg⟩ := List.getElem?_eq_some_iff.mp hd
    rw [← hg]
    exact List.drop_eq_getElem_cons hl
  rw [ed] at h
  exact h
theorem s_for {tgE iter : Expr} {fi : TrI} {gt : TG} {tg : List Nat} {one : Bool} (kt : KT C X.K) (hp : PassesOwn (model X.prog X.w) X.A X.env X.xe) (hc : X.calm = true) (hi : PI X tgE iter (rdI C Wx fi)) (mi : Mn (List D) fi) (hg : PG X tgE gt) (tgok : TgOk X.K C gt tg one) (hb : PSs X body (rdS C Wx f)) (mf : Ms f)
    (hst : PS X (.For tgE iter body [] pos) (tFor (rdI C Wx fi) gt (rdS C Wx f))) : PS X (.For tgE iter body [] pos) (rdS C Wx (wFor tg one fi f)) := hst.imp fun K σ H ⟨S, e, hH, a, q⟩ => by
  subst hH
  refine ⟨S, e, rfl, a, mi _ _ _ _ _ (fun items e1 p => ?_) (fun _ _ z => Pst.x z) q⟩
  intro J S1 a1 x1 wk
  let Pv : Nat → L2.St → Hp → Prop := fun i σ4 H => ∃ S3 e3, S3.H = H ∧ At C S3 e3 σ4 ∧ Ext e σ S e3 σ4 S3 ∧ Up S1 S3 ∧ forL (forF tg one f (Pst C Wx e σ S K)) (items.drop i) e3 (Pst C Wx e σ S K).nx
  refine ⟨fun i m σ4 H => m = items.length - i ∧ i ≤ items.length ∧ Pv i σ4 H, ⟨items.length, by simp, Nat.zero_le _, S1, e1, rfl, a1, x1, .refl _, p⟩, ?_⟩
  rintro i m σ3 H ⟨rfl, hi, S3, e3, rfl, a3, x3, u3, hf3⟩
  by_cases hlt : i < items.length
  · refine .inr ⟨wk.go S3 u3 i hlt, Pv (i + 1), fun σ' H' p' => ⟨items.length - (i + 1), by omega, rfl, hlt, p'⟩, fun x H' y => ?_⟩
    obtain ⟨S4, d, rfl, hd, rd4, st4⟩ := wk.yld S3 u3 a3.wf i x H' hlt y
    obtain ⟨a4, x4⟩ := st4 e3 σ3 a3
    have hb4 := forL_at hf3 hd
    refine tgok S4 e3 σ3 x d _ _ kt a4 rd4 hb4 fun e5 σ5 k5 a5 x5 _ _ _ _ => ?_
    have x35 := (x3.trans x4).trans x5
    have u35 := (u3.trans x4.up).trans x5.up
    refine ⟨S4, e5, rfl, a5, mf e5 { Pst C Wx e σ S K with nx := fun e' => forL (forF tg one f (Pst C Wx e σ S K)) (items.drop (i + 1)) e' (Pst C Wx e σ S K).nx, ct := fun e' => forL (forF tg one f (Pst C Wx e σ S K)) (items.drop (i + 1)) e' (Pst C Wx e σ S K).nx, bk := (Pst C Wx e σ S K).nx } _ ?_ k5⟩
    exact ⟨fun e6 h σ6 S6 a6 x6 => ⟨S6, e6, rfl, a6, x35.trans x6, u35.trans x6.up, h⟩, fun d h v e6 σ6 S6 a6 x6 r => h v e6 σ6 S6 a6 (x35.trans x6) r, fun e6 h σ6 S6 a6 x6 => h σ6 S6 a6 (x35.trans x6), fun e6 h σ6 S6 a6 x6 => ⟨S6, e6, rfl, a6, x35.trans x6, u35.trans x6.up, h⟩, fun y e6 h cls d σ6 S6 a6 x6 r => h cls d σ6 S6 a6 (x35.trans x6) r⟩
  · have ei : i = items.length := by omega
    subst ei
    rw [List.drop_length] at hf3
    exact .inl ⟨wk.stop S3 u3, hf3 σ3 S3 a3 x3⟩
theorem s_ret (ha : PE X a (rd C Wx fa)) (ma : Mn W fa) : PS X (.Return (some a) pos) (rdS C Wx (wRet fa)) := (ps_ret ha).imp fun K σ H ⟨S, e, hH, a, q⟩ => by
  subst hH
  refine rd.then ma a q (fun _ _ z => Pst.x z) fun w e1 v S1 p a1 x1 g1 => ?_
  obtain ⟨S2, eH, a2, x2, u, ar⟩ := g1.frz a1 x1
  obtain ⟨d, r, p⟩ := sat_iff.mp p
  rw [← eH]
  exact p v e1 σ S2 a2 x2 (ar.toD r)
theorem s_retN : PS X (.Return none pos) (rdS C Wx fun _ P => P.rt .non) := ps_retN.imp fun K σ H ⟨S, e, hH, a, q⟩ => by
  subst hH
  exact q .non e σ S a (.refl _ _ _) .non
theorem s_pass : PS X (.Pass pos) (rdS C Wx fun e P => P.nx e) := ps_pass.imp fun K σ H ⟨S, e, hH, a, q⟩ => by
  subst hH
  exact q σ S a (.refl _ _ _)
theorem s_brk : PS X (.Break pos) (rdS C Wx fun e P => P.bk e) := ps_break.imp fun K σ H ⟨S, e, hH, a, q⟩ => by
  subst hH
  exact q σ S a (.refl _ _ _)
theorem s_cont : PS X (.Continue pos) (rdS C Wx fun e P => P.ct e) := ps_continue.imp fun K σ H ⟨S, e, hH, a, q⟩ => by
  subst hH
  exact q σ S a (.refl _ _ _)
end
end VL

set_option Elab.async false
set_option linter.all false
set_option maxRecDepth 100000
set_option maxHeartbeats 4000000
namespace VL
open PySem L2
/-! ### from the text to the mini language -/
structure Cc where
  fns : List Str
  cons : List Str
def slot (N : List Str) (x : Str) : Option Nat := match N with
  | [] => none
  | y :: N => if y = x then some 0 else (slot N x).map (· + 1)
theorem slot_get : ∀ {N : List Str} {x : Str} {i : Nat}, slot N x = some i → N[i]? = some x
  | [], x, i, h => by cases h
  | y :: N, x, i, h => by
    unfold slot at h
    split at h
    · rename_i e; cases h; rw [e]; rfl
    · cases e : slot N x with
      | none => rw [e] at h; cases h
      | some j =>
        rw [e] at h
        cases h
        show N[j]? = some x
        exact slot_get e
def visB (sc : Scope) (x : Str) : Bool := match sc.names.lookup x with
  | some .local => true
  | some .cell => true
  | some .free => true
  | _ => false
def locB (sc : Scope) (x : Str) : Bool := match sc.names.lookup x with
  | some .local => true
  | some .cell => true
  | _ => false
def lclB (sc : Scope) (x : Str) : Bool := match sc.names.lookup x with
  | some .local => true
  | _ => false
def glB (sc : Scope) (x : Str) : Bool := match sc.names.lookup x with
  | some .globalImplicit => true
  | _ => false
def dbgB (x : Str) : Bool := !(x == ("__debug__" : Str)) && !(x == ("__classdict__" : Str))
def isStar : Expr → Bool
  | .Starred .. => true
  | _ => false
def isSetE : Expr → Bool
  | .Set .. => true
  | _ => false
def isSlice : Expr → Bool
  | .Slice .. => true
  | _ => false
def isComp : Expr → Bool
  | .ListComp .. => true
  | .SetComp .. => true
  | .DictComp .. => true
  | _ => false
def isTupE : Expr → Bool
  | .Tuple .. => true
  | _ => false
def bOf (x : Str) : Option B := if x = "int" then some .int else if x = "abs" then some .abs else if x = "len" then some .len else if x = "tuple" then some .tuple else if x = "list" then some .list else if x = "sorted" then some .sorted
  else if x = "sum" then some .sum else if x = "all" then some .all else if x = "any" then some .any else if x = "isinstance" then some .isinstance else none
def tyOf (x : Str) : Option String := if x = "int" then some "int" else if x = "bool" then some "bool" else if x = "str" then some "str" else if x = "list" then some "list" else if x = "tuple" then some "tuple" else if x = "dict" then some "dict" else none
/-- the names that must be the built-ins' own -/
def bNames : List Str := ["int", "abs", "len", "tuple", "list", "sorted", "sum", "all", "any", "isinstance", "bool", "str", "dict", "range", "zip", "enumerate", "reversed", "repr", "set", "max", "min", "super"]
/-- the slots that a node shares -/
def vars : E → List Nat
  | .var i => [i]
  | .bin _ a b => vars a ++ vars b
  | .neg a => vars a
  | .inv a => vars a
  | .cmp _ a b => vars a ++ vars b
  | .chain _ _ a b c => vars a ++ vars b ++ vars c
  | .and_ a b => vars a ++ vars b
  | .or_ a b => vars a ++ vars b
  | .not_ a => vars a
  | .ife t a b => vars t ++ vars a ++ vars b
  | .cons a b => vars a ++ vars b
  | .star a b => vars a ++ vars b
  | .tup a => vars a
  | .lst a => vars a
  | .idx a b => vars a ++ vars b
  | .cut a b c => vars a ++ vars b ++ vars c
  | .rev a => vars a
  | .call _ a => vars a
  | .bcall _ a => vars a
  | .app _ a => vars a
  | .meth a _ b => vars a ++ vars b
  | .bmeth a _ b => vars a ++ vars b
  | .fld a _ => vars a
  | .lc _ _ _ _ a b c => vars a ++ vars b ++ vars c
  | .lc2 _ _ _ _ _ a _ _ b c => vars a ++ vars b ++ vars c
  | .rng1 a => vars a
  | .rng2 a b => vars a ++ vars b
  | .rng3 a b c => vars a ++ vars b ++ vars c
  | .enum a => vars a
  | .zip a b => vars a ++ vars b
  | .revd a => vars a
  | _ => []
/-- the names of a target, with their slots -/
def tgNames (N : List Str) : List Expr → Option (List (Str × Nat))
  | [] => some []
  | .Name x _ :: es => match slot N x, tgNames N es with
    | some i, some r => some ((x, i) :: r)
    | _, _ => none
  | _ :: _ => none
def tgOf (N : List Str) : Expr → Option (Bool × List (Str × Nat))
  | .Name x _ => (slot N x).map fun i => (true, [(x, i)])
  | .Tuple es _ _ => (tgNames N es).map fun r => (false, r)
  | _ => none
def m1 {α β : Type} (a : Option α) (f : α → β) : Option β := match a with
  | some x => some (f x)
  | none => none
def m2 {α β γ : Type} (a : Option α) (b : Option β) (f : α → β → γ) : Option γ := match a, b with
  | some x, some y => some (f x y)
  | _, _ => none
def m3 {α β γ δ : Type} (a : Option α) (b : Option β) (c : Option γ) (f : α → β → γ → δ) : Option δ := match a, b, c with
  | some x, some y, some z => some (f x y z)
  | _, _, _ => none
def gd {α : Type} (b : Bool) (o : Option α) : Option α := match b with
  | true => o
  | false => none
def okOp : Operator → Bool
  | .Add => true | .Sub => true | .Mult => true | .FloorDiv => true | .Mod => true | .Pow => true
  | _ => false
/-- a node that gives a value -/
def isV : E → Bool
  | .nil => false | .cons _ _ => false | .star _ _ => false | .yes => false | .rng1 _ => false | .rng2 _ _ => false | .rng3 _ _ _ => false | .enum _ => false | .zip _ _ => false | .revd _ => false
  | .inv _ => false | .rev _ => false | .meth _ _ _ => false | .bmeth _ _ _ => false | .fld _ _ => false | .lc2 _ _ _ _ _ _ _ _ _ _ => false
  | _ => true
def onlyV (o : Option E) : Option E := match o with
  | some m => gd (isV m) (some m)
  | none => none
mutual
def cE (G : Cc) : Nat → List Str → Scope → Bool → Expr → Option E
  | 0, _, _, _, _ => none
  | n + 1, N, sc, b, e => match e with
    | .Constant (.int i) _ _ => some (.int i)
    | .Constant (.str s) _ _ => some (.str s)
    | .Constant (.bool k) _ _ => some (.bl k)
    | .Constant .none _ _ => some .non
    | .Name x _ => gd (dbgB x) (if visB sc x then m1 (slot N x) fun i => if b then .bor i else .var i else gd (glB sc x) (if x ∈ G.cons then some (.glob x) else gd (decide (x ∈ bNames)) (m1 (tyOf x) .bty)))
    | .BinOp l op r _ => gd (okOp op) (m2 (cE G n N sc true l) (cE G n N sc true r) (.bin op))
    | .UnaryOp .USub a _ => m1 (cE G n N sc true a) .neg
    | .UnaryOp .Not a _ => m1 (cE G n N sc true a) .not_
    | .BoolOp op vs _ => cB G n N sc b op vs
    | .IfExp t x y _ => m3 (cE G n N sc true t) (cE G n N sc b x) (cE G n N sc b y) .ife
    | .Compare l [op] [r] _ => gd (!isSetE r) (m2 (cE G n N sc true l) (cE G n N sc true r) (.cmp op))
    | .Compare l [op, op'] [r, s] _ => gd (!isSetE r && !isSetE s) (m3 (cE G n N sc true l) (cE G n N sc true r) (cE G n N sc true s) (.chain op op'))
    | .Tuple es _ _ => m1 (cA G n N sc false es) .tup
    | .List es _ => m1 (cA G n N sc false es) .lst
    | .Subscript a (.Slice lo hi none _) _ => m3 (cE G n N sc true a) (cO G n N sc lo) (cO G n N sc hi) .cut
    | .Subscript a i _ => gd (!isSlice i) (m2 (cE G n N sc true a) (cE G n N sc true i) .idx)
    | .Call (.Attribute (.Name x _) m ap) es [] cp => gd (dbgB x && visB sc x && ap.endLine == cp.line) (if m = "append" then (match es with
        | [a] => gd (!isStar a) (m2 (slot N x) (cE G n N sc false a) .app)
        | _ => none) else if m = "pop" then (match es with
        | [] => m1 (slot N x) .pop
        | _ => none) else none)
    | .Call (.Name f _) es [] _ => gd (dbgB f && glB sc f) (if f ∈ G.fns then m1 (cA G n N sc false es) (.call f) else gd (decide (f ∈ bNames) && !es.isEmpty) (m2 (bOf f) (cA G n N sc true es) .bcall))
    | .ListComp elt [⟨tg, it, ifs, 0⟩] scope _ => match tgOf N tg with
      | some (one, own) => gd (blkC N sc scope own && own.all (fun p => locB scope p.1) && !isSetE it) (m3 (cI G n N sc tg it) (cTs G n N (relS scope sc) ifs) (cE G n N (relS scope sc) false elt)
          fun i t e => .lc (vars t ++ vars e) (own.map (·.2)) (own.map (·.2)) one i t e)
      | none => none
    | _ => none
def cB (G : Cc) : Nat → List Str → Scope → Bool → BoolOp → List Expr → Option E
  | 0, _, _, _, _, _ => none
  | n + 1, N, sc, b, op, es => match es with
    | [a] => cE G n N sc b a
    | a :: es => m2 (cE G n N sc b a) (cB G n N sc b op es) fun x y => match op with
      | .And => .and_ x y
      | .Or => .or_ x y
    | _ => none
def cA (G : Cc) : Nat → List Str → Scope → Bool → List Expr → Option E
  | 0, _, _, _, _ => none
  | n + 1, N, sc, b, es => match es with
    | [] => some .nil
    | a :: es => gd (!isStar a) (m2 (cE G n N sc b a) (cA G n N sc b es) .cons)
def cO (G : Cc) : Nat → List Str → Scope → Option Expr → Option E
  | 0, _, _, _ => none
  | n + 1, N, sc, o => match o with
    | none => some .nopart
    | some a => match cE G n N sc true a with
      | some .nopart => none
      | x => x
def cTs (G : Cc) : Nat → List Str → Scope → List Expr → Option E
  | 0, _, _, _ => none
  | n + 1, N, sc, o => match o with
    | [] => some .yes
    | [a] => cE G n N sc true a
    | _ => none
def cI (G : Cc) : Nat → List Str → Scope → Expr → Expr → Option E
  | 0, _, _, _, _ => none
  | n + 1, N, sc, tg, e => match e with
    | .Call (.Name f _) es [] _ => if f = "range" then (match es with
        | [a] => gd (glB sc f && !isStar a) (m1 (cE G n N sc true a) .rng1)
        | [a, b] => gd (glB sc f && !isStar a && !isStar b) (m2 (cE G n N sc true a) (cE G n N sc true b) .rng2)
        | _ => none)
      else if f = "zip" then (match es with
        | [a, b] => gd (glB sc f && !isStar a && !isStar b && isTupE tg) (m2 (cE G n N sc false a) (cE G n N sc false b) .zip)
        | _ => none)
      else onlyV (cE G n N sc false e)
    | e => onlyV (cE G n N sc false e)
end
def sqS : List S → S
  | [] => .skip
  | [a] => a
  | a :: as => .seq a (sqS as)
/-- two names, two values: stored by one swap -/
def parB (sc : Scope) (ts vs : List Expr) : Bool := match ts, vs with
  | [.Name x px, .Name y py], [a, b] => lclB sc x && lclB sc y && px.line == py.line && decide (x ≠ y) && !isStar a && !isStar b && !([a, b].all (foldedForSure 8)) && !([a, b].all (constantsAlone 8))
  | _, _ => false
def cellB (sc : Scope) (x : Str) : Bool := match sc.names.lookup x with
  | some .cell => true
  | _ => false
/-- .. not swapped: all values are written constants, or a name is a cell -/
def noSwapB (sc : Scope) (ts vs : List Expr) : Bool := match ts, vs with
  | [.Name x _, .Name y _], [a, b] => !isStar a && !isStar b && (cellB sc x || cellB sc y || ([a, b].all (foldedForSure 8) && decide (x ≠ y)))
  | _, _ => false
/-- name = [..]: by one way, or plainly -/
def lcSetB (sc : Scope) (x : Str) (px : Pos) : Expr → Bool
  | .ListComp _ _ scope pos => cellB sc x || (lclB sc x && px.line == pos.line && !(scope.names.any fun (n, k) => n == x && (k == .local || k == .cell)))
  | e => !isComp e
mutual
def cS (G : Cc) : Nat → List Str → Scope → Stmt → Option S
  | 0, _, _, _ => none
  | n + 1, N, sc, st => match st with
    | .Assign [.Name x px] e _ => gd (locB sc x && lcSetB sc x px e) (m2 (slot N x) (cE G n N sc false e) .set)
    | .Assign [.Tuple ts _ _] (.Tuple vs k p) _ => if parB sc ts vs then (match ts, vs with
        | [.Name x _, .Name y _], [a, b] => (match slot N x, slot N y with
          | some i, some j => gd (decide (i ≠ j)) (m2 (cE G n N sc false a) (cE G n N sc false b) (.par i j))
          | _, _ => none)
        | _, _ => none)
      else gd (noSwapB sc ts vs) (m2 (match tgNames N ts with
        | some r => gd (r.all fun p => locB sc p.1) (some (r.map (·.2)))
        | none => none) (cE G n N sc false (.Tuple vs k p)) .unp)
    | .Assign [.Tuple ts _ _] e _ => gd (!isComp e && !isTupE e) (m2 (match tgNames N ts with
        | some r => gd (r.all fun p => locB sc p.1) (some (r.map (·.2)))
        | none => none) (cE G n N sc false e) .unp)
    | .Assign [.Subscript (.Name x _) ix _] e _ => gd (dbgB x && visB sc x && !isSlice ix && !isComp e) (m3 (slot N x) (cE G n N sc true ix) (cE G n N sc false e) .setIx)
    | .Expr e _ => gd (!isComp e) (m1 (cE G n N sc false e) .expr)
    | .If t a b _ => m3 (cE G n N sc true t) (cSs G n N sc a) (cSs G n N sc b) .ite
    | .While t b [] _ => m2 (cE G n N sc true t) (cSs G n N sc b) .whl
    | .For tg it b [] _ => match tgOf N tg with
      | some (one, own) => gd ((own.all fun p => locB sc p.1) && !isSetE it) (m2 (cI G n N sc tg it) (cSs G n N sc b) fun i s => .forr (own.map (·.2)) one i s)
      | none => none
    | .Return (some e) _ => m1 (cE G n N sc false e) .ret
    | .Return none _ => some .retN
    | .Pass _ => some .skip
    | .Break _ => some .brk
    | .Continue _ => some .cont
    | _ => none
def cSs (G : Cc) : Nat → List Str → Scope → List Stmt → Option S
  | 0, _, _, _ => none
  | n + 1, N, sc, sts => match sts with
    | [] => some .skip
    | st :: rest => m2 (cS G n N sc st) (cSs G n N sc rest) .seq
end
end VL

set_option Elab.async false
set_option linter.all false
set_option maxRecDepth 100000
set_option maxHeartbeats 4000000
namespace VL
open PySem L2
theorem m1_some {α β : Type} {a : Option α} {f : α → β} {y : β} (h : m1 a f = some y) : ∃ x, a = some x ∧ f x = y := by
  cases a with
  | none => cases h
  | some x => cases h; exact ⟨x, rfl, rfl⟩
theorem m2_some {α β γ : Type} {a : Option α} {b : Option β} {f : α → β → γ} {y : γ} (h : m2 a b f = some y) : ∃ x z, a = some x ∧ b = some z ∧ f x z = y := by
  cases a with
  | none => cases h
  | some x =>
    cases b with
    | none => cases h
    | some z => cases h; exact ⟨x, z, rfl, rfl, rfl⟩
theorem m3_some {α β γ δ : Type} {a : Option α} {b : Option β} {c : Option γ} {f : α → β → γ → δ} {y : δ} (h : m3 a b c f = some y) : ∃ x z w, a = some x ∧ b = some z ∧ c = some w ∧ f x z w = y := by
  cases a with
  | none => cases h
  | some x =>
    cases b with
    | none => cases h
    | some z =>
      cases c with
      | none => cases h
      | some w => cases h; exact ⟨x, z, w, rfl, rfl, rfl, rfl⟩
theorem gd_some {α : Type} {b : Bool} {o : Option α} {y : α} (h : gd b o = some y) : b = true ∧ o = some y := by
  cases b with
  | true => exact ⟨rfl, h⟩
  | false => cases h
theorem vis_of {sc : Scope} {x : Str} (h : visB sc x = true) : Vis sc x := by
  unfold visB at h
  split at h
  · exact .inl (by assumption)
  · exact .inr (.inl (by assumption))
  · exact .inr (.inr (by assumption))
  · cases h
theorem loc_of {sc : Scope} {x : Str} (h : locB sc x = true) : Loc sc x := by
  unfold locB at h
  split at h
  · exact .inl (by assumption)
  · exact .inr (by assumption)
  · cases h
theorem lcl_of {sc : Scope} {x : Str} (h : lclB sc x = true) : sc.names.lookup x = some .local := by
  unfold lclB at h
  split at h
  · assumption
  · cases h
theorem gl_of {sc : Scope} {x : Str} (h : glB sc x = true) : sc.names.lookup x = some .globalImplicit := by
  unfold glB at h
  split at h
  · assumption
  · cases h
theorem dbg_of {x : Str} (h : dbgB x = true) : (x == ("__debug__" : Str)) = false ∧ (x == ("__classdict__" : Str)) = false := by
  unfold dbgB at h
  rw [Bool.and_eq_true, Bool.not_eq_true', Bool.not_eq_true'] at h
  exact h
theorem star_each {a : Expr} {es : List Expr} {env : PySem.Env} (h : isStar a = false) : starEach (a :: es) env = (false, eval a env) :: starEach es env := by
  cases a <;> first | rfl | cases h
theorem set_marks {op : CmpOp} {b : Expr} (h : isSetE b = false) : behindInMarks op b = false := by
  cases b <;> first | rfl | cases h
theorem slice_plain {b : Expr} (h : isSlice b = false) : PlainIx b := by
  intro o i
  cases b <;> first | rfl | cases h
theorem comp_swaps {e : Expr} {t : Option Expr} {l : Nat} {env : PySem.Env} (h : isComp e = false) : swapsWith e t l env = pure false := by
  cases e <;> first | rfl | cases h

/-- where a piece of code stands -/
structure Kx (G : Cc) (C : Cn) (T : Tab) (N : List Str) (X : Cx) : Prop where
  N_ : X.N = N
  calm : X.calm = true
  nd : N.Nodup
  units : X.A.units + 64 < cLine
  gd : X.A.guards = some []
  kt : KT C X.K
  isi : IsiK X.K C T
  fn : ∀ x ∈ G.fns, ∃ sp f fd ps k, T.fn x = some sp ∧ FnV X.prog X.w X.K X.mg X.base C k f fd ps sp ∧ Room k X.A ∧ X.mg x = some (.ref f) ∧ PySem.W.keepIn X.K (.ref f) = true ∧ Binds X.K fd ps []
  con : ∀ x ∈ G.cons, ∃ v u, X.mg x = some u ∧ RelV v u ∧ ∀ d, T.con x = some d → ∀ S, Rep C S v d
  blt : ∀ x ∈ bNames, X.mg x = none
structure Kw (G : Cc) (C : Cn) (T : Tab) (Wx : WX) (N : List Str) (sc : Scope) (X : Cx) : Prop extends Kx G C T N X where
  sc_ : X.env.scope = sc
  tk : Takes X Wx
theorem Kx.blk {G : Cc} {C : Cn} {T : Tab} {N : List Str} {X : Cx} (k : Kx G C T N X) (s : Shared) (H : Hp) (scope : Scope) (cenv : PySem.Env) (fp : List Addr) : Kx G C T N (X.blk s H scope cenv fp) :=
  ⟨k.N_, k.calm, k.nd, k.units, k.gd, k.kt, k.isi, k.fn, k.con, k.blt⟩
theorem Kw.blk {G : Cc} {C : Cn} {T : Tab} {Wx : WX} {N : List Str} {sc : Scope} {X : Cx} (k : Kw G C T Wx N sc X) (s : Shared) (H : Hp) (scope : Scope) (cl : List (Str × Addr)) (Ca : Addr) (fp : List Addr) : Kw G C T WF0 N (relS scope sc) (X.blk s H scope (compEnvC scope cl Ca X.env) fp) where
  toKx := k.toKx.blk s H scope _ fp
  sc_ := by rw [← k.sc_]; rfl
  tk := takes0
theorem ty_mem {x : Str} {n : String} (h : tyOf x = some n) : n ∈ tyNames ∧ x = Str.ofString n ∧ bootBuiltins x = some (.type n) := by
  unfold tyOf at h
  split at h
  · rename_i e; cases h; subst e; exact ⟨by decide, rfl, by decide +kernel⟩
  split at h
  · rename_i e; cases h; subst e; exact ⟨by decide, rfl, by decide +kernel⟩
  split at h
  · rename_i e; cases h; subst e; exact ⟨by decide, rfl, by decide +kernel⟩
  split at h
  · rename_i e; cases h; subst e; exact ⟨by decide, rfl, by decide +kernel⟩
  split at h
  · rename_i e; cases h; subst e; exact ⟨by decide, rfl, by decide +kernel⟩
  split at h
  · rename_i e; cases h; subst e; exact ⟨by decide, rfl, by decide +kernel⟩
  · cases h
theorem b_of {x : Str} {b : B} (h : bOf x = some b) : x = b.name ∧ b.ok = true := by
  unfold bOf at h
  iterate 10
    split at h
    · rename_i e; cases h; exact ⟨e, rfl⟩
  cases h
theorem name_ne {x : Str} (h : x ∈ bNames) : x ≠ "__name__" := by
  intro e
  subst e
  exact absurd h (by decide +kernel)
end VL

set_option Elab.async false
set_option linter.all false
set_option maxRecDepth 100000
set_option maxHeartbeats 4000000
namespace VL
open PySem L2
section
variable {G : Cc} {C : Cn} {T : Tab} {Wx : WX} {N : List Str} {sc : Scope} {X : Cx}
def OkE (C : Cn) (T : Tab) (Wx : WX) (X : Cx) (e : Expr) (m : E) : Prop := PE X e (rd C Wx (wp T m).e) ∧ PT X e (rdT C Wx (wp T m).t)
def SE (G : Cc) (C : Cn) (T : Tab) (n : Nat) : Prop := ∀ Wx N sc X b e m, cE G n N sc b e = some m → Kw G C T Wx N sc X → OkE C T Wx X e m
def SB (G : Cc) (C : Cn) (T : Tab) (n : Nat) : Prop := ∀ Wx N sc X b op es m pos, cB G n N sc b op es = some m → Kw G C T Wx N sc X → PE X (.BoolOp op es pos) (rd C Wx (wp T m).e) ∧ PW X (.BoolOp op es pos) (rdT C Wx (wp T m).t)
def SA (G : Cc) (C : Cn) (T : Tab) (n : Nat) : Prop := ∀ Wx N sc X b es m, cA G n N sc b es = some m → Kw G C T Wx N sc X → PA X es (rdA C Wx (wp T m).a) ∧ (∀ pos, (backTo pos (starEach es X.env)).any (·.1) = false) ∧ ∀ a r, es = a :: r → isStar a = false ∧ ∀ pos, (backTo pos (starEach r X.env)).any (·.1) = false
def SO (G : Cc) (C : Cn) (T : Tab) (n : Nat) : Prop := ∀ Wx N sc X o m, cO G n N sc o = some m → Kw G C T Wx N sc X → PO X o (rdO C Wx (pick (noP m) (wp T m).e))
def ST (G : Cc) (C : Cn) (T : Tab) (n : Nat) : Prop := ∀ Wx N sc X es m, cTs G n N sc es = some m → Kw G C T Wx N sc X → PTs X es (rdT C Wx (wp T m).t)
def SI (G : Cc) (C : Cn) (T : Tab) (n : Nat) : Prop := ∀ Wx N sc X tg e m, cI G n N sc tg e = some m → Kw G C T Wx N sc X → PI X tg e (rdI C Wx (wp T m).i)
structure Snd (G : Cc) (C : Cn) (T : Tab) (n : Nat) : Prop where
  e : SE G C T n
  b : SB G C T n
  a : SA G C T n
  o : SO G C T n
  t : ST G C T n
  i : SI G C T n
theorem mkE_ok {e : Expr} {f : TrE} (kt : KT C X.K) (h : PE X e (rd C Wx f)) (m : Mn W f) (he : ∀ whole, isTrue e X.env whole = (do let v ← whole; standAt e.pos; holding [v] (truthy v))) : PE X e (rd C Wx (mkE f).e) ∧ PT X e (rdT C Wx (mkE f).t) := ⟨h, r_tru kt m he h⟩
theorem k_var (k : Kw G C T Wx N sc X) {x : Str} {i : Nat} {pos : Pos} (hd : dbgB x = true) (hv : visB sc x = true) (hs : slot N x = some i) : PE X (.Name x pos) (tVar i) := by
  have hN : X.N[i]? = some x := by rw [k.N_]; exact slot_get hs
  exact pe_var hN (by rw [k.sc_]; exact vis_of hv) (dbg_of hd).1 (dbg_of hd).2
theorem k_gl (k : Kw G C T Wx N sc X) {x : Str} (h : glB sc x = true) : Gl X x := by
  show X.env.scope.names.lookup x = _
  rw [k.sc_]; exact gl_of h
/-! ### targets -/
def StOk (X : Cx) (x : Str) : Prop := Loc X.env.scope x ∧ (X.fn x = true ∨ X.env.scope.names.lookup x = some .local)
def gOf (K : PySem.W.Frag) : Bool → List Nat → TG
  | true, [i] => gName i
  | _, is => gTup K is.length (gNames is)
theorem tgNames_ok (hN : X.N = N) (nd : N.Nodup) : ∀ {es : List Expr} {r : List (Str × Nat)}, tgNames N es = some r → (∀ p ∈ r, StOk X p.1) → PGs X es (gNames (r.map (·.2))) ∧ (assignEach es X.env).length = r.length ∧ (assignEach es X.env).findIdx? (·.1) = none
  | [], r, h, _ => by cases h; exact ⟨pgs_nil, rfl, rfl⟩
  | e :: es, r, h, al => by
    cases e with
    | Name x pos =>
      unfold tgNames at h
      split at h
      · rename_i i r' h1 h2
        cases h
        obtain ⟨q1, q2, q3⟩ := tgNames_ok hN nd h2 fun p hp => al p (List.mem_cons_of_mem _ hp)
        obtain ⟨s1, s2⟩ := al (x, i) List.mem_cons_self
        refine ⟨pgs_cons (pg_name (by rw [hN]; exact nd) (by rw [hN]; exact slot_get h1) s1 s2) q1 rfl, ?_, ?_⟩
        · show (assignEach es X.env).length + 1 = _
          rw [q2]; rfl
        · show List.findIdx? (·.1) ((false, assign (.Name x pos) X.env) :: assignEach es X.env) = none
          rw [List.findIdx?_cons, q3]; rfl
      · cases h
    | _ => cases h
theorem tg_pg (hN : X.N = N) (nd : N.Nodup) (hc : X.calm = true) {tg : Expr} {one : Bool} {own : List (Str × Nat)} (h : tgOf N tg = some (one, own)) (al : ∀ p ∈ own, StOk X p.1) : PG X tg (gOf X.K one (own.map (·.2))) := by
  cases tg with
  | Name x pos =>
    have h : (slot N x).map (fun i => (true, [(x, i)])) = some (one, own) := h
    cases e : slot N x with
    | none => rw [e] at h; cases h
    | some i =>
      rw [e] at h
      cases h
      obtain ⟨s1, s2⟩ := al (x, i) List.mem_cons_self
      exact pg_name (by rw [hN]; exact nd) (by rw [hN]; exact slot_get e) s1 s2
  | Tuple es kk pos =>
    have h : (tgNames N es).map (fun r => (false, r)) = some (one, own) := h
    cases e : tgNames N es with
    | none => rw [e] at h; cases h
    | some r =>
      rw [e] at h
      cases h
      obtain ⟨q1, q2, q3⟩ := tgNames_ok hN nd e al
      have : gOf X.K false (own.map (·.2)) = gTup X.K (own.map (·.2)).length (gNames (own.map (·.2))) := by
        cases own.map (·.2) <;> rfl
      rw [this]
      exact pg_tup hc q1 (by rw [q2, List.length_map]) q3
  | _ => cases h
theorem tg_vok {tg : Expr} {one : Bool} {own : List (Str × Nat)} {K : PySem.W.Frag} (h : tgOf N tg = some (one, own)) : TgOk K C (gOf K one (own.map (·.2))) (own.map (·.2)) one := by
  cases tg with
  | Name x pos =>
    have h : (slot N x).map (fun i => (true, [(x, i)])) = some (one, own) := h
    cases e : slot N x with
    | none => rw [e] at h; cases h
    | some i => rw [e] at h; cases h; exact tg_name
  | Tuple es kk pos =>
    have h : (tgNames N es).map (fun r => (false, r)) = some (one, own) := h
    cases e : tgNames N es with
    | none => rw [e] at h; cases h
    | some r =>
      rw [e] at h
      cases h
      have : gOf K false (own.map (·.2)) = gTup K (own.map (·.2)).length (gNames (own.map (·.2))) := by
        cases own.map (·.2) <;> rfl
      rw [this]
      exact tg_tup
  | _ => cases h
theorem st_blk {scope : Scope} {s : Shared} {H : Hp} {cl : List (Str × Addr)} {Ca : Addr} {fp : List Addr} {x : Str} (h : locB scope x = true) : StOk (X.blk s H scope (compEnvC scope cl Ca X.env) fp) x := by
  rcases loc_of h with e | e
  · have z := lookup_relS_keep (sc := X.env.scope) (by decide) e
    exact ⟨.inl z, .inr z⟩
  · have z := lookup_relS_keep (sc := X.env.scope) (by decide) e
    refine ⟨.inr z, .inl ?_⟩
    show (scope.names.lookup x == some .cell) = true
    rw [e]; rfl
theorem fold_set {e : Expr} {env : PySem.Env} (h : isSetE e = false) : ∀ x, foldedSetIterable e env x = pure x := by
  intro x
  cases e <;> first | rfl | cases h
/-- a comprehension -/
theorem lc_ok {n : Nat} (ih : Snd G C T n) {elt tg it : Expr} {ifs : List Expr} {scope : Scope} {one : Bool} {own : List (Str × Nat)} {mi mt me : E} (k : Kw G C T Wx N sc X) (ht : tgOf N tg = some (one, own)) (hb : blkC N sc scope own = true) (hl : own.all (fun p => locB scope p.1) = true) (hs : isSetE it = false)
    (hi : cI G n N sc tg it = some mi) (hts : cTs G n N (relS scope sc) ifs = some mt) (he : cE G n N (relS scope sc) false elt = some me) :
    PI X tg it (rdI C Wx (wp T mi).i) ∧ BlkOk X.N X.env.scope scope own ∧ (∀ (s : Shared) (H : Hp) (Ca : Addr) (cl : List (Str × Addr)) (fp : List Addr), PG (X.blk s H scope (compEnvC scope cl Ca X.env) fp) tg (gOf X.K one (own.map (·.2)))) ∧
    (∀ (s : Shared) (H : Hp) (Ca : Addr) (cl : List (Str × Addr)) (fp : List Addr), PTs (X.blk s H scope (compEnvC scope cl Ca X.env) fp) ifs (rdT C WF0 (wp T mt).t)) ∧ (∀ (s : Shared) (H : Hp) (Ca : Addr) (cl : List (Str × Addr)) (fp : List Addr), PE (X.blk s H scope (compEnvC scope cl Ca X.env) fp) elt (rd C WF0 (wp T me).e)) ∧
    ∀ σ H Q, rd C Wx (wLc (vars mt ++ vars me) (own.map (·.2)) (own.map (·.2)) one (wp T mi).i (wp T mt).t (wp T me).e) σ H Q → tLc (rdI C Wx (wp T mi).i) (gOf X.K one (own.map (·.2))) (rdT C WF0 (wp T mt).t) (rd C WF0 (wp T me).e) (own.map (·.2)) σ H Q := by
  refine ⟨ih.i _ _ _ _ _ _ _ hi k, by rw [k.N_, k.sc_]; exact blkOk_by hb, fun s H Ca cl fp => ?_, fun s H Ca cl fp => ?_, fun s H Ca cl fp => ?_, fun σ H Q ⟨S, e, hH, a, q⟩ => ?_⟩
  · exact tg_pg (X := X.blk s H scope (compEnvC scope cl Ca X.env) fp) k.N_ k.nd k.calm ht fun p hp => st_blk (List.all_eq_true.mp hl p hp)
  · exact ih.t _ _ _ _ _ _ hts (k.blk s H scope cl Ca fp)
  · exact (ih.e _ _ _ _ _ _ _ he (k.blk s H scope cl Ca fp)).1
  · subst hH
    exact lc_run k.kt (tg_vok ht) (fun j hj => hj) (mo T mi).i (mo T mt).t (mo T me).e a q
theorem cE_succ {n : Nat} (ih : Snd G C T n) : SE G C T (n + 1) := by
  intro Wx N sc X b e m h k
  have kt := k.kt
  unfold cE at h
  split at h
  · cases h; exact mkE_ok kt (r_c pe_int fun S => .int _) (.c _) fun _ => rfl
  · cases h; exact mkE_ok kt (r_c pe_str fun S => .str _) (.c _) fun _ => rfl
  · cases h; exact mkE_ok kt (r_c pe_bl fun S => .bl _) (.c _) fun _ => rfl
  · cases h; exact mkE_ok kt (r_c pe_non fun S => .non) (.c _) fun _ => rfl
  · rename_i x pos
    obtain ⟨hd, h⟩ := gd_some h
    split at h
    · rename_i hv
      obtain ⟨i, hs, rfl⟩ := m1_some h
      have hp := k_var k (pos := pos) hd hv hs
      cases b with
      | true => exact mkE_ok kt (r_bor hp) (mo T (.bor i)).e fun _ => rfl
      | false => exact mkE_ok kt (r_var hp) (mo T (.var i)).e fun _ => rfl
    · obtain ⟨hg, h⟩ := gd_some h
      split at h
      · rename_i hc
        cases h
        obtain ⟨v, u, hm, hr, hv⟩ := k.con x hc
        exact mkE_ok kt (r_glob fun d hd' => ⟨pe_glob (k_gl k hg) hm hr (dbg_of hd).1, hv d hd'⟩) (mo T (.glob x)).e fun _ => rfl
      · obtain ⟨hb, h⟩ := gd_some h
        obtain ⟨n', hn, rfl⟩ := m1_some h
        obtain ⟨_, _, hboot⟩ := ty_mem hn
        have hbn := of_decide_eq_true hb
        exact mkE_ok kt (r_c (pe_bltn (v := .ty n') (k_gl k hg) (k.blt x hbn) hboot rfl (name_ne hbn) (dbg_of hd).1) fun S => .ty _) (.c _) fun _ => rfl
  · rename_i l op r pos
    obtain ⟨_, h⟩ := gd_some h
    obtain ⟨ml, mr, hl, hr, rfl⟩ := m2_some h
    obtain ⟨rr, ho, hv⟩ := bin_ok (X := X) (C := C) op
    exact mkE_ok kt (r_bin ho hv (mo T ml).e (mo T mr).e (ih.e _ _ _ _ _ _ _ hl k).1 (ih.e _ _ _ _ _ _ _ hr k).1) (mo T (.bin op ml mr)).e fun _ => rfl
  · rename_i a pos
    obtain ⟨ma, ha, rfl⟩ := m1_some h
    exact mkE_ok kt (r_neg (mo T ma).e (ih.e _ _ _ _ _ _ _ ha k).1) (mo T (.neg ma)).e fun _ => rfl
  · rename_i a pos
    obtain ⟨ma, ha, rfl⟩ := m1_some h
    obtain ⟨h1, h2⟩ := ih.e _ _ _ _ _ _ _ ha k
    exact ⟨r_not kt (mo T ma).e h1, rt_not (mo T ma).t h2⟩
  · rename_i op vs pos
    obtain ⟨h1, h2⟩ := ih.b _ _ _ _ _ _ _ _ pos h k
    exact ⟨h1, h2.pt⟩
  · rename_i t x y pos
    obtain ⟨mt, mx, my, ht, hx, hy, rfl⟩ := m3_some h
    obtain ⟨_, t2⟩ := ih.e _ _ _ _ _ _ _ ht k
    obtain ⟨x1, x2⟩ := ih.e _ _ _ _ _ _ _ hx k
    obtain ⟨y1, y2⟩ := ih.e _ _ _ _ _ _ _ hy k
    exact ⟨r_ife (mo T mt).t (mo T mx).e (mo T my).e t2 x1 y1, rt_ife (mo T mt).t (mo T mx).t (mo T my).t t2 x2 y2⟩
  · rename_i l op r pos
    obtain ⟨hs, h⟩ := gd_some h
    obtain ⟨ml, mr, hl, hr, rfl⟩ := m2_some h
    have hmk := set_marks (op := op) (by simpa using hs)
    exact ⟨r_cmp kt k.units hmk (mo T ml).e (mo T mr).e (ih.e _ _ _ _ _ _ _ hl k).1 (ih.e _ _ _ _ _ _ _ hr k).1, r_cmpT kt k.units hmk (mo T ml).e (mo T mr).e (ih.e _ _ _ _ _ _ _ hl k).1 (ih.e _ _ _ _ _ _ _ hr k).1⟩
  · rename_i l op op' r s pos
    obtain ⟨hs, h⟩ := gd_some h
    obtain ⟨ml, mr, ms, hl, hr, hs2, rfl⟩ := m3_some h
    rw [Bool.and_eq_true] at hs
    have hmk : lastMarks [op, op'] [r, s] = false := by
      show behindInMarks op' s = false
      exact set_marks (by simpa using hs.2)
    exact ⟨r_chain kt k.units hmk (mo T ml).e (mo T mr).e (mo T ms).e (ih.e _ _ _ _ _ _ _ hl k).1 (ih.e _ _ _ _ _ _ _ hr k).1 (ih.e _ _ _ _ _ _ _ hs2 k).1, r_chainT kt k.units hmk (mo T ml).e (mo T mr).e (mo T ms).e (ih.e _ _ _ _ _ _ _ hl k).1 (ih.e _ _ _ _ _ _ _ hr k).1 (ih.e _ _ _ _ _ _ _ hs2 k).1⟩
  · rename_i es kk pos
    obtain ⟨ma, ha, rfl⟩ := m1_some h
    exact mkE_ok kt (r_tup (mo T ma).a (ih.a _ _ _ _ _ _ _ ha k).1) (mo T (.tup ma)).e fun _ => rfl
  · rename_i es pos
    obtain ⟨ma, ha, rfl⟩ := m1_some h
    exact mkE_ok kt (r_lst (mo T ma).a (ih.a _ _ _ _ _ _ _ ha k).1) (mo T (.lst ma)).e fun _ => rfl
  · rename_i a lo hi p2 pos
    obtain ⟨ma, ml, mh, ha, hl, hh, rfl⟩ := m3_some h
    exact mkE_ok kt (r_cut (mo T ma).e (mn_pick (mo T ml).e) (mn_pick (mo T mh).e) (ih.e _ _ _ _ _ _ _ ha k).1 (ih.o _ _ _ _ _ _ hl k) (ih.o _ _ _ _ _ _ hh k)) (mo T (.cut ma ml mh)).e fun _ => rfl
  · rename_i a i pos _
    obtain ⟨hs, h⟩ := gd_some h
    obtain ⟨ma, mi, ha, hi, rfl⟩ := m2_some h
    exact mkE_ok kt (r_idx kt (mo T ma).e (mo T mi).e (slice_plain (by simpa using hs)) (ih.e _ _ _ _ _ _ _ ha k).1 (ih.e _ _ _ _ _ _ _ hi k).1) (mo T (.idx ma mi)).e fun _ => rfl
  · rename_i x xp mm ap es cp
    obtain ⟨hg, h1⟩ := gd_some h
    clear h
    have h := h1
    clear h1
    rw [Bool.and_eq_true, Bool.and_eq_true] at hg
    obtain ⟨⟨hd, hv⟩, hl⟩ := hg
    by_cases em : mm = "append"
    · rw [if_pos em] at h
      subst em
      cases es with
      | nil => cases h
      | cons a es =>
        cases es with
        | cons b es => cases h
        | nil =>
          obtain ⟨hst, h⟩ := gd_some h
          obtain ⟨i, ma, hs, ha, rfl⟩ := m2_some h
          exact mkE_ok kt (r_app (k_var k hd hv hs) (star_each (es := []) (by simpa using hst)) hl (mo T ma).e (ih.e _ _ _ _ _ _ _ ha k).1) (mo T (.app i ma)).e fun _ => rfl
    · rw [if_neg em] at h
      by_cases em2 : mm = "pop"
      · rw [if_pos em2] at h
        subst em2
        cases es with
        | nil =>
          obtain ⟨i, hs, rfl⟩ := m1_some h
          exact mkE_ok kt (r_pop (k_var k hd hv hs) hl) (mo T (.pop i)).e fun _ => rfl
        | cons a es => cases h
      · rw [if_neg em2] at h
        cases h
  · rename_i f fp es pos
    obtain ⟨hg, h1⟩ := gd_some h
    clear h
    have h := h1
    clear h1
    rw [Bool.and_eq_true] at hg
    obtain ⟨hd, hg⟩ := hg
    split at h
    · rename_i hf
      obtain ⟨ma, ha, rfl⟩ := m1_some h
      obtain ⟨p1, p2, p3⟩ := ih.a _ _ _ _ _ _ _ ha k
      obtain ⟨sp, fa, fd, ps, kk, hT, F, hr, hm, hk, hb⟩ := k.fn f hf
      cases es with
      | nil =>
        have em : ma = .nil := by
          cases n with
          | zero => cases ha
          | succ n => unfold cA at ha; cases ha; rfl
        subst em
        exact mkE_ok kt (r_call0 hT F hr k.gd (k_gl k hg) hm hk hb k.tk (dbg_of hd).1) (mo T (.call f .nil)).e fun _ => rfl
      | cons a r =>
        obtain ⟨s1, s2⟩ := p3 a r rfl
        exact mkE_ok kt (r_call hT F hr k.gd (k_gl k hg) hm hk hb k.tk (mo T ma).a p1 (dbg_of hd).1 (star_each s1) (s2 _)) (mo T (.call f ma)).e fun _ => rfl
    · obtain ⟨hb, h⟩ := gd_some h
      rw [Bool.and_eq_true] at hb
      obtain ⟨bb, ma, hbo, ha, rfl⟩ := m2_some h
      obtain ⟨p1, p2, p3⟩ := ih.a _ _ _ _ _ _ _ ha k
      obtain ⟨e1, e2⟩ := b_of hbo
      have hbn := of_decide_eq_true hb.1
      cases es with
      | nil => exact absurd hb.2 (by decide)
      | cons a r =>
        obtain ⟨s1, s2⟩ := p3 a r rfl
        subst e1
        exact mkE_ok kt (r_bcall k.calm kt k.isi bb e2 (k_gl k hg) (k.blt _ hbn) (mo T ma).a p1 (star_each s1) (s2 _)) (mo T (.bcall bb ma)).e fun _ => rfl
  · rename_i elt tg it ifs scope pos
    split at h
    · rename_i one own ht
      obtain ⟨hg, h1⟩ := gd_some h
      rw [Bool.and_eq_true, Bool.and_eq_true] at hg
      obtain ⟨⟨hb, hl⟩, hs⟩ := hg
      obtain ⟨mi, mt, me, hi, hts, he, rfl⟩ := m3_some h1
      have hs' : isSetE it = false := by simpa using hs
      obtain ⟨p1, p2, p3, p4, p5, p6⟩ := lc_ok ih k ht hb hl hs' hi hts he
      exact mkE_ok kt ((pe_lc k.calm (by rw [k.N_]; exact k.nd) p1 p2 p3 p4 p5 (fold_set hs')).imp p6) (mo T (.lc _ _ _ one mi mt me)).e fun _ => rfl
    · cases h
  · cases h
theorem cB_succ {n : Nat} (ih : Snd G C T n) : SB G C T (n + 1) := by
  intro Wx N sc X b op es m pos h k
  unfold cB at h
  split at h
  · obtain ⟨h1, h2⟩ := ih.e _ _ _ _ _ _ _ h k
    refine ⟨pe_one h1, ?_⟩
    cases op with
    | And => exact pw_and1 h2
    | Or => exact pw_or1 h2
  · rename_i a es hne
    obtain ⟨ma, mr, ha, hr, rfl⟩ := m2_some h
    obtain ⟨h1, h2⟩ := ih.e _ _ _ _ _ _ _ ha k
    obtain ⟨h3, h4⟩ := ih.b _ _ _ _ _ _ _ _ pos hr k
    cases es with
    | nil => exact absurd rfl hne
    | cons a' r =>
      cases op with
      | And => exact ⟨r_and k.kt (mo T ma).e (mo T mr).e h1 h3, rw_and (mo T ma).t (mo T mr).t h2 h4⟩
      | Or => exact ⟨r_or k.kt (mo T ma).e (mo T mr).e h1 h3, rw_or (mo T ma).t (mo T mr).t h2 h4⟩
  · cases h
theorem cA_succ {n : Nat} (ih : Snd G C T n) : SA G C T (n + 1) := by
  intro Wx N sc X b es m h k
  unfold cA at h
  split at h
  · cases h
    exact ⟨ra_nil, fun pos => rfl, fun a r z => nomatch z⟩
  · rename_i a es
    obtain ⟨hs, h⟩ := gd_some h
    obtain ⟨ma, mr, ha, hr, rfl⟩ := m2_some h
    have hst : isStar a = false := by simpa using hs
    obtain ⟨h1, h2⟩ := ih.e _ _ _ _ _ _ _ ha k
    obtain ⟨h3, h4, h5⟩ := ih.a _ _ _ _ _ _ _ hr k
    refine ⟨ra_cons (star_each hst) (mo T ma).e (mo T mr).a h1 h3, fun pos => ?_, fun a' r z => ?_⟩
    · rw [star_each hst]
      exact h4 pos
    · cases z
      exact ⟨hst, h4⟩
theorem cO_succ {n : Nat} (ih : Snd G C T n) : SO G C T (n + 1) := by
  intro Wx N sc X o m h k
  unfold cO at h
  split at h
  · cases h
    exact ro_none
  · rename_i a
    split at h
    · cases h
    · rename_i hne
      have hn : noP m = false := by
        cases m <;> first | rfl | exact absurd h (by rw [h] at hne; exact fun _ => hne rfl)
      rw [hn]
      exact ro_some (mo T m).e (ih.e _ _ _ _ _ _ _ h k).1
theorem cTs_succ {n : Nat} (ih : Snd G C T n) : ST G C T (n + 1) := by
  intro Wx N sc X es m h k
  unfold cTs at h
  split at h
  · cases h
    refine ⟨fun pins s σ H Q I ⟨S, e, hH, a, q⟩ => pts_nil.run pins s σ H Q I ?_⟩
    subst hH
    exact q S a (.refl _ _ _)
  · exact pts_one (ih.e _ _ _ _ _ _ _ h k).2
  · cases h
theorem onlyV_some {o : Option E} {m : E} (h : onlyV o = some m) : o = some m ∧ (wp T m).i = iOf (wp T m).e := by
  cases o with
  | none => cases h
  | some m' =>
    obtain ⟨h1, h2⟩ := gd_some (show gd (isV m') (some m') = some m from h)
    cases h2
    refine ⟨rfl, ?_⟩
    cases m <;> first | rfl | cases h1
theorem cI_succ {n : Nat} (ih : Snd G C T n) : SI G C T (n + 1) := by
  intro Wx N sc X tg e m h k
  have kt := k.kt
  have dfl : ∀ {e : Expr} {m : E}, onlyV (cE G n N sc false e) = some m → PI X tg e (rdI C Wx (wp T m).i) := fun {e m} he => by
    obtain ⟨h1, h2⟩ := onlyV_some (T := T) he
    rw [h2]
    exact ri_any kt (mo T m).e (ih.e _ _ _ _ _ _ _ h1 k).1
  unfold cI at h
  split at h
  · rename_i f fp es pos
    by_cases ef : f = "range"
    · rw [if_pos ef] at h
      subst ef
      have hm := k.blt "range" (by decide +kernel)
      cases es with
      | nil => cases h
      | cons a es =>
        cases es with
        | nil =>
          obtain ⟨hg, h1⟩ := gd_some h
          rw [Bool.and_eq_true] at hg
          obtain ⟨ma, ha, rfl⟩ := m1_some h1
          exact ri_rng1 (k_gl k hg.1) hm (star_each (es := []) (by simpa using hg.2)) (mo T ma).e (ih.e _ _ _ _ _ _ _ ha k).1
        | cons b es =>
          cases es with
          | nil =>
            obtain ⟨hg, h1⟩ := gd_some h
            rw [Bool.and_eq_true, Bool.and_eq_true] at hg
            obtain ⟨ma, mb, ha, hb, rfl⟩ := m2_some h1
            have s2 : starEach [b] X.env = [(false, eval b X.env)] := star_each (es := []) (by simpa using hg.2)
            have s1 : starEach [a, b] X.env = [(false, eval a X.env), (false, eval b X.env)] := by
              rw [star_each (by simpa using hg.1.2), s2]
            exact ri_rng2 (k_gl k hg.1.1) hm s1 s2 (mo T ma).e (mo T mb).e (ih.e _ _ _ _ _ _ _ ha k).1 (ih.e _ _ _ _ _ _ _ hb k).1
          | cons c es => cases h
    · rw [if_neg ef] at h
      by_cases ez : f = "zip"
      · rw [if_pos ez] at h
        subst ez
        have hm := k.blt "zip" (by decide +kernel)
        cases es with
        | nil => cases h
        | cons a es =>
          cases es with
          | nil => cases h
          | cons b es =>
            cases es with
            | cons c es => cases h
            | nil =>
              obtain ⟨hg, h1⟩ := gd_some h
              rw [Bool.and_eq_true, Bool.and_eq_true, Bool.and_eq_true] at hg
              obtain ⟨ma, mb, ha, hb, rfl⟩ := m2_some h1
              have s2 : starEach [b] X.env = [(false, eval b X.env)] := star_each (es := []) (by simpa using hg.1.2)
              have ht := hg.2
              cases tg <;> first | cases ht | skip
              exact ri_zip (k_gl k hg.1.1.1) hm (star_each (by simpa using hg.1.1.2)) s2 (mo T ma).e (mo T mb).e (ih.e _ _ _ _ _ _ _ ha k).1 (ih.e _ _ _ _ _ _ _ hb k).1
      · rw [if_neg ez] at h
        exact dfl h
  · exact dfl h
theorem snd (n : Nat) : Snd G C T n := by
  induction n with
  | zero =>
    refine ⟨fun _ _ _ _ _ _ _ h _ => ?_, fun _ _ _ _ _ _ _ _ _ h _ => ?_, fun _ _ _ _ _ _ _ h _ => ?_, fun _ _ _ _ _ _ h _ => ?_, fun _ _ _ _ _ _ h _ => ?_, fun _ _ _ _ _ _ _ h _ => ?_⟩
    · unfold cE at h; cases h
    · unfold cB at h; cases h
    · unfold cA at h; cases h
    · unfold cO at h; cases h
    · unfold cTs at h; cases h
    · unfold cI at h; cases h
  | succ n ih => exact ⟨cE_succ ih, cB_succ ih, cA_succ ih, cO_succ ih, cTs_succ ih, cI_succ ih⟩
end
end VL

set_option Elab.async false
set_option linter.all false
set_option maxRecDepth 100000
set_option maxHeartbeats 4000000
namespace VL
open PySem L2
section
variable {G : Cc} {C : Cn} {T : Tab} {Wx : WX} {N : List Str} {sc : Scope} {X : Cx}
structure Ks (G : Cc) (C : Cn) (T : Tab) (Wx : WX) (N : List Str) (sc : Scope) (X : Cx) : Prop extends Kw G C T Wx N sc X where
  knd : sc.kind = .function
  own : PassesOwn (model X.prog X.w) X.A X.env X.xe
  fnt : ∀ x, X.fn x = true
theorem Ks.st (k : Ks G C T Wx N sc X) {x : Str} (h : locB sc x = true) : StOk X x := ⟨by rw [k.sc_]; exact loc_of h, .inl (k.fnt x)⟩
theorem block_fn {env : PySem.Env} (h : env.scope.kind = .function) : env.blockKind = .function := by
  unfold PySem.Env.blockKind
  rw [h]; rfl
theorem no_star {a b : Expr} (ha : isStar a = false) (hb : isStar b = false) {f : Expr → Bool} (hf : ∀ z, isStar z = false → f z = false) : ¬ ([a, b].any f) = true := by
  rw [List.any_eq_true]
  rintro ⟨z, hz, q⟩
  have hz' : isStar z = false := by
    rcases List.mem_cons.mp hz with e | hz
    · rw [e]; exact ha
    · rw [List.mem_singleton.mp hz]; exact hb
  rw [hf z hz'] at q
  cases q
theorem swapped_some {env : PySem.Env} {x y : Str} {px py pt pt2 : Pos} {kt k2 : Nat} {a b : Expr} (hk : env.scope.kind = .function) (hx : env.kindOf x = some .local) (hy : env.kindOf y = some .local) (hl : px.line = py.line) (hxy : x ≠ y) (ha : isStar a = false) (hb : isStar b = false)
    (h1 : ([a, b].all (foldedForSure 8)) = false) (h2 : ([a, b].all (constantsAlone 8)) = false) : swappedStores [.Tuple [.Name x px, .Name y py] kt pt] (.Tuple [a, b] k2 pt2) env = pure (some [x, y]) := by
  have bk := block_fn hk
  unfold swappedStores
  refine (if_neg (by rw [bk]; exact Bool.false_ne_true)).trans ?_
  refine (if_neg (no_star ha hb fun z hz => by cases z <;> first | rfl | cases hz)).trans ?_
  have e1 : (y == x) = false := beq_eq_false_iff_ne.mpr fun z => hxy z.symm
  have ed : ([x, y].eraseDups).length = 2 := by
    rw [List.eraseDups_cons, List.filter_cons, e1]
    rfl
  simp only [List.filterMap_cons, List.filterMap_nil, List.head?_cons, Option.map_some, Option.getD_some, Expr.pos, hx, hy, ← hl, beq_self_eq_true, Bool.and_self, if_true, ed, List.length_cons, List.length_nil, bne_self_eq_false, Bool.or_self, Bool.false_eq_true, if_false, h1, h2]
theorem swapped_none {env : PySem.Env} {x y : Str} {px py pt pt2 : Pos} {kt k2 : Nat} {a b : Expr} (hk : env.scope.kind = .function) (ha : isStar a = false) (hb : isStar b = false)
    (h : env.kindOf x ≠ some .local ∨ env.kindOf y ≠ some .local ∨ (([a, b].all (foldedForSure 8)) = true)) : swappedStores [.Tuple [.Name x px, .Name y py] kt pt] (.Tuple [a, b] k2 pt2) env = pure none := by
  have bk := block_fn hk
  unfold swappedStores
  refine (if_neg (by rw [bk]; exact Bool.false_ne_true)).trans ?_
  refine (if_neg (no_star ha hb fun z hz => by cases z <;> first | rfl | cases hz)).trans ?_
  rcases h with h | h | h
  · refine if_pos ?_
    have : (env.kindOf x == some NameKind.local) = false := beq_eq_false_iff_ne.mpr h
    simp only [List.filterMap_cons, List.filterMap_nil, this, Bool.false_and, Bool.false_eq_true, if_false]
    cases h2 : (env.kindOf y == some NameKind.local && py.line == (Option.map (fun x => x.pos.line) [Expr.Name x px, Expr.Name y py].head?).getD 0) <;> simp
  · refine if_pos ?_
    have : (env.kindOf y == some NameKind.local) = false := beq_eq_false_iff_ne.mpr h
    simp only [List.filterMap_cons, List.filterMap_nil, this, Bool.false_and, Bool.false_eq_true, if_false]
    cases h2 : (env.kindOf x == some NameKind.local && px.line == (Option.map (fun x => x.pos.line) [Expr.Name x px, Expr.Name y py].head?).getD 0) <;> simp
  · simp only [h, if_true, ite_self]
theorem tup_stores {ts : List Expr} {kt : Nat} {pt : Pos} {e : Expr} {env : PySem.Env} (h : isTupE e = false) : swappedStores [.Tuple ts kt pt] e env = pure none := by
  cases e <;> first | rfl | cases h
theorem sub_stores {o i : Expr} {p : Pos} {e : Expr} {env : PySem.Env} : swappedStores [.Subscript o i p] e env = pure none := by
  cases e <;> rfl
theorem sole {t e : Expr} {l : Nat} {env : PySem.Env} (h : isComp e = false) : swapsWithSole [t] e l env = pure false := comp_swaps (t := some t) h
def SS (G : Cc) (C : Cn) (T : Tab) (n : Nat) : Prop := ∀ Wx N sc X st m, cS G n N sc st = some m → Ks G C T Wx N sc X → PS X st (rdS C Wx (wpS T m))
def SSs (G : Cc) (C : Cn) (T : Tab) (n : Nat) : Prop := ∀ Wx N sc X sts m, cSs G n N sc sts = some m → Ks G C T Wx N sc X → PSs X sts (rdS C Wx (wpS T m))
theorem cE_lc {n : Nat} {b : Bool} {elt : Expr} {gs : List Comprehension} {scope : Scope} {pos : Pos} {m : E} (h : cE G (n + 1) N sc b (.ListComp elt gs scope pos) = some m) :
    ∃ tg it ifs one own mi mt me, gs = [⟨tg, it, ifs, 0⟩] ∧ tgOf N tg = some (one, own) ∧ blkC N sc scope own = true ∧ own.all (fun p => locB scope p.1) = true ∧ isSetE it = false ∧ cI G n N sc tg it = some mi ∧ cTs G n N (relS scope sc) ifs = some mt ∧ cE G n N (relS scope sc) false elt = some me ∧
      m = .lc (vars mt ++ vars me) (own.map (·.2)) (own.map (·.2)) one mi mt me := by
  unfold cE at h
  split at h
  case h_19 =>
    rename_i h4
    cases h4
    split at h
    · rename_i one own ht
      obtain ⟨hg, h1⟩ := gd_some h
      rw [Bool.and_eq_true, Bool.and_eq_true] at hg
      obtain ⟨⟨hb, hl⟩, hs⟩ := hg
      obtain ⟨mi, mt, me, hi, hts, he, rfl⟩ := m3_some h1
      exact ⟨_, _, _, one, own, mi, mt, me, rfl, ht, hb, hl, by simpa using hs, hi, hts, he, rfl⟩
    · cases h
  case h_20 => cases h
  all_goals (rename_i h4; cases h4)
/-- name = e -/
theorem set_ok {n : Nat} (k : Ks G C T Wx N sc X) {x : Str} {px pos : Pos} {e : Expr} {i : Nat} {me : E} (hl : locB sc x = true) (hc : lcSetB sc x px e = true) (hs : slot N x = some i) (he : cE G n N sc false e = some me) : PS X (.Assign [.Name x px] e pos) (rdS C Wx (wpS T (.set i me))) := by
  have hN : X.N[i]? = some x := by rw [k.N_]; exact slot_get hs
  have nd : X.N.Nodup := by rw [k.N_]; exact k.nd
  obtain ⟨s1, s2⟩ := k.st hl
  have plain : swapsWith e (some (.Name x px)) pos.line X.env = pure false → PS X (.Assign [.Name x px] e pos) (rdS C Wx (wpS T (.set i me))) := fun hsw =>
    s_set (ps_set nd hN s1 ((snd n).e _ _ _ _ _ _ _ he k.toKw).1 hsw s2) (fun _ _ _ z => z) (mo T me).e
  by_cases hcomp : isComp e = false
  · exact plain (comp_swaps hcomp)
  · cases e <;> first | exact absurd rfl hcomp | skip
    · rename_i elt gs scope lp
      have hc : (cellB sc x || (lclB sc x && px.line == lp.line && !(scope.names.any fun (n, k) => n == x && (k == .local || k == .cell)))) = true := hc
      rcases Bool.or_eq_true_iff.mp hc with hc | hc
      · refine plain ?_
        have hk : X.env.kindOf x = some .cell := by
          show X.env.scope.names.lookup x = _
          rw [k.sc_]
          unfold cellB at hc
          split at hc
          · assumption
          · cases hc
        unfold swapsWith
        simp only [hk]
        have : (some NameKind.cell == some NameKind.local) = false := by decide
        simp only [this, Bool.and_false, Bool.false_and]
      · rw [Bool.and_eq_true, Bool.and_eq_true] at hc
        obtain ⟨⟨h1, h2⟩, h3⟩ := hc
        have hlcl : X.env.scope.names.lookup x = some .local := by rw [k.sc_]; exact lcl_of h1
        cases n with
        | zero => unfold cE at he; cases he
        | succ n =>
          obtain ⟨tg, it, ifs, one, own, mi, mt, me', rfl, ht, hb, hl', hs', hi, hts, hee, rfl⟩ := cE_lc he
          obtain ⟨p1, p2, p3, p4, p5, p6⟩ := lc_ok (snd n) k.toKw ht hb hl' hs' hi hts hee
          have hsw := sw_true (elt := elt) (gs := [⟨tg, it, ifs, 0⟩]) (scope := scope) (pos := lp) (py := px) (y := x) (l := pos.line) (env := X.env) (by rw [k.sc_]; exact k.knd) hlcl h2 (by simpa using h3)
          exact s_set (ps_setLc k.calm nd hN hlcl hsw p1 p2 p3 p4 p5 (fold_set hs')) p6 (mo T (.lc _ _ _ one mi mt me')).e
    · exact absurd hc Bool.false_ne_true
    · exact absurd hc Bool.false_ne_true
theorem tgl_ok (k : Ks G C T Wx N sc X) {ts : List Expr} {is : List Nat} {kk : Nat} {p : Pos} (h : (match tgNames N ts with | some r => VL.gd (r.all fun p => locB sc p.1) (some (r.map (·.2))) | none => none) = some is) :
    PG X (.Tuple ts kk p) (gTup X.K is.length (gNames is)) := by
  cases e : tgNames N ts with
  | none => rw [e] at h; cases h
  | some r =>
    rw [e] at h
    obtain ⟨hl, h1⟩ := gd_some h
    cases h1
    obtain ⟨q1, q2, q3⟩ := tgNames_ok (X := X) k.N_ k.nd e fun p hp => k.st (List.all_eq_true.mp hl p hp)
    exact pg_tup k.calm q1 (by rw [q2, List.length_map]) q3
theorem cS_succ {n : Nat} (ihs : SSs G C T n) : SS G C T (n + 1) := by
  intro Wx N sc X st m h k
  have ih := snd (G := G) (C := C) (T := T) n
  have kt := k.kt
  unfold cS at h
  split at h
  · rename_i x px e pos
    obtain ⟨hg, h1⟩ := gd_some h
    rw [Bool.and_eq_true] at hg
    obtain ⟨i, me, hs, he, rfl⟩ := m2_some h1
    exact set_ok k hg.1 hg.2 hs he
  · rename_i ts kt1 pt vs kk p pos
    by_cases hp : parB sc ts vs = true
    · rw [if_pos hp] at h
      clear kt
      unfold parB at hp
      split at hp
      · rename_i x px y py a b
        simp only [Bool.and_eq_true, Bool.not_eq_true'] at hp
        obtain ⟨⟨⟨⟨⟨⟨⟨h1, h2⟩, h3⟩, h4⟩, h5⟩, h6⟩, h7⟩, h8⟩ := hp
        cases ei : slot N x with
        | none => simp only [ei] at h; cases h
        | some i =>
          cases ej : slot N y with
          | none => simp only [ei, ej] at h; cases h
          | some j =>
            simp only [ei, ej] at h
            obtain ⟨hij, h9⟩ := gd_some h
            obtain ⟨ma, mb, ha, hb, rfl⟩ := m2_some h9
            have hx : X.env.scope.names.lookup x = some .local := by rw [k.sc_]; exact lcl_of h1
            have hy : X.env.scope.names.lookup y = some .local := by rw [k.sc_]; exact lcl_of h2
            exact s_par k.calm (by rw [k.N_]; exact k.nd) (by rw [k.N_]; exact slot_get ei) (by rw [k.N_]; exact slot_get ej) (of_decide_eq_true hij) hx hy (star_each h5) (star_each (es := []) h6) (mo T ma).e (mo T mb).e (ih.e _ _ _ _ _ _ _ ha k.toKw).1 (ih.e _ _ _ _ _ _ _ hb k.toKw).1
              (swapped_some (by rw [k.sc_]; exact k.knd) hx hy (by simpa using h3) (of_decide_eq_true h4) h5 h6 h7 h8)
      · cases hp
    · rw [if_neg hp] at h
      obtain ⟨hn, h1⟩ := gd_some h
      obtain ⟨is, me, htg, he, rfl⟩ := m2_some h1
      have hpg := tgl_ok (kk := kt1) (p := pt) k htg
      unfold noSwapB at hn
      split at hn
      · rename_i x px y py a b
        simp only [Bool.and_eq_true, Bool.not_eq_true', Bool.or_eq_true] at hn
        obtain ⟨⟨h5, h6⟩, h7⟩ := hn
        have cell_ne : ∀ {z : Str}, cellB sc z = true → X.env.kindOf z ≠ some .local := fun {z} hz q => by
          have q : X.env.scope.names.lookup z = some .local := q
          rw [k.sc_] at q
          unfold cellB at hz
          rw [q] at hz
          cases hz
        have hw : swappedStores [.Tuple [.Name x px, .Name y py] kt1 pt] (.Tuple [a, b] kk p) X.env = pure none := by
          refine swapped_none (by rw [k.sc_]; exact k.knd) h5 h6 ?_
          rcases h7 with (h7 | h7) | h7
          · exact .inl (cell_ne h7)
          · exact .inr (.inl (cell_ne h7))
          · exact .inr (.inr h7.1)
        exact s_unp kt (ps_asg (ih.e _ _ _ _ _ _ _ he k.toKw).1 hpg (sole rfl) hw rfl) tg_tup (mo T me).e
      · cases hn
  · rename_i ts kt1 pt e pos _
    obtain ⟨hg, h1⟩ := gd_some h
    rw [Bool.and_eq_true, Bool.not_eq_true', Bool.not_eq_true'] at hg
    obtain ⟨is, me, htg, he, rfl⟩ := m2_some h1
    exact s_unp kt (ps_asg (ih.e _ _ _ _ _ _ _ he k.toKw).1 (tgl_ok k htg) (sole hg.1) (tup_stores hg.2) rfl) tg_tup (mo T me).e
  · rename_i x xp ix sp e pos
    obtain ⟨hg, h1⟩ := gd_some h
    simp only [Bool.and_eq_true, Bool.not_eq_true'] at hg
    obtain ⟨⟨⟨hd, hv⟩, hsl⟩, hcp⟩ := hg
    obtain ⟨i, mi, me, hs, hi, he, rfl⟩ := m3_some h1
    refine s_setIx (k_var k.toKw hd hv hs) (mo T me).e (mo T mi).e (ih.e _ _ _ _ _ _ _ he k.toKw).1 (ih.e _ _ _ _ _ _ _ hi k.toKw).1 (sole hcp) sub_stores (fun v => ?_) rfl
    cases ix <;> first | rfl | cases hsl
  · rename_i e pos
    obtain ⟨hg, h1⟩ := gd_some h
    obtain ⟨me, he, rfl⟩ := m1_some h1
    exact s_expr (ih.e _ _ _ _ _ _ _ he k.toKw).1 (mo T me).e (comp_swaps (by simpa using hg))
  · rename_i t a b pos
    obtain ⟨mt, ma, mb, ht, ha, hb, rfl⟩ := m3_some h
    exact s_ite (ih.e _ _ _ _ _ _ _ ht k.toKw).2 (mo T mt).t (ihs _ _ _ _ _ _ ha k) (ms T ma) (ihs _ _ _ _ _ _ hb k) (ms T mb)
  · rename_i t b pos
    obtain ⟨mt, mb, ht, hb, rfl⟩ := m2_some h
    exact s_whl k.own (ih.e _ _ _ _ _ _ _ ht k.toKw).2 (mo T mt).t (ihs _ _ _ _ _ _ hb k) (ms T mb)
  · rename_i tg it b pos
    split at h
    · rename_i one own ht
      obtain ⟨hl, h1⟩ := gd_some h
      rw [Bool.and_eq_true, Bool.not_eq_true'] at hl
      obtain ⟨hl, hse⟩ := hl
      obtain ⟨mi, mb, hi, hb, rfl⟩ := m2_some h1
      have hpi := ih.i _ _ _ _ _ _ _ hi k.toKw
      have hpg := tg_pg (X := X) k.N_ k.nd k.calm ht fun p hp => k.st (List.all_eq_true.mp hl p hp)
      have hbb := ihs _ _ _ _ _ _ hb k
      exact s_for kt k.own k.calm hpi (mo T mi).i hpg (tg_vok ht) hbb (ms T mb) (ps_for k.own k.calm hpi hpg hbb (hs := fold_set hse))
    · cases h
  · rename_i e pos
    obtain ⟨me, he, rfl⟩ := m1_some h
    exact s_ret (ih.e _ _ _ _ _ _ _ he k.toKw).1 (mo T me).e
  · cases h; exact s_retN
  · cases h; exact s_pass
  · cases h; exact s_brk
  · cases h; exact s_cont
  · cases h
theorem cSs_succ {n : Nat} (ih : SS G C T n) (ihs : SSs G C T n) : SSs G C T (n + 1) := by
  intro Wx N sc X sts m h k
  unfold cSs at h
  split at h
  · cases h; exact s_nil
  · obtain ⟨ma, mb, ha, hb, rfl⟩ := m2_some h
    exact s_cons (ms T mb) (ih _ _ _ _ _ _ ha k) (ms T ma) (ihs _ _ _ _ _ _ hb k)
theorem sndS (n : Nat) : SS G C T n ∧ SSs G C T n := by
  induction n with
  | zero =>
    refine ⟨fun _ _ _ _ _ _ h _ => ?_, fun _ _ _ _ _ _ h _ => ?_⟩
    · unfold cS at h; cases h
    · unfold cSs at h; cases h
  | succ n ih => exact ⟨cS_succ ih.2, cSs_succ ih.1 ih.2⟩
end
end VL

set_option Elab.async false
set_option linter.all false
set_option maxRecDepth 100000
set_option maxHeartbeats 4000000
namespace VL
open PySem L2
/-! ### a def by its compiled body -/
/-- what is known of the module's names -/
structure Tk (P : Program) (w : World) (K : PySem.W.Frag) (mg : Str → Option Value) (base : Heap) (C : Cn) (T : Tab) (G : Cc) (k : Nat) : Prop where
  kt : KT C K
  isi : IsiK K C T
  fn : ∀ x ∈ G.fns, ∃ sp f fd ps, T.fn x = some sp ∧ FnV P w K mg base C k f fd ps sp ∧ mg x = some (.ref f) ∧ PySem.W.keepIn K (.ref f) = true ∧ Binds K fd ps []
  con : ∀ x ∈ G.cons, ∃ v u, mg x = some u ∧ RelV v u ∧ ∀ d, T.con x = some d → ∀ S, Rep C S v d
  blt : ∀ x ∈ bNames, mg x = none
def startE (N : List Str) (ds : List D) : Env := (ds.map fun d => some (W.val d)) ++ List.replicate (N.length - ds.length) none
theorem start_at {C : Cn} {S : G} {N : List Str} {vs : List V} {ds : List D} (wf : WF S) (rs : Reps C S vs ds) : At C S (startE N ds) (start N vs) := by
  have hl := rs.length
  have get : ∀ (i : Nat) (w : W), (startE N ds)[i]? = some (some w) → ∃ d, ds[i]? = some d ∧ w = .val d := fun i w h => by
    unfold startE at h
    by_cases hi : i < ds.length
    · rw [List.getElem?_append_left (by simpa using hi), List.getElem?_map] at h
      cases e : ds[i]? with
      | none => rw [e] at h; cases h
      | some d => rw [e] at h; cases h; exact ⟨d, rfl, rfl⟩
    · rw [List.getElem?_append_right (by simpa using hi), List.getElem?_replicate] at h
      split at h <;> cases h
  refine ⟨wf, ?_, fun i w h => ?_, fun i j o o' p _ h => ?_, fun i j h => ?_⟩
  · unfold startE L2.start
    simp [hl]
  · obtain ⟨d, hd, rfl⟩ := get i w h
    obtain ⟨v, h1, h2⟩ := rs.get hd
    refine ⟨v, ?_, h2⟩
    obtain ⟨hi, _⟩ := List.getElem?_eq_some_iff.mp h1
    unfold L2.start
    rw [List.getElem?_append_left (by simpa using hi), List.getElem?_map, h1]
    rfl
  · obtain ⟨d, _, z⟩ := get i _ h
    cases z
  · obtain ⟨d, _, z⟩ := get i _ h
    cases z
theorem start_own {N : List Str} {vs : List V} {ds : List D} {a : Addr} : ¬ Own (startE N ds) (start N vs) a := fun ⟨i, o, h, _⟩ => by
  unfold startE at h
  by_cases hi : i < ds.length
  · rw [List.getElem?_append_left (by simpa using hi), List.getElem?_map] at h
    cases e : ds[i]? with
    | none => rw [e] at h; cases h
    | some d => rw [e] at h; cases h
  · rw [List.getElem?_append_right (by simpa using hi), List.getElem?_replicate] at h
    split at h <;> cases h
theorem fstep_of {C : Cn} {S S' : G} {N : List Str} {vs : List V} {ds : List D} {e' : Env} {σ' : L2.St} (a : At C S' e' σ') (x : Ext (startE N ds) (start N vs) S e' σ' S') : FStep S S' :=
  ⟨a.wf, x.up, fun b o h1 h2 h3 _ => by
    obtain ⟨k1, k2, k3, _⟩ := x.kp b o h1 h2 h3 start_own
    exact ⟨k1, k2, k3, own_nil⟩, x.dm⟩
def bodyPost (Q : D → Prop) (E : Exc → Prop) : Post := ⟨fun _ => Q .non, Q, fun _ => False, fun _ => False, fun x _ => E x⟩
section
variable {P : Program} {w : World} {K : PySem.W.Frag} {mg : Str → Option Value} {base : Heap} {C : Cn} {T : Tab} {G : Cc} {k : Nat}
/-- a def by any reading of its body -/
theorem fnV_raw {x qual : Str} {st : Stmt} {f : Addr} {fd : FuncData} {N ps : List Str} {sp : FSpec} (F : Fun K x qual st f fd) (Sc : FnScope N ps (defScope st)) (len : ∀ ds Q E, sp ds Q E → ds.length = ps.length)
    (hbody : ∀ (code : Value) (A : Around) (outer : List PySem.Env) (s : Shared) (S : VL.G) (vs : List V) (ds : List D) (Q : VK) (E : XK), Room k (A.deeper (PyProof.Rows.envOfC qual (defScope st) s.heap.objs.size f code)) → A.guards = some [] → WF S → Reps C S vs ds →
      ap sp ds (fun d => ∀ v S', FStep S S' → Rep C S' v d → Q v S'.H) (fun x => ∀ cls dd S', FStep S S' → RepX C S' cls dd x → E cls dd S'.H) →
      ∃ t, PSs (cxOf (L2.CX P w) P w K mg base N qual (defScope st) f code A outer s S.H E) (defBody st) t ∧ t { nx := fun _ H' => Q .non H', rt := Q } (start N vs) S.H) : FnV P w K mg base C (k + 1) f fd ps sp := by
  obtain ⟨ocl, odc, kwv, dcs, pms, ann, code, ctx, slt, rfl, found, hcode⟩ := F.ex
  refine ⟨len, fun A outer s args us vs ds S Q E room guard e0 bd rv wf rs hap => ?_⟩
  have held : ∀ b ob, base.get? b = some ob → s.heap.get? b = some ob := fun b ob q => (e0.bs b ob q).1
  have inK : K.In s.heap := e0.mod.kin.keeps held
  have free := e0.mod.nolimit.keeps held
  have kinds : ∀ y ∈ ps.zip us, (defScope st).names.lookup y.1 = some .local ∨ ((defScope st).names.lookup y.1 = some .cell ∧ ((cellsFrom (s.heap.objs.size + 1) (defScope st).names []).lookup y.1).isSome = true) := by
    rintro ⟨nm, vl⟩ hmem
    rcases Sc.par nm (List.of_mem_zip hmem).1 with q | q
    · exact Or.inl q
    · exact Or.inr ⟨q, PySem.W.cellsFrom_some _ _ _ (Or.inl q)⟩
  refine codeAny_call_function room.depth (inK _ _ found) rfl Sc.co Sc.gen rfl (PySem.W.codeRec_of inK hcode) (bd _ _ _ _ ?_)
  refine wpAny_newFunctionEnv_cells Sc.kind kinds fun env eenv s1 xin => ?_
  subst eenv
  refine ⟨free.keeps xin.toInCall.keep, codeAny_func ?_⟩
  have lenv : vs.length = ps.length := by
    obtain ⟨_, _, hsp, _⟩ := hap
    rw [rs.length]; exact len _ _ _ hsp
  have J0 : L2.Inv (cxOf (L2.CX P w) P w K mg base N qual (defScope st) f code A outer s S.H E) [] (start N vs) S.H s1 := inv_start Sc room.hd e0 lenv rv xin
  have deep := room.deeper (PyProof.Rows.envOfC qual (defScope st) s.heap.objs.size f code)
  obtain ⟨t, body, want⟩ := hbody code A outer s S vs ds Q E deep guard wf rs hap
  refine wpAny_mono (body.run [] s1 (start N vs) S.H _ J0 want) (fun flow s' ends => ?_) fun ex s' ends => ends
  cases flow with
  | ret u =>
    obtain ⟨v, σ', H', J, rel, q⟩ := ends
    exact ⟨v, H', J.os, J.bare, J.base, J.hok, rel, q⟩
  | next =>
    obtain ⟨σ', H', J, q⟩ := ends
    exact ⟨V.non, H', J.os, J.bare, J.base, J.hok, rfl, q⟩
  | brk =>
    obtain ⟨_, _, _, q⟩ := ends
    exact q.elim
  | cont =>
    obtain ⟨_, _, _, q⟩ := ends
    exact q.elim
theorem fnV_of {x qual : Str} {st : Stmt} {f : Addr} {fd : FuncData} {N ps : List Str} {n : Nat} {m : S} {sp : FSpec} (tk : Tk P w K mg base C T G k) (F : Fun K x qual st f fd) (Sc : FnScope N ps (defScope st)) (hm : cSs G n N (defScope st) (defBody st) = some m)
    (len : ∀ ds Q E, sp ds Q E → ds.length = ps.length) (hv : ∀ ds Q E, sp ds Q E → wpS T m (startE N ds) (bodyPost Q E)) : FnV P w K mg base C (k + 1) f fd ps sp := by
  refine fnV_raw F Sc len fun code A outer s S vs ds Q E deep guard wf rs hap => ?_
  obtain ⟨Q0, E0, hsp, hQ, hE⟩ := hap
  have kx : Ks G C T (fun cls d _ H => E cls d H) N (defScope st) (cxOf (L2.CX P w) P w K mg base N qual (defScope st) f code A outer s S.H E) := by
    refine { N_ := rfl, calm := rfl, nd := Sc.nd, units := deep.units, gd := guard, kt := tk.kt, isi := tk.isi, fn := fun y hy => ?_, con := tk.con, blt := tk.blt, sc_ := rfl, tk := takes_of rfl rfl rfl rfl, knd := Sc.kind, own := passes_of rfl, fnt := fun _ => rfl }
    obtain ⟨sp', f', fd', ps', h1, h2, h3, h4, h5⟩ := tk.fn y hy
    exact ⟨sp', f', fd', ps', k, h1, h2, deep, h3, h4, h5⟩
  refine ⟨_, (sndS n).2 _ _ _ _ _ _ hm kx, S, startE N ds, rfl, start_at wf rs, ms T m _ _ _ ?_ (hv ds Q0 E0 hsp)⟩
  refine ⟨fun e' h σ' S' a' x' => ?_, fun d h v e' σ' S' a' x' r => ?_, fun _ h => h.elim, fun _ h => h.elim, fun y e' h cls d σ' S' a' x' r => ?_⟩
  · exact hQ .non h .non S' (fstep_of a' x') .non
  · exact hQ d h v S' (fstep_of a' x') r
  · exact hE y h cls d S' (fstep_of a' x') r
end
end VL

set_option Elab.async false
set_option linter.all false
set_option maxRecDepth 100000
set_option maxHeartbeats 4000000
namespace VL
open PySem L2 PyProof.Rows
def lawSp : FSpec := fun ds Q _ => ds = [.scr] ∧ Q (.bl true)
section
variable {P : Program} {w : World} {K : PySem.W.Frag} {mg mb : Str → Option Value} {k : Nat} {fa a : Addr} {fd : FuncData} {x : Str} {st : Shared} {its : List Value} {ns : List Int}
/-- the law's call from a heap in which the script alone may be tracked -/
theorem law_core (inK : K.In st.heap) (gns : st.heap.Ns mainGlobals mg) (bns : st.heap.Ns builtinsNs mb) (bbt : ∀ x : Str, x ≠ "__name__" → mb x = bootBuiltins x) (nolim : st.heap.NoLimit) (ngen : st.gens = #[])
    (obj : st.heap.get? a = some { cls := .type "list", data := .seq its.toArray }) (rm : Room k callerA) (bind1 : ∀ (s : Shared) (u : Value), BindsTo s fd ⟨[u], []⟩ [(x, u)])
    (F : ∀ base : Heap, K.In base → base.Ns mainGlobals mg → ∃ C : Cn, (∀ b ms, (∀ H : Hp, SqL K H b (ms.map V.int)) → C.ks b ms) ∧ FnV P w K mg base C k fa fd [x] lawSp)
    (S : G) (wf : WF S) (onl : Only S.H) (scrp : ∀ C : Cn, (∀ b ms, (∀ H : Hp, SqL K H b (ms.map V.int)) → C.ks b ms) → Rep C S (.ref a) .scr) (hok : HOk P w S.H st.heap) (only : ∀ b, S.H b ≠ none → b = a) (outK : S.H a ≠ none → K.lookup a = none) :
    codeAny (model P w) callerA (.call (.ref fa) ⟨[.ref a], []⟩) (fun r s' => r = .ok (.ret (.bool true)) ∧ OldK st.heap s'.heap ∧ s'.os = st.os ∧ AllBare s'.gens) st := by
  have nodict : ∀ {b : Addr} {ob : Obj} {es : Array DictEntry} {ep : Nat}, st.heap.get? b = some ob → ob.data = .dict es ep → S.H b = none := by
    intro b ob es ep got isd
    cases tr : S.H b with
    | none => rfl
    | some u =>
      obtain rfl : b = a := only b (by rw [tr]; exact Option.some_ne_none _)
      rw [obj] at got
      cases got
      cases isd
  have below : ∀ {b : Addr} {m : Str → Option Value}, st.heap.Ns b m → (hidT st.heap S.H).Ns b m := by
    rintro b m ⟨ob, es, ep, got, isd, rest⟩
    exact ⟨ob, es, ep, hidT_get got (nodict got isd), isd, rest⟩
  have inB : K.In (hidT st.heap S.H) := by
    intro b ob lk
    refine hidT_get (inK b ob lk) ?_
    cases tr : S.H b with
    | none => rfl
    | some u =>
      obtain rfl : b = a := only b (by rw [tr]; exact Option.some_ne_none _)
      rw [outK (by rw [tr]; exact Option.some_ne_none _)] at lk
      cases lk
  obtain ⟨mc, n1, n2⟩ := nolim
  have module : Mod K mg (hidT st.heap S.H) := ⟨inB, below gns, ⟨mb, below bns, bbt⟩, ⟨mc, below n1, n2⟩⟩
  have env : Env0 P w K mg (hidT st.heap S.H) callerA [] st S.H :=
    { frames := rfl, mod := module, bs := fun _ _ q => of_hidT q, bsz := Nat.le_of_eq (hidT_size _ _), funs := trivial, frf := fun _ z => (nomatch z), hok := hok, bare := .of_eq ngen }
  obtain ⟨C, hks, fv⟩ := F _ inB (below gns)
  refine codeAny_mono (fv.run callerA [] st ⟨[.ref a], []⟩ [.ref a] [.ref a] [.scr] S (fun v _ => v = .bl true) (fun _ _ _ => False) rm rfl env (bind1 st (.ref a)) (.cons rfl .nil) wf (.cons (scrp C hks) .nil) (ap_of ⟨rfl, fun v S' _ r => by cases r; rfl⟩)) fun res s' out => ?_
  cases res with
  | error ex =>
    obtain ⟨_, _, _, _, _, _, _, _, _, _, _, _, z⟩ := out
    exact z.elim
  | ok fl =>
    cases fl with
    | next => exact out.elim
    | brk => exact out.elim
    | cont => exact out.elim
    | ret u =>
      obtain ⟨v, H', sameOs, bare, un, hok', rel, isT⟩ := out
      have isT : v = .bl true := isT
      subst isT
      obtain rfl : u = Value.bool true := rel
      refine ⟨rfl, OldK.of_keep fun b ob got => ?_, sameOs, bare⟩
      cases tr : S.H b with
      | none => exact un.keep b ob got tr (fun z => nomatch z) (fun z => nomatch z)
      | some u =>
        rcases onl b with z | ⟨o2, xs, z⟩
        · rw [tr] at z; cases z
        · obtain ⟨e1, _⟩ := hok b _ z
          obtain ⟨e2, _⟩ := hok' b _ (un.frzs b o2 _ z)
          rw [got] at e1
          cases e1
          exact e2
theorem law_run (inK : K.In st.heap) (gns : st.heap.Ns mainGlobals mg) (bns : st.heap.Ns builtinsNs mb) (bbt : ∀ x : Str, x ≠ "__name__" → mb x = bootBuiltins x) (nolim : st.heap.NoLimit) (ngen : st.gens = #[])
    (obj : st.heap.get? a = some { cls := .type "list", data := .seq its.toArray }) (isInts : IntsAre its ns) (few : ns.length ≤ 63) (rm : Room k callerA) (bind1 : ∀ (s : Shared) (u : Value), BindsTo s fd ⟨[u], []⟩ [(x, u)])
    (F : ∀ base : Heap, K.In base → base.Ns mainGlobals mg → ∃ C : Cn, (∀ b ms, (∀ H : Hp, SqL K H b (ms.map V.int)) → C.ks b ms) ∧ FnV P w K mg base C k fa fd [x] lawSp) :
    codeAny (model P w) callerA (.call (.ref fa) ⟨[.ref a], []⟩) (fun r s' => r = .ok (.ret (.bool true)) ∧ OldK st.heap s'.heap ∧ s'.os = st.os ∧ AllBare s'.gens) st := by
  have rv := vals_of_ints isInts
  have lenV := isInts.length
  have few' : ns.length ≤ sizeLine := Nat.le_trans few (by decide)
  cases wr : K.lookup a with
  | some ob =>
    have got := inK a ob wr
    rw [obj] at got
    cases got
    refine law_core inK gns bns bbt nolim ngen obj rm bind1 F ⟨fun _ => False, [], fun _ => none⟩ ⟨fun _ z => z.elim, fun _ z => (nomatch z), fun _ ⟨_, z, _⟩ => (nomatch z), fun _ z => (nomatch z)⟩ (fun _ => .inl rfl) (fun C hks => .scrK (hks a ns fun H => ?_) few) (fun b u z => ?_) (fun b z => absurd rfl z) (fun z => absurd rfl z)
    · exact .inr ⟨_, its.toArray, _, wr, rfl, rfl, rfl, by rw [List.size_toArray, lenV]; exact few', by simpa using rv⟩
    · have z' : (none : Option HO) = some u := z
      cases z'
  | none =>
    let Hs : Hp := fun b => if b = a then some (.frz { cls := .type "list", data := .seq its.toArray } (.lst (ns.map V.int))) else none
    have at_a : Hs a = some (.frz { cls := .type "list", data := .seq its.toArray } (.lst (ns.map V.int))) := if_pos rfl
    have off_a : ∀ {b}, b ≠ a → Hs b = none := fun h => if_neg h
    refine law_core inK gns bns bbt nolim ngen obj rm bind1 F ⟨fun b => b = a, [], Hs⟩ ⟨fun b z => ⟨_, (congrArg Hs z).trans at_a⟩, fun _ z => (nomatch z), fun _ ⟨_, z, _⟩ => (nomatch z), fun _ z => (nomatch z)⟩ (fun b => ?_) (fun C hks => .scr rfl at_a few) (fun b u z => ?_) (fun b z => ?_) (fun _ => wr)
    · by_cases h : b = a
      · exact .inr ⟨_, _, (congrArg Hs h).trans at_a⟩
      · exact .inl (off_a h)
    · by_cases h : b = a
      · subst h
        have z' := at_a.symm.trans z
        cases z'
        exact ⟨obj, by rw [List.length_map]; exact few', its, _, rv, obj⟩
      · have z' := (off_a h).symm.trans z
        cases z'
    · by_cases h : b = a
      · exact h
      · exact absurd (off_a h) z
end
/-- the goal that k_head leaves -/
theorem walk_V {l : PySem.W.OpenLaw} {k : Nat} {q : Program} {loose : List Str} {XP : (Str → Option Value) → Heap → Prop} {YP : World → Heap → Prop} {d : DefRec} {K : Params → PySem.W.Frag} {x : Str}
    (most : l.most = some 63) (nodf : d.params.defaults = []) (rm : Room k callerA) (hY : ∀ (w : World) (h : Heap), YP w h → (K w.params).In h)
    (F : ∀ (w : World) (mg : Str → Option Value) (fa : Addr) (h : Heap), (K w.params).In h → h.Ns mainGlobals mg → mg d.name = some (.ref fa) → ∃ fd : FuncData, (∀ (s : Shared) (u : Value), BindsTo s fd ⟨[u], []⟩ [(x, u)]) ∧
      ∀ base : Heap, (K w.params).In base → base.Ns mainGlobals mg → ∃ C : Cn, (∀ b ms, (∀ H : Hp, SqL (K w.params) H b (ms.map V.int)) → C.ks b ms) ∧ FnV l.prog w (K w.params) mg base C k fa fd [x] lawSp) :
    PySem.W.WalkO q loose XP YP l.row.toRowW d [] (fun f vs => PySem.call f vs) := by
  refine Att.attach_call most nodf fun w s0 s1 mg mb fa o pm cd doc a its ns Gr Y ho hd hcd hmg obj isInts few ngen => ?_
  obtain ⟨fd, bind1, hF⟩ := F w mg fa _ (hY w _ Y) Gr.T.g hmg
  exact law_run (hY w _ Y) Gr.T.g Gr.T.b Gr.T.builtins Gr.T.nolimit ngen obj isInts few rm bind1 hF
end VL

set_option Elab.async false
set_option linter.all false
set_option maxRecDepth 100000
set_option maxHeartbeats 4000000
namespace VL
open PySem L2
/-! ### the deal and the draw -/
def drawSp : FSpec := fun ds Q _ => ∃ m : Int, ds = [.deal, .int m] ∧ 0 < m ∧ m.natAbs.log2 < 9000 ∧ ∀ r : Int, 0 ≤ r → r < m → Q (.int r)
def dealSp : FSpec := fun ds Q _ => ds = [.scr, .int 0] ∧ Q .deal
theorem dp_ints {K : PySem.W.Frag} {H : Hp} : ∀ ns : List Int, DpAll K H (ns.map V.int) (ns.map PyData.int)
  | [] => .nil
  | n :: ns => .cons (.int n) (dp_ints ns)
theorem lay_ints : ∀ ns : List Int, PyData.canLayAll0 (ns.map PyData.int) = true
  | [] => rfl
  | n :: ns => by show (true && _) = true; rw [lay_ints ns]; rfl
theorem depth_ints : ∀ ns : List Int, PyData.depthAll (ns.map PyData.int) = 0
  | [] => rfl
  | n :: ns => by
    show max (PyData.depth (.int n)) (PyData.depthAll (ns.map PyData.int)) = 0
    rw [depth_ints ns]; rfl
theorem shaped_ints (ns : List Int) : SeqAt.shaped (.list (ns.map PyData.int)) = true := by
  unfold SeqAt.shaped
  rw [Bool.and_eq_true]
  refine ⟨lay_ints ns, decide_eq_true ?_⟩
  show PyData.depthAll (ns.map PyData.int) + 1 ≤ 64
  rw [depth_ints]; decide
theorem eqv_nil (ns : List Int) : PyData.eqv (.list (ns.map PyData.int)) (.list []) = ns.isEmpty := by
  cases ns with
  | nil => rfl
  | cons n ns => rfl
/-- while a draw goes on -/
structure DI (S : G) (a q : Addr) (cells : List Int) (m : Int) (H : Hp) : Prop where
  ha : H a = some (.lst [.ref q, .int m])
  hq : H q = some (.lst (cells.map V.int))
  m0 : 0 ≤ m
  m1 : m < 2147483647
  few : cells.length ≤ 63
  nn : ∀ c ∈ cells, 0 ≤ c
  kp : ∀ b o, S.H b = some o → b ≠ q → b ≠ a → H b = some o
section
variable {C : Cn} {S : G} {a q : Addr} {cells : List Int} {m : Int} {H : Hp}
theorem DI.new (d : DI S a q cells m H) {p : Addr} {o : HO} (n : H p = none) : DI S a q cells m (upd H p o) :=
  ⟨by rw [upd_ne (ne_of_none d.ha n)]; exact d.ha, by rw [upd_ne (ne_of_none d.hq n)]; exact d.hq, d.m0, d.m1, d.few, d.nn, fun b u h h1 h2 => by rw [upd_ne (ne_of_none (d.kp b u h h1 h2) n)]; exact d.kp b u h h1 h2⟩
theorem DI.ne (d : DI S a q cells m H) : a ≠ q := fun e => by
  have h1 := d.ha
  have h2 := d.hq
  rw [e, h2] at h1
  cases cells with
  | nil => cases h1
  | cons c cs => cases h1
theorem DI.setC {cells' : List Int} (d : DI S a q cells m H) (few : cells'.length ≤ 63) (nn : ∀ c ∈ cells', 0 ≤ c) : DI S a q cells' m (upd H q (.lst (cells'.map V.int))) :=
  ⟨by rw [upd_ne d.ne]; exact d.ha, upd_same, d.m0, d.m1, few, nn, fun b u h h1 h2 => by rw [upd_ne h1]; exact d.kp b u h h1 h2⟩
theorem DI.mixed {m' : Int} (d : DI S a q cells m H) (h0 : 0 ≤ m') (h1 : m' < 2147483647) : DI S a q cells m' (upd H a (.lst [.ref q, .int m'])) :=
  ⟨upd_same, by rw [upd_ne d.ne.symm]; exact d.hq, h0, h1, d.few, d.nn, fun b u h h1 h2 => by rw [upd_ne h2]; exact d.kp b u h h1 h2⟩
theorem DI.step (wf : WF S) (mem : (a, q) ∈ S.L) (d : DI S a q cells m H) : FStep S { S with H := H } := by
  have dl : ∀ b, ¬ S.Dl b → b ≠ q ∧ b ≠ a := fun b h => ⟨fun e => h ⟨_, mem, .inr e⟩, fun e => h ⟨_, mem, .inl e⟩⟩
  have nf : ∀ b, S.F b → b ≠ q ∧ b ≠ a := fun b h => dl b fun z => wf.nf b z h
  have keepF : ∀ b o, S.F b → S.H b = some o → H b = some o := fun b o f h => d.kp b o h (nf b f).1 (nf b f).2
  refine ⟨⟨fun b f => ?_, fun p hp => ?_, wf.nf, wf.dis⟩, ⟨fun _ h => h, fun _ h => h, fun b o f h _ => keepF b o f h, fun b u f h => ?_⟩, fun b o h1 h2 h3 _ => ⟨d.kp b o h1 (dl b h3).1 (dl b h3).2, h2, h3, own_nil⟩, fun b h => ?_⟩
  · obtain ⟨o, ho⟩ := wf.dom b f
    exact ⟨o, keepF b o f ho⟩
  · by_cases e : p = (a, q)
    · subst e
      exact ⟨cells, m, d.ha, d.hq, d.m0, d.m1, d.few, d.nn⟩
    · obtain ⟨cs, mm, e1, e2, r⟩ := wf.deal p hp
      have n1 := (wf.dis p hp _ mem).2 e
      have n2 := (wf.dis p hp _ mem).1
      have n3 := (wf.dis _ mem p hp).1
      exact ⟨cs, mm, d.kp _ _ e1 n2 n1.1, d.kp _ _ e2 n1.2 fun z => n3 z.symm, r⟩
  · rcases h with h | ⟨x, h⟩
    · exact .inl (keepF b _ f h)
    · exact .inr ⟨x, keepF b _ f h⟩
  · show S.H b = none
    have h : H b = none := h
    cases hb : S.H b with
    | none => rfl
    | some o =>
      by_cases e1 : b = q
      · subst e1; rw [d.hq] at h; cases h
      · by_cases e2 : b = a
        · subst e2; rw [d.ha] at h; cases h
        · rw [d.kp b o hb e1 e2] at h; cases h
theorem DI.init {p : Addr × Addr} (wf : WF S) (hp : p ∈ S.L) : ∃ cells m, DI S p.1 p.2 cells m S.H := by
  obtain ⟨cs, m, e1, e2, h0, h1, h2, h3⟩ := wf.deal p hp
  exact ⟨cs, m, e1, e2, h0, h1, h2, h3, fun _ _ h _ _ => h⟩

variable {K : PySem.W.Frag} {σ : L2.St}
abbrev tQ0 (K : PySem.W.Frag) : TE := tOp (rIxL K) (tVar 0) (tC (.int 0))
theorem cell0_ok {Q : VK} (d : DI S a q cells m H) (h0 : σ[0]? = some (some (.ref a))) (h : Q (.ref q) H) : tQ0 K σ H Q := ⟨_, h0, a, _, 0, .ref q, rfl, rfl, SqL.of d.ha, rfl, h⟩
abbrev tNe (K : PySem.W.Frag) : TT := tTest (tOp (rNeD K) (tQ0 K) (tLst tNil))
theorem ne_ok {Q : Bool → Hp → Prop} (d : DI S a q cells m H) (h0 : σ[0]? = some (some (.ref a))) (h : ∀ H', DI S a q cells m H' → Q (!cells.isEmpty) H') : tNe K σ H Q := by
  refine cell0_ok d h0 ⟨Nat.zero_le _, fun z nz => ?_⟩
  have d' : DI S a q cells m (upd H z (.lst [])) := d.new nz
  refine ⟨_, _, .lst (SqL.of d'.hq) (dp_ints cells), .lst (SqL.of upd_same) .nil, shaped_ints cells, shaped_ints [], _, rfl, ?_⟩
  show Q (!PyData.eqv (.list (cells.map PyData.int)) (.list [])) _
  rw [eqv_nil]
  exact h _ d'
abbrev tPopQ (K : PySem.W.Frag) : TE := tBM0 K "list" rPop (tQ0 K)
theorem popQ_ok {Q : VK} {c : Int} (d : DI S a q (cells ++ [c]) m H) (h0 : σ[0]? = some (some (.ref a))) (h : ∀ H', DI S a q cells m H' → 0 ≤ c → Q (.int c) H') : tPopQ K σ H Q := by
  refine cell0_ok d h0 ⟨.inl ⟨rfl, _, SqL.of d.hq⟩, q, _, .int c, rfl, rfl, d.hq, ?_, ?_⟩
  · rw [List.map_append, List.length_append]
    simp
  · have e : ((cells ++ [c]).map V.int).dropLast = cells.map V.int := by rw [List.map_append]; exact List.dropLast_concat
    rw [e]
    have f := d.few
    rw [List.length_append] at f
    exact h _ (d.setC (by omega) fun x hx => d.nn x (List.mem_append_left _ hx)) (d.nn c (by simp))
def tDraw (K : PySem.W.Frag) (c1 c2 c3 c4 : Int) : TS :=
  tSeq (tWhile (tAnd (tNe K) (tB (tEqI (tOp (rIxL K) (tQ0 K) (tUn (rU fun i => .int (-i)) (tC (.int 1)))) (tC (.int 0))))) (tDrop (tPopQ K)))
    (tSeq (tIfS (tNe K)
      (tSeq (tAsg (tPopQ K) (gName 2))
        (tSeq (tDrop (tBM K "list" rAppend (tQ0 K) (tCons (tOp (rI CDivW fun i j => .int (i / j)) (tVar 2) (tVar 1)) tNil)))
          (tRet (tOp (rI (fun _ j => 0 < j) fun i j => .int (i % j)) (tCB (fun xs H Q => (∃ i, xs = [.int i] ∧ Q (.int i) H) ∨ ∃ k, xs = [.bl k] ∧ Q (.int (if k then 1 else 0)) H) (tCons (tVar 2) tNil)) (tVar 1)))))
      tNext)
    (tSeq (tAsg (tOp (rI (fun _ j => 0 < j) fun i j => .int (i % j)) (tCB (fun xs H Q => (∃ i, xs = [.int i] ∧ Q (.int i) H) ∨ ∃ k, xs = [.bl k] ∧ Q (.int (if k then 1 else 0)) H) (tCons (tAdd (tMul (tOp (rIxL K) (tVar 0) (tC (.int 1))) (tC (.int c1))) (tC (.int c2))) tNil)) (tC (.int c3))) (gSub (tVar 0) (tC (.int 1)) rSetL))
    (tRet (tOp (rI (fun _ j => 0 < j) fun i j => .int (i % j)) (tCB (fun xs H Q => (∃ i, xs = [.int i] ∧ Q (.int i) H) ∨ ∃ k, xs = [.bl k] ∧ Q (.int (if k then 1 else 0)) H) (tCons (tOp (rI CDivW fun i j => .int (i / j)) (tOp (rIxL K) (tVar 0) (tC (.int 1))) (tC (.int c4))) tNil)) (tVar 1)))))

theorem atI_last {α : Type} (xs : List α) (v : α) : atI (xs ++ [v]) (-1) = some v := by
  unfold atI ixN
  rw [if_neg (by omega), if_pos (by rw [List.length_append]; simp; omega)]
  show (xs ++ [v])[(-1 + ((xs ++ [v]).length : Int)).toNat]? = some v
  have : (-1 + ((xs ++ [v]).length : Int)).toNat = xs.length := by
    rw [List.length_append]; simp; omega
  rw [this]
  simp
theorem log2_small {n : Int} (h : n.natAbs < 2 ^ 64) : n.natAbs.log2 < 9000 := by
  by_cases e : n.natAbs = 0
  · rw [e]; decide
  · have := (Nat.log2_lt e (k := 64)).mpr h
    omega
theorem draw_run {c1 c2 c3 c4 many : Int} {D : Ends} (wf : WF S) (mem : (a, q) ∈ S.L) (hc3 : 0 < c3 ∧ c3 ≤ 2147483647) (hc4 : 0 < c4 ∧ c4 < 1000) (m0 : 0 < many) (mlog : many.natAbs.log2 < 9000)
    (hQ : ∀ (r : Int) (S' : G), FStep S S' → 0 ≤ r → r < many → D.rt (.int r) S'.H) : tDraw K c1 c2 c3 c4 D [some (.ref a), some (.int many), none] S.H := by
  obtain ⟨cells0, mm0, d0⟩ := DI.init wf mem
  have fin : ∀ {cells : List Int} {m : Int} {H : Hp} {r : Int}, DI S a q cells m H → 0 ≤ r → r < many → D.rt (.int r) H := fun d h1 h2 => hQ _ _ (d.step wf mem) h1 h2
  refine ⟨fun n σ H => σ = [some (.ref a), some (.int many), none] ∧ ∃ cells m, n = cells.length ∧ DI S a q cells m H, ⟨_, rfl, cells0, mm0, rfl, d0⟩, ?_⟩
  rintro n σ H ⟨rfl, cells, m, rfl, d⟩
  have rest : ∀ (H' : Hp), DI S a q cells m H' → (cells = [] ∨ ∃ cs c, cells = cs ++ [c]) := fun _ _ => by
    rcases List.eq_nil_or_concat cells with h | ⟨cs, c, h⟩
    · exact .inl h
    · exact .inr ⟨cs, c, by rw [h, List.concat_eq_append]⟩
  -- what comes behind the loop
  have behind : ∀ H', DI S a q cells m H' → (tSeq (tIfS (tNe K)
      (tSeq (tAsg (tPopQ K) (gName 2))
        (tSeq (tDrop (tBM K "list" rAppend (tQ0 K) (tCons (tOp (rI CDivW fun i j => .int (i / j)) (tVar 2) (tVar 1)) tNil)))
          (tRet (tOp (rI (fun _ j => 0 < j) fun i j => .int (i % j)) (tCB (fun xs H Q => (∃ i, xs = [.int i] ∧ Q (.int i) H) ∨ ∃ k, xs = [.bl k] ∧ Q (.int (if k then 1 else 0)) H) (tCons (tVar 2) tNil)) (tVar 1)))))
      tNext)
    (tSeq (tAsg (tOp (rI (fun _ j => 0 < j) fun i j => .int (i % j)) (tCB (fun xs H Q => (∃ i, xs = [.int i] ∧ Q (.int i) H) ∨ ∃ k, xs = [.bl k] ∧ Q (.int (if k then 1 else 0)) H) (tCons (tAdd (tMul (tOp (rIxL K) (tVar 0) (tC (.int 1))) (tC (.int c1))) (tC (.int c2))) tNil)) (tC (.int c3))) (gSub (tVar 0) (tC (.int 1)) rSetL))
    (tRet (tOp (rI (fun _ j => 0 < j) fun i j => .int (i % j)) (tCB (fun xs H Q => (∃ i, xs = [.int i] ∧ Q (.int i) H) ∨ ∃ k, xs = [.bl k] ∧ Q (.int (if k then 1 else 0)) H) (tCons (tOp (rI CDivW fun i j => .int (i / j)) (tOp (rIxL K) (tVar 0) (tC (.int 1))) (tC (.int c4))) tNil)) (tVar 1))))) D [some (.ref a), some (.int many), none] H' := by
    intro H1 d1
    refine ne_ok d1 rfl fun H2 d2 => ?_
    rcases rest _ d2 with e | ⟨cs, c, e⟩
    · subst e
      refine ⟨_, rfl, a, _, 1, .int m, rfl, rfl, SqL.of d2.ha, rfl, ?_⟩
      have b0 := d2.m0
      have b1 := d2.m1
      refine ⟨m, c1, rfl, rfl, ⟨by omega, by omega⟩, m * c1, c2, rfl, rfl, .inl ⟨_, rfl, _, c3, rfl, rfl, hc3.1, ?_⟩⟩
      have e0 := Int.emod_nonneg (m * c1 + c2) (Int.ne_of_gt hc3.1)
      have e1 := Int.emod_lt_of_pos (m * c1 + c2) hc3.1
      have d3 := d2.mixed e0 (by omega)
      refine ⟨_, rfl, a, _, 1, 1, rfl, rfl, d2.ha, rfl, ?_⟩
      refine ⟨_, rfl, a, _, 1, _, rfl, rfl, SqL.of d3.ha, rfl, ?_⟩
      refine ⟨_, c4, rfl, rfl, ⟨hc4.1, log2_small (by omega)⟩, .inl ⟨_, rfl, _, rfl, _, many, rfl, rfl, m0, ?_⟩⟩
      exact fin d3 (Int.emod_nonneg _ (Int.ne_of_gt m0)) (Int.emod_lt_of_pos _ m0)
    · subst e
      have nb : (!(cs ++ [c]).isEmpty) = true := by cases cs <;> rfl
      rw [nb]
      refine popQ_ok d2 rfl fun H3 d3 c0 => ?_
      refine cell0_ok d3 rfl ⟨.inl ⟨rfl, _, SqL.of d3.hq⟩, ?_⟩
      refine ⟨.int c, rfl, .int many, rfl, c, many, rfl, rfl, ⟨m0, mlog⟩, q, _, .int (c / many), rfl, rfl, d3.hq, ?_, ?_⟩
      · rw [List.length_map]
        exact Nat.lt_of_le_of_lt d3.few (by decide)
      · have f := d2.few
        rw [List.length_append] at f
        have d4 := d3.setC (cells' := cs ++ [c / many]) (by rw [List.length_append]; exact f) fun x hx => by
          rcases List.mem_append.mp hx with z | z
          · exact d3.nn x z
          · obtain rfl : x = c / many := by simpa using z
            exact Int.ediv_nonneg c0 (Int.le_of_lt m0)
        rw [List.map_append] at d4
        refine ⟨.int c, rfl, .inl ⟨_, rfl, .int many, rfl, _, many, rfl, rfl, m0, ?_⟩⟩
        exact fin d4 (Int.emod_nonneg _ (Int.ne_of_gt m0)) (Int.emod_lt_of_pos _ m0)
  refine ne_ok d rfl fun H2 d2 => ?_
  rcases rest _ d2 with e | ⟨cs, c, e⟩
  · subst e
    exact behind _ d2
  · have nb : (!cells.isEmpty) = true := by subst e; cases cs <;> rfl
    rw [nb]
    refine cell0_ok d2 rfl ⟨1, rfl, q, _, -1, .int c, rfl, rfl, SqL.of d2.hq, ?_, ?_⟩
    · subst e
      rw [List.map_append]
      exact atI_last _ _
    · refine ⟨c, 0, rfl, rfl, _, rfl, ?_⟩
      by_cases hc : c = 0
      · subst hc
        refine ⟨fun σ' H' => σ' = [some (.ref a), some (.int many), none] ∧ ∃ cs' m', cs'.length < cells.length ∧ DI S a q cs' m' H', fun σ' H' ⟨h1, cs', m', h2, h3⟩ => ⟨_, h2, h1, cs', m', rfl, h3⟩, ?_⟩
        rw [e] at d2
        refine popQ_ok d2 rfl fun H3 d3 _ => ⟨rfl, cs, m, ?_, d3⟩
        rw [e, List.length_append]
        simp
      · have : decide (c = 0) = false := decide_eq_false hc
        simp only [this, Bool.false_eq_true, if_false]
        exact behind _ d2
end
end VL

set_option Elab.async false
set_option linter.all false
set_option maxRecDepth 100000
set_option maxHeartbeats 4000000
namespace VL
open PySem L2
/-! ### the deal -/
theorem same_new {H : Hp} {p : Addr} {o : HO} (n : H p = none) : L2.Same H (upd H p o) := fun b x e => by
  rw [upd_ne (ne_of_none e n)]; exact e
theorem same_set {H H' : Hp} {p : Addr} {o : HO} (n : H p = none) (s : L2.Same H H') : L2.Same H (upd H' p o) := fun b x e => by
  rw [upd_ne (ne_of_none e n)]; exact s b x e
theorem scr_sq {K : PySem.W.Frag} {C : Cn} {S : G} {v : V} (ks : ∀ b ms, C.ks b ms → ∀ H : Hp, SqL K H b (ms.map V.int)) (r : Rep C S v .scr) : ∃ (a : Addr) (ns : List Int), v = .ref a ∧ ns.length ≤ 63 ∧ ∀ H : Hp, L2.Same S.H H → SqL K H a (ns.map V.int) := by
  cases r with
  | @scr a o ns f h l => exact ⟨a, ns, rfl, l, fun H s => .inl (.inr ⟨o, s _ _ h⟩)⟩
  | @scrK a ns h l => exact ⟨a, ns, rfl, l, fun H _ => ks _ _ h H⟩
theorem cut_ints (ns : List Int) (lo hi : Option Int) : ∃ ms : List Int, cutV (ns.map V.int) lo hi = ms.map V.int ∧ ms.length ≤ ns.length := by
  have h := cutV_length (ns.map V.int) lo hi
  unfold cutV at h ⊢
  rw [← List.map_drop, ← List.map_take] at h ⊢
  exact ⟨_, rfl, by simpa using h⟩
section
variable {K : PySem.W.Frag} {σ : L2.St} {H : Hp} {p : Addr} {xs : List Int} {tt : TT} {te : TE} {pt : Int → Bool} {f : Int → Int} {Q : VK}
theorem take_next {α : Type} {l : List α} {i : Nat} {x : α} (h : l[i]? = some x) : l.take (i + 1) = l.take i ++ [x] := by
  rw [List.take_add_one, h]; rfl
/-- a comprehension over the ints of a list -/
theorem lc_ints {j : Nat} (hp : H p = some (.lst (xs.map V.int))) (few : xs.length ≤ 63) (ht : ∀ (x : Int) (H : Hp) (R : Bool → Hp → Prop), R (pt x) H → tt ((wipe σ [j]).set j (some (.int x))) H R) (he : ∀ (x : Int) (H : Hp) (R : VK), R (.int (f x)) H → te ((wipe σ [j]).set j (some (.int x))) H R)
    (h : ∀ D H', H D = none → L2.Same H H' → H' D = some (.lst ((((xs.filter pt).map f)).map V.int)) → Q (.ref D) H') : ∀ D, H D = none → ∃ W : Nat → Nat → Hp → Prop, (∃ m, W 0 m (upd H D (.lst []))) ∧ ∀ i m H, W i m H →
  ((Itl K p).stop i H ∧ Q (.ref D) H) ∨ ((Itl K p).go i H ∧ ∃ Nx : Hp → Prop, (∀ H', Nx H' → ∃ m', m' < m ∧ W (i + 1) m' H') ∧ ∀ x H', (Itl K p).yld i H x H' → (gName j) x (wipe σ [j]) H' fun σ2 H2 => wipe σ2 [j] = wipe σ [j] ∧ tt σ2 H2 fun b H3 =>
    if b = true then te σ2 H3 fun y H4 => ∃ acc, H4 D = some (.lst acc) ∧ acc.length < sizeLine ∧ Nx (upd H4 D (.lst (acc ++ [y]))) else Nx H3) := by
  intro D hD
  refine ⟨fun i m H' => m = xs.length - i ∧ i ≤ xs.length ∧ L2.Same H H' ∧ H' D = some (.lst ((((xs.take i).filter pt).map f).map V.int)), ⟨_, rfl, Nat.zero_le _, same_new hD, upd_same⟩, ?_⟩
  rintro i m H1 ⟨rfl, hi, sm, hd⟩
  have hp1 : SqL K H1 p (xs.map V.int) := SqL.of (sm _ _ hp)
  by_cases hlt : i < xs.length
  · refine .inr ⟨⟨_, _, hp1, by rw [List.getElem?_map, List.getElem?_eq_getElem hlt]; rfl⟩, fun H' => i + 1 ≤ xs.length ∧ L2.Same H H' ∧ H' D = some (.lst ((((xs.take (i + 1)).filter pt).map f).map V.int)), fun H' ⟨h1, h2, h3⟩ => ⟨xs.length - (i + 1), by omega, rfl, h1, h2, h3⟩, ?_⟩
    rintro x H2 ⟨rfl, hx⟩
    have hx := hx _ hp1
    rw [List.getElem?_map, List.getElem?_eq_getElem hlt] at hx
    cases hx
    refine ⟨?_, ht _ _ _ ?_⟩
    · show (((wipe σ []).set j none).set j (some (V.int xs[i]))).set j none = (wipe σ []).set j none
      rw [List.set_set, List.set_set]
    · have tk := take_next (List.getElem?_eq_getElem hlt)
      cases hb : pt xs[i] with
      | true =>
        simp only [if_true]
        refine he _ _ _ ⟨_, hd, ?_, hlt, same_set hD sm, ?_⟩
        · rw [List.length_map, List.length_map]
          refine Nat.lt_of_le_of_lt (List.length_filter_le _ _) ?_
          rw [List.length_take]
          exact Nat.lt_of_le_of_lt (Nat.le_trans (Nat.min_le_right _ _) few) (by decide)
        · rw [upd_same, tk, List.filter_append, List.map_append, List.map_append]
          simp [hb]
      | false =>
        simp only [Bool.false_eq_true, if_false]
        refine ⟨hlt, sm, ?_⟩
        rw [hd, tk, List.filter_append, List.map_append, List.map_append]
        simp [hb]
  · have ei : i = xs.length := by omega
    subst ei
    rw [List.take_length] at hd
    exact .inl ⟨⟨_, hp1, by rw [List.length_map]; exact Nat.le_refl _⟩, h D H1 hD sm hd⟩
theorem lc_ints' {j : Nat} {tl : TE} {N : Addr → Hp → Prop} (htl : ∀ R : VK, (∀ p H', N p H' → R (.ref p) H') → tl σ H R) (hp : ∀ p H', N p H' → H' p = some (.lst (xs.map V.int))) (few : xs.length ≤ 63) (ht : ∀ (x : Int) (H : Hp) (R : Bool → Hp → Prop), R (pt x) H → tt ((wipe σ [j]).set j (some (.int x))) H R) (he : ∀ (x : Int) (H : Hp) (R : VK), R (.int (f x)) H → te ((wipe σ [j]).set j (some (.int x))) H R)
    (h : ∀ p H1, N p H1 → ∀ D H', H1 D = none → L2.Same H1 H' → H' D = some (.lst ((((xs.filter pt).map f)).map V.int)) → Q (.ref D) H') : tLc (iList K tl) (gName j) tt te [j] σ H Q :=
  htl _ fun p H1 n => ⟨p, rfl, ⟨_, SqL.of (hp p H1 n)⟩, lc_ints (Q := Q) (hp p H1 n) few ht he (h p H1 n)⟩
end
abbrev rIntC : List V → Hp → VK → Prop := fun xs H Q => (∃ i, xs = [.int i] ∧ Q (.int i) H) ∨ ∃ k, xs = [.bl k] ∧ Q (.int (if k then 1 else 0)) H
abbrev rModC : R2 := rI (fun _ j => 0 < j) fun i j => .int (i % j)
/-- the mix's end, by kind of law -/
def tDeal (K : PySem.W.Frag) (abs1 mix : TE) (c0 c1 : Int) : TS :=
  tSeq (tAsg (tLc (iList K (tSl (rSlL K) (tVar 0) (tPart (tVar 1)) (tPart (tC (.int 63))))) (gName 4) tYes abs1 [4]) (gName 2))
    (tSeq (tAsg (tAdd (tC (.int c0)) (tMul (tC (.int c1)) (tVar 1))) (gName 3))
      (tSeq (tFor (iList K (tVar 2)) (gName 4) (tAsg mix (gName 3)))
        (tRet (tLst (tCons (tRevL K (tLc (iList K (tVar 2)) (gName 4) (tB (tGe (tVar 4) (tOp (rI CPow fun i j => .int (i ^ j.toNat)) (tC (.int 10)) (tC (.int 18))))) (tVar 4) [4])) (tCons (tVar 3) tNil))))))
theorem deal_step {S : G} {H : Hp} {q a : Addr} {cells : List Int} {m : Int} (wf : WF S) (sm : L2.Same S.H H) (nq : S.H q = none) (na : S.H a = none) (hq : H q = some (.lst (cells.map V.int))) (ha : H a = some (.lst [.ref q, .int m])) (m0 : 0 ≤ m) (m1 : m < 2147483647) (few : cells.length ≤ 63) (nn : ∀ c ∈ cells, 0 ≤ c) :
    FStep S { S with L := (a, q) :: S.L, H := H } := by
  have keep : ∀ b o, S.H b = some o → H b = some o := fun b o h => sm b o h
  have dl : ∀ b, S.Dl b → ∃ o, S.H b = some o := fun b h => Dl.there wf h
  have hne : a ≠ q := fun e => by
    rw [e, hq] at ha
    cases cells <;> cases ha
  have isNew : ∀ b, (({ S with L := (a, q) :: S.L, H := H } : G).Dl b) → b = a ∨ b = q ∨ S.Dl b := fun b ⟨p, hp, e⟩ => by
    rcases List.mem_cons.mp hp with rfl | hp
    · rcases e with e | e
      · exact .inl e
      · exact .inr (.inl e)
    · exact .inr (.inr ⟨p, hp, e⟩)
  refine ⟨⟨fun b f => ?_, fun p hp => ?_, fun b d f => ?_, fun p hp p' hp' => ?_⟩, ⟨fun _ h => h, fun p h => List.mem_cons_of_mem _ h, fun b o _ h _ => keep b o h, fun b u _ h => ?_⟩, fun b o h1 h2 h3 _ => ⟨keep b o h1, h2, fun z => ?_, own_nil⟩, fun b h => ?_⟩
  · obtain ⟨o, ho⟩ := wf.dom b f
    exact ⟨o, keep b o ho⟩
  · rcases List.mem_cons.mp hp with rfl | hp
    · exact ⟨cells, m, ha, hq, m0, m1, few, nn⟩
    · obtain ⟨cs, mm, e1, e2, r⟩ := wf.deal p hp
      exact ⟨cs, mm, keep _ _ e1, keep _ _ e2, r⟩
  · obtain ⟨o, ho⟩ := wf.dom b f
    rcases isNew b d with rfl | rfl | d
    · rw [na] at ho; cases ho
    · rw [nq] at ho; cases ho
    · exact wf.nf b d f
  · have old : ∀ p ∈ S.L, p.1 ≠ a ∧ p.1 ≠ q ∧ p.2 ≠ a ∧ p.2 ≠ q := fun p hp => by
      obtain ⟨⟨u, h1⟩, ⟨u', h2⟩⟩ := (wf.deal p hp).there
      exact ⟨ne_of_none h1 na, ne_of_none h1 nq, ne_of_none h2 na, ne_of_none h2 nq⟩
    rcases List.mem_cons.mp hp with rfl | hp
    · rcases List.mem_cons.mp hp' with rfl | hp'
      · exact ⟨hne, fun z => absurd rfl z⟩
      · obtain ⟨z1, z2, z3, z4⟩ := old p' hp'
        exact ⟨z3.symm, fun _ => ⟨z1.symm, z4.symm⟩⟩
    · rcases List.mem_cons.mp hp' with rfl | hp'
      · obtain ⟨z1, z2, z3, z4⟩ := old p hp
        exact ⟨z2, fun _ => ⟨z1, z4⟩⟩
      · exact wf.dis p hp p' hp'
  · rcases h with h | ⟨x, h⟩
    · exact .inl (keep _ _ h)
    · exact .inr ⟨x, keep _ _ h⟩
  · rcases isNew b z with rfl | rfl | z
    · rw [na] at h1; cases h1
    · rw [nq] at h1; cases h1
    · exact h3 z
  · show S.H b = none
    have h : H b = none := h
    cases hb : S.H b with
    | none => rfl
    | some o => rw [keep b o hb] at h; cases h
theorem two_le : 2 ≤ sizeLine := by decide
theorem deal_run {K : PySem.W.Frag} {C : Cn} {S : G} {v : V} {abs1 mix : TE} {c0 c1 : Int} {E : Ends} (wf : WF S) (ks : ∀ b ms, C.ks b ms → ∀ H : Hp, SqL K H b (ms.map V.int)) (r : Rep C S v .scr)
    (habs : ∀ (σ : L2.St) (x : Int) (H : Hp) (R : VK), σ[4]? = some (some (.int x)) → R (.int (if x < 0 then -x else x)) H → abs1 σ H R)
    (hmix : ∀ (σ : L2.St) (m x : Int) (H : Hp) (R : VK), σ[3]? = some (some (.int m)) → σ[4]? = some (some (.int x)) → 0 ≤ m → m < 2147483647 → (∀ m' : Int, 0 ≤ m' → m' < 2147483647 → R (.int m') H) → mix σ H R)
    (h0 : 0 ≤ c0 ∧ c0 < 2147483647) (h1 : 0 ≤ c1 ∧ c1 < 1000) (hQ : ∀ (v : V) (S' : G), FStep S S' → Rep C S' v .deal → E.rt v S'.H) : tDeal K abs1 mix c0 c1 E [some v, some (.int 0), none, none, none] S.H := by
  obtain ⟨a, ns, rfl, few, hsq⟩ := scr_sq ks r
  obtain ⟨ms, ems, hms⟩ := cut_ints ns (some 0) (some 63)
  unfold tDeal tSeq tAsg
  refine lc_ints' (N := fun p H' => S.H p = none ∧ H' = upd S.H p (.lst (ms.map V.int))) (xs := ms) (pt := fun _ => true) (f := fun x => if x < 0 then -x else x) (fun R h => ⟨_, rfl, _, rfl, 0, rfl, 63, rfl, a, _, rfl, hsq _ (.refl _), fun p np => ?_⟩) (fun p H' ⟨_, z⟩ => z ▸ upd_same) (by omega) (fun x H R h => h) (fun x H R h => habs _ x _ _ rfl h) ?_
  · rw [ems]
    exact h _ _ ⟨np, rfl⟩
  rintro p _ ⟨np, rfl⟩ D H1 nD sm1 hD
  have s1 : L2.Same S.H (upd S.H p (.lst (ms.map V.int))) := same_new np
  have nDS : S.H D = none := s1.free nD
  have few1 : (ms.filter fun _ => true).length ≤ 63 := by
    have := List.length_filter_le (fun _ => true) ms
    omega
  generalize ecs : ((ms.filter fun _ => true).map fun x => if x < 0 then -x else x) = cs at hD
  have lcs : cs.length ≤ 63 := by rw [← ecs, List.length_map]; exact few1
  have ncs : ∀ c ∈ cs, 0 ≤ c := fun c hc => by
    rw [← ecs] at hc
    obtain ⟨x, _, rfl⟩ := List.mem_map.mp hc
    split <;> omega
  have s2 : L2.Same S.H H1 := s1.trans sm1
  refine ⟨.int 0, rfl, c1, 0, rfl, rfl, ⟨by omega, by omega⟩, c0, c1 * 0, rfl, rfl, ?_⟩
  have ec : c0 + c1 * 0 = c0 := by rw [Int.mul_zero, Int.add_zero]
  refine ⟨_, rfl, D, rfl, ⟨_, SqL.of hD⟩, ?_⟩
  refine ⟨fun i m σ H => m = cs.length - i ∧ i ≤ cs.length ∧ H = H1 ∧ ∃ (mx : Int) (y : Option V), σ = [some (.ref a), some (.int 0), some (.ref D), some (.int mx), y] ∧ 0 ≤ mx ∧ mx < 2147483647, ⟨_, rfl, Nat.zero_le _, rfl, c0 + c1 * 0, none, rfl, by rw [ec]; exact h0.1, by rw [ec]; exact h0.2⟩, ?_⟩
  rintro i m σ H ⟨rfl, hi, rfl, mx, y, rfl, mx0, mx1⟩
  have hsD : SqL K H D (cs.map V.int) := SqL.of hD
  by_cases hlt : i < cs.length
  · refine .inr ⟨⟨_, _, hsD, by rw [List.getElem?_map, List.getElem?_eq_getElem hlt]; rfl⟩, fun σ H' => H' = H ∧ ∃ (mx : Int) (y : Option V), σ = [some (.ref a), some (.int 0), some (.ref D), some (.int mx), y] ∧ 0 ≤ mx ∧ mx < 2147483647, fun σ H' ⟨z1, z2⟩ => ⟨cs.length - (i + 1), by omega, rfl, hlt, z1, z2⟩, ?_⟩
    rintro x H' ⟨rfl, hx⟩
    have hx := hx _ hsD
    rw [List.getElem?_map, List.getElem?_eq_getElem hlt] at hx
    cases hx
    refine hmix _ mx cs[i] _ _ rfl rfl mx0 mx1 fun m' z0 z1 => ⟨rfl, m', _, rfl, z0, z1⟩
  · refine .inl ⟨⟨_, hsD, by rw [List.length_map]; omega⟩, ?_⟩
    unfold tRet tLst tCons tRevL
    dsimp only
    refine lc_ints' (N := fun p H' => p = D ∧ H' = H) (xs := cs) (pt := fun x => decide (x ≥ 1000000000000000000)) (f := fun x => x) (fun R h => ⟨_, rfl, h _ _ ⟨rfl, rfl⟩⟩) (fun p H' ⟨z1, z2⟩ => z1 ▸ z2 ▸ hD) lcs (fun x H R h => ⟨_, rfl, 10, 18, rfl, rfl, ⟨by decide, by decide, by decide⟩, x, _, rfl, rfl, _, rfl, ?_⟩) (fun x H R h => ⟨_, rfl, h⟩) ?_
    · exact h
    · rintro _ _ ⟨rfl, rfl⟩ D2 H2 nD2 sm2 hD2
      refine ⟨D2, _, rfl, SqL.of hD2, fun q nq => ⟨_, rfl, two_le, fun A nA => ?_⟩⟩
      have s3 : L2.Same S.H H2 := s2.trans sm2
      have nqS : S.H q = none := s3.free nq
      have nAS : S.H A = none := (same_set nqS s3).free nA
      generalize ecs2 : ((cs.filter fun x => decide (x ≥ 1000000000000000000)).map fun x => x) = ds at hD2 nA nAS ⊢
      have ds1 : ds.length ≤ 63 := by
        rw [← ecs2, List.length_map]
        exact Nat.le_trans (List.length_filter_le _ _) lcs
      have ds2 : ∀ c ∈ ds, 0 ≤ c := fun c hc => by
        rw [← ecs2, List.map_id'] at hc
        exact ncs c (List.mem_filter.mp hc).1
      have hAq : q ≠ A := fun e => by
        subst e
        rw [upd_same] at nA
        cases nA
      have st := deal_step (S := S) (q := q) (a := A) (cells := ds.reverse) (m := mx) wf (same_set (o := .lst [.ref q, .int mx]) nAS (same_set (o := .lst (ds.map V.int).reverse) nqS s3)) nqS nAS (by rw [upd_ne hAq, upd_same, List.map_reverse]) upd_same mx0 mx1 (by rw [List.length_reverse]; exact ds1) fun c hc => ds2 c (List.mem_reverse.mp hc)
      exact hQ _ _ st (.deal (p := (A, q)) (List.mem_cons_self ..))
end VL

set_option Elab.async false
set_option linter.all false
set_option maxRecDepth 100000
set_option maxHeartbeats 4000000
namespace VL
open PySem L2
/-! ### values: how loops are gone through -/
theorem br {b : Bool} {A B : Prop} (h1 : b = true → A) (h2 : b = false → B) : if b = true then A else B := by
  cases b
  · exact h2 rfl
  · exact h1 rfl
theorem brD {p : Prop} [Decidable p] {A B : Prop} (h1 : p → A) (h2 : ¬ p → B) : if decide p = true then A else B := by
  by_cases h : p
  · rw [if_pos (decide_eq_true h)]; exact h1 h
  · rw [if_neg (by rw [decide_eq_false h]; exact Bool.false_ne_true)]; exact h2 h
theorem forL_pre {α : Type} {f : D → Env → (Env → Prop) → Prop} {g : α → D} {Q : Env → Prop} (xs : List α) (R : List α → Env → Prop) {e : Env} (h0 : R [] e)
    (hs : ∀ pre x suf e k, xs = pre ++ x :: suf → R pre e → (∀ e', R (pre ++ [x]) e' → k e') → f (g x) e k) (hQ : ∀ e', R xs e' → Q e') : forL f (xs.map g) e Q := by
  have go : ∀ (suf pre : List α) (e : Env), xs = pre ++ suf → R pre e → forL f (suf.map g) e Q := by
    intro suf
    induction suf with
    | nil =>
      intro pre e hx r
      rw [List.append_nil] at hx
      subst hx
      exact hQ e r
    | cons x suf ih =>
      intro pre e hx r
      refine hs pre x suf e _ hx r fun e' r' => ?_
      exact ih (pre ++ [x]) e' (by rw [hx, List.append_assoc]; rfl) r'
  exact go xs [] e rfl h0
theorem lcL_run {α : Type} {f : D → (Option D → Prop) → Prop} {g : α → D} (r : α → Option D) (xs : List α) {acc : List D} {Q : List D → Prop} (hs : ∀ x ∈ xs, ∀ k : Option D → Prop, k (r x) → f (g x) k) (hQ : Q (acc ++ xs.filterMap r)) : lcL f (xs.map g) acc Q := by
  induction xs generalizing acc with
  | nil => rw [List.filterMap_nil, List.append_nil] at hQ; exact hQ
  | cons x xs ih =>
    refine hs x (List.mem_cons_self ..) _ ?_
    cases hr : r x with
    | none =>
      refine ih (fun y hy => hs y (List.mem_cons_of_mem _ hy)) ?_
      rw [List.filterMap_cons_none hr] at hQ
      exact hQ
    | some y =>
      refine ih (fun y hy => hs y (List.mem_cons_of_mem _ hy)) ?_
      rw [List.filterMap_cons_some hr] at hQ
      rw [List.append_assoc]
      exact hQ
theorem mulOk {i j : Int} (hi : -(2 ^ 64) < i ∧ i < 2 ^ 64) (hj : -(2 ^ 64) < j ∧ j < 2 ^ 64) : CMulW i j := wide_mul (a := 64) (b := 64) (by omega) (by omega) (by decide) (by decide) (by decide)
theorem divOk {i j : Int} (hj : 0 < j ∧ j < 2 ^ 64) : CDivW i j := wide_div (b := 64) hj.1 (by omega) (by decide) (by decide)
theorem range_eq (lo : Int) (n : Nat) : rangeD lo n = ((List.range n).map fun (k : Nat) => lo + (k : Int)).map D.int := by
  unfold rangeD; rw [List.map_map]; rfl
theorem small_line {n : Nat} (h : n ≤ 1000000) : n < sizeLine := Nat.lt_of_le_of_lt h (by decide)
end VL

set_option Elab.async false
set_option linter.all false
set_option maxRecDepth 100000
set_option maxHeartbeats 4000000
namespace VL
open PySem L2 PyProof.Rows
section
variable {P : Program} {w : World} {K : PySem.W.Frag} {mg : Str → Option Value} {base h : Heap} {C : Cn} {T : Tab} {k : Nat} {fs cs : List Str}
/-- a def that stands in the module -/
structure DefF (K : PySem.W.Frag) (mg : Str → Option Value) (x : Str) (st : Stmt) (f : Addr) (fd : FuncData) : Prop where
  F : Fun K x x st f fd
  g : mg x = some (.ref f)
theorem def_mk {x : Str} {st : Stmt} {f : Addr} {oc : Value} {od an : Option Addr} {osl : Array (Option Value)} {kV doc pm cdv ct : Value} (X : K.In h) (G : h.Ns mainGlobals mg) (a : PySem.W.nsIn K mainGlobals x = some (some (.ref f)))
    (l : K.lookup f = some ⟨oc, od, .func (PySem.W.fnOf x x (defArgs st) (defBody st) (defScope st) .none kV doc pm an cdv ct), osl⟩) (c : PySem.W.codeIn K cdv x = true) (k : PySem.W.keepIn K (.ref f) = true) : ∃ f fd, DefF K mg x st f fd :=
  ⟨f, _, fun_mk l c k, PySem.W.mg_of X G a⟩
/-- the facts of the built-ins' names -/
theorem blt_mk (X : K.In h) (G : h.Ns mainGlobals mg) (a : ∀ x ∈ bNames, PySem.W.nsIn K mainGlobals x = some none) : ∀ x ∈ bNames, mg x = none := fun x hx => PySem.W.mg_none_of X G (a x hx)
/-- the constants of values that a module without classes needs -/
def cn0 (K : PySem.W.Frag) : Cn := { cl := fun _ => none, fa := fun _ => none, kt := fun a => ∃ o, K.lookup a = some o ∧ o.cls = .type "tuple" ∧ ∀ H : Hp, SqT K H a [], ks := fun b ms => ∀ H : Hp, SqL K H b (ms.map V.int) }
theorem cn0_kt : KT (cn0 K) K := fun a h => h
def tab0 (l : List (Str × FSpec)) : Tab := { fn := fun x => l.lookup x, con := fun _ => none, mt := fun _ _ => none, sub := fun _ _ => none, subT := fun _ _ => none, subB := fun _ => none }
theorem isi0 {l : List (Str × FSpec)} : IsiK K (cn0 K) (tab0 l) := ⟨fun _ _ _ _ _ z => (nomatch z), fun _ _ _ _ z => (nomatch z), fun _ _ _ _ z => (nomatch z)⟩
theorem tk0 {l : List (Str × FSpec)} (b : ∀ x ∈ bNames, mg x = none) : Tk P w K mg base (cn0 K) (tab0 l) ⟨[], []⟩ k := ⟨cn0_kt, isi0, fun _ z => (nomatch z), fun _ z => (nomatch z), b⟩
theorem Tk.add {x : Str} {st : Stmt} {f : Addr} {fd : FuncData} {ps : List Str} {sp : FSpec} {j : Nat} (tk : Tk P w K mg base C T ⟨fs, cs⟩ j) (hj : j ≤ k) (d : DefF K mg x st f fd) (fv : FnV P w K mg base C k f fd ps sp) (ht : T.fn x = some sp) (b : Binds K fd ps []) : Tk P w K mg base C T ⟨x :: fs, cs⟩ k where
  kt := tk.kt
  isi := tk.isi
  fn := fun y hy => by
    rcases List.mem_cons.mp hy with rfl | hy
    · exact ⟨sp, f, fd, ps, ht, fv, d.g, d.F.kp, b⟩
    · obtain ⟨sp', f', fd', ps', h1, h2, h3, h4, h5⟩ := tk.fn y hy
      exact ⟨sp', f', fd', ps', h1, h2.mono hj, h3, h4, h5⟩
  con := tk.con
  blt := tk.blt
end
end VL

set_option Elab.async false
set_option linter.all false
set_option maxRecDepth 100000
set_option maxHeartbeats 4000000
namespace VL
open PySem L2
def topS (i : Nat) : Stmt := PySem.Challenge.pw_penturns_k02_primes_and_orders.main.body.getD i (.Pass ⟨0, 0, 0, 0⟩)
def lawI : Nat := 6
abbrev sDeal : Stmt := topS 6
abbrev sDraw : Stmt := topS 7
abbrev nDraw : List Str := ["_law_deal_here", "_law_many", "_law_left"]
theorem scDraw : FnScope nDraw ["_law_deal_here", "_law_many"] (defScope sDraw) := ⟨rfl, rfl, rfl, by decide +kernel, rfl, by decide +kernel, by decide +kernel⟩
section
variable {P : Program} {w : World} {K : PySem.W.Frag} {mg : Str → Option Value} {base : Heap} {C : Cn} {k : Nat}
theorem ok_draw {f : Addr} {fd : FuncData} (F : Fun K "_law_draw" "_law_draw" sDraw f fd) (mi : mg "int" = none) : FnV P w K mg base C (k + 1) f fd ["_law_deal_here", "_law_many"] drawSp := by
  refine fnV_raw F scDraw (fun ds Q E ⟨m, h, _⟩ => by rw [h]; rfl) fun code A outer s S vs ds Q E room guard wf rs hap => ?_
  obtain ⟨Q0, E0, ⟨m, rfl, m0, mlog, hQ⟩, hq, _⟩ := hap
  cases rs with
  | cons r1 rs =>
  cases rs with
  | cons r2 rs =>
  cases rs
  cases r2
  cases r1 with
  | @deal p hp =>
  refine ⟨tDraw K 48271 12820163 2147483647 8, pss_cons (ps_while (passes_of rfl) (pw_and (pt_cmpR (op_neD room.units) (pe_ix ix_list (pv 0) pe_int fun _ _ => rfl) (pe_lst pa_nil) (by rfl))
        (pw_and1 (pt_cmp (pc_eqI (pe_ix ix_list (pe_ix ix_list (pv 0) pe_int fun _ _ => rfl) (pe_un un_neg pe_int) fun _ _ => rfl) pe_int)))).pt
      (pss_one (ps_expr (pe_bm0 PySem.F.plainAttrs_list PySem.F.slot_list_pop PySem.F.type_list_pop mt_pop (pe_ix ix_list (pv 0) pe_int fun _ _ => rfl)))))
    (pss_cons (ps_if (pt_cmpR (op_neD room.units) (pe_ix ix_list (pv 0) pe_int fun _ _ => rfl) (pe_lst pa_nil) (by rfl))
      (pss_cons (ps_set (i := 2) scDraw.nd rfl (.inl rfl) (pe_bm0 PySem.F.plainAttrs_list PySem.F.slot_list_pop PySem.F.type_list_pop mt_pop (pe_ix ix_list (pv 0) pe_int fun _ _ => rfl)))
        (pss_cons (ps_expr (pe_bm PySem.F.plainAttrs_list PySem.F.slot_list_append PySem.F.type_list_append mt_append (pe_ix ix_list (pv 0) pe_int fun _ _ => rfl) (pa_cons (pe_op op_fdivW (pv 2) (pv 1)) pa_nil)))
          (pss_one (ps_ret (pe_op op_mod (pe_callTy call_int1 (by rfl) mi bb_int (pa_cons (pv 2) pa_nil)) (pv 1))))))
      pss_nil)
    (pss_cons (ps_asg (pe_op op_mod (pe_callTy call_int1 (by rfl) mi bb_int (pa_cons (pe_add (pe_mul (pe_ix ix_list (pv 0) pe_int fun _ _ => rfl) pe_int) pe_int) pa_nil)) pe_int) (pg_sub (pv 0) pe_int set_list fun _ => rfl))
    (pss_one (ps_ret (pe_op op_mod (pe_callTy call_int1 (by rfl) mi bb_int (pa_cons (pe_op op_fdivW (pe_ix ix_list (pv 0) pe_int fun _ _ => rfl) pe_int) pa_nil)) (pv 1)))))), ?_⟩
  obtain ⟨a, q⟩ := p
  exact draw_run wf hp (by decide) (by decide) m0 mlog fun r S' x r0 r1 => hq _ (hQ r r0 r1) _ S' x (.int r)

abbrev nDeal : List Str := ["_law_script", "_law_base", "_law_cells", "_law_mixed", "_law_cell"]
theorem scDeal : FnScope nDeal ["_law_script", "_law_base"] (defScope sDeal) := ⟨rfl, rfl, rfl, by decide +kernel, rfl, by decide +kernel, by decide +kernel⟩
theorem ok_deal {f : Addr} {fd : FuncData} (F : Fun K "_law_deal" "_law_deal" sDeal f fd) (mi : mg "int" = none) (ma : mg "abs" = none) (ks : ∀ b ms, C.ks b ms → ∀ H : Hp, SqL K H b (ms.map V.int)) : FnV P w K mg base C (k + 1) f fd ["_law_script", "_law_base"] dealSp := by
  refine fnV_raw F scDeal (fun ds Q E ⟨h, _⟩ => by rw [h]; rfl) fun code A outer s S vs ds Q E room guard wf rs hap => ?_
  obtain ⟨Q0, E0, ⟨rfl, hQ⟩, hq, _⟩ := hap
  cases rs with
  | cons r1 rs =>
  cases rs with
  | cons r2 rs =>
  cases rs
  cases r2
  refine ⟨tDeal K (tCB (fun xs H Q => ∃ i, xs = [.int i] ∧ Q (.int (if i < 0 then -i else i)) H) (tCons (tVar 4) tNil)) (tOp rModC (tCB rIntC (tCons (tAdd (tMul (tVar 3) (tC (.int 16807))) (tOp rModC (tCB rIntC (tCons (tVar 4) tNil)) (tC (.int 2147483629)))) tNil)) (tC (.int 2147483647))) 15485863 11, pss_cons (ps_setLc (i := 2) (own := [("_law_cell", 4)]) rfl scDeal.nd rfl rfl (sw_true rfl rfl rfl rfl) (pi_list (pe_slice sl_list (pv 0) (po_some (pv 1)) (po_some pe_int))) (blkOk_by (by rfl))
      (fun _ _ _ _ _ => pg_name (i := 4) scDeal.nd rfl (.inl rfl)) (fun _ _ _ _ _ => pts_nil) (fun _ _ _ _ _ => pe_callB call_abs (by rfl) ma bb_abs (pa_cons (pv 4) pa_nil)))
    (pss_cons (ps_set (i := 3) scDeal.nd rfl (.inl rfl) (pe_add pe_int (pe_mul pe_int (pv 1))))
    (pss_cons (ps_for (passes_of rfl) rfl (pi_list (pv 2)) (pg_name (i := 4) scDeal.nd rfl (.inl rfl))
      (pss_one (ps_set (i := 3) scDeal.nd rfl (.inl rfl) (pe_op op_mod (pe_callTy call_int1 (by rfl) mi bb_int (pa_cons (pe_add (pe_mul (pv 3) pe_int) (pe_op op_mod (pe_callTy call_int1 (by rfl) mi bb_int (pa_cons (pv 4) pa_nil)) pe_int)) pa_nil)) pe_int))))
    (pss_one (ps_ret (pe_lst (pa_cons (pe_revL (pe_lc (own := [("_law_cell", 4)]) rfl scDeal.nd (pi_list (pv 2)) (blkOk_by (by rfl))
      (fun _ _ _ _ _ => pg_name (i := 4) scDeal.nd rfl (.inl rfl)) (fun _ _ _ _ _ => pts_one (pt_cmp (pc_ge (pv 4) (pe_op op_pow pe_int pe_int)))) (fun _ _ _ _ _ => pv 4))) (pa_cons (pv 3) pa_nil))))))), ?_⟩
  refine deal_run wf ks r1 (fun σ x H R h1 h2 => ⟨_, h1, x, rfl, h2⟩) (fun σ m x H R h1 h2 b0 b1 h => ?_) (by decide) (by decide) fun v S' x r => hq _ hQ v S' x r
  refine ⟨_, h1, m, 16807, rfl, rfl, ⟨by omega, by omega⟩, _, h2, .inl ⟨x, rfl, x, 2147483629, rfl, rfl, (by decide : (0 : Int) < 2147483629), _, _, rfl, rfl, .inl ⟨_, rfl, _, 2147483647, rfl, rfl, (by decide : (0 : Int) < 2147483647), ?_⟩⟩⟩
  exact h _ (Int.emod_nonneg _ (by decide)) (Int.emod_lt_of_pos _ (by decide))
end
end VL

set_option Elab.async false
set_option linter.all false
set_option maxRecDepth 100000
set_option maxHeartbeats 4000000
namespace K02
def strip : Nat → Int → Int → Int → Int × Int
  | 0, l, _, m => (l, m)
  | f + 1, l, p, m => if l % p = 0 then strip f (l / p) p (m + 1) else (l, m)
def fin (l : Int) (acc : List (Int × Int)) : List (Int × Int) := if 1 < l then acc ++ [(l, 1)] else acc
def keepP (p : Int) (acc : List (Int × Int)) (m : Int) : List (Int × Int) := if 0 < m then acc ++ [(p, m)] else acc
def ppGo : Nat → Int → Int → List (Int × Int) → List (Int × Int)
  | 0, l, _, acc => fin l acc
  | f + 1, l, p, acc => if p * p ≤ l then (match strip l.toNat l p 0 with
      | (l', m) => ppGo f l' (p + 1) (keepP p acc m))
    else fin l acc
def pp (n : Int) : List (Int × Int) := ppGo n.toNat n 2 []
theorem strip_ok (p : Int) (hp : 2 ≤ p) : ∀ (f : Nat) (l m : Int), 1 ≤ l → l ≤ f → 1 ≤ (strip f l p m).1 ∧ (strip f l p m).1 ≤ l ∧ m ≤ (strip f l p m).2 ∧ ¬ p ∣ (strip f l p m).1 ∧ l = (strip f l p m).1 * p ^ ((strip f l p m).2 - m).toNat
  | 0, l, m, h1, h2 => by omega
  | f + 1, l, m, h1, h2 => by
    unfold strip
    by_cases h : l % p = 0
    · rw [if_pos h]
      have dv : p ∣ l := Int.dvd_of_emod_eq_zero h
      obtain ⟨c, rfl⟩ := dv
      have e : p * c / p = c := Int.mul_ediv_cancel_left c (by omega)
      rw [e]
      have hc : 1 ≤ c := by
        rcases Int.lt_or_le 0 c with z | z
        · exact z
        · have : p * c ≤ 0 := Int.mul_nonpos_of_nonneg_of_nonpos (by omega) z
          omega
      have hlt : c < p * c := by
        have : 2 * c ≤ p * c := Int.mul_le_mul_of_nonneg_right hp (by omega)
        omega
      obtain ⟨i1, i2, i3, i4, i5⟩ := strip_ok p hp f c (m + 1) hc (by omega)
      refine ⟨i1, by omega, by omega, i4, ?_⟩
      have en : ((strip f c p (m + 1)).2 - m).toNat = ((strip f c p (m + 1)).2 - (m + 1)).toNat + 1 := by omega
      rw [en, Int.pow_succ, ← Int.mul_assoc, ← i5, Int.mul_comm]
    · rw [if_neg h]
      refine ⟨h1, Int.le_refl _, Int.le_refl _, fun z => h (Int.emod_eq_zero_of_dvd z), ?_⟩
      show l = l * p ^ (m - m).toNat
      rw [Int.sub_self]
      show l = l * p ^ 0
      rw [Int.pow_zero, Int.mul_one]
def prodP : List (Int × Int) → Int
  | [] => 1
  | (p, m) :: r => p ^ m.toNat * prodP r
theorem prodP_append : ∀ a b, prodP (a ++ b) = prodP a * prodP b
  | [], b => by show prodP b = 1 * prodP b; rw [Int.one_mul]
  | (p, m) :: a, b => by
    show p ^ m.toNat * prodP (a ++ b) = p ^ m.toNat * prodP a * prodP b
    rw [prodP_append a b, Int.mul_assoc]
/-- a prime with an exponent -/
structure Gd (x : Int × Int) : Prop where
  two : 2 ≤ x.1
  one : 1 ≤ x.2
  pr : ∀ d : Int, 2 ≤ d → d * d ≤ x.1 → ¬ d ∣ x.1
structure PF (n : Int) (r : List (Int × Int)) : Prop where
  gd : ∀ x ∈ r, Gd x
  asc : r.Pairwise fun a b => a.1 < b.1
  prod : prodP r = n
theorem sq_lt {d p l : Int} (h0 : 0 ≤ p) (h1 : d * d ≤ l) (h2 : l < p * p) : d < p := by
  rcases Int.lt_or_le d p with z | z
  · exact z
  · have : p * p ≤ d * d := Int.mul_le_mul z z h0 (by omega)
    omega
theorem fin_ok {l p c : Int} {acc : List (Int × Int)} (hp : 2 ≤ p) (hl : 1 ≤ l) (hn : l < p * p) (nd : ∀ d : Int, 2 ≤ d → d < p → ¬ d ∣ l) (ga : ∀ x ∈ acc, Gd x ∧ x.1 < p) (asc : acc.Pairwise fun a b => a.1 < b.1) (hc : prodP acc * l = c) : PF c (fin l acc) := by
  unfold fin
  by_cases h : 1 < l
  · rw [if_pos h]
    have hpl : p ≤ l := by
      rcases Int.lt_or_le l p with z | z
      · exact absurd (Int.dvd_refl l) (nd l (by omega) z)
      · exact z
    refine ⟨fun x hx => ?_, ?_, ?_⟩
    · rcases List.mem_append.mp hx with z | z
      · exact (ga x z).1
      · obtain rfl : x = (l, 1) := by simpa using z
        exact ⟨by show 2 ≤ l; omega, by show (1 : Int) ≤ 1; omega, fun d h2 hd => nd d h2 (sq_lt (by omega) hd hn)⟩
    · rw [List.pairwise_append]
      refine ⟨asc, List.pairwise_singleton _ _, fun a ha b hb => ?_⟩
      obtain rfl : b = (l, 1) := by simpa using hb
      have := (ga a ha).2
      show a.1 < l
      omega
    · rw [prodP_append]
      show prodP acc * (l ^ (1 : Int).toNat * 1) = c
      rw [Int.mul_one, show l ^ (1 : Int).toNat = l from by show l ^ 1 = l; rw [Int.pow_succ, Int.pow_zero, Int.one_mul], hc]
  · rw [if_neg h]
    have : l = 1 := by omega
    subst this
    exact ⟨fun x hx => (ga x hx).1, asc, by rw [← hc, Int.mul_one]⟩
theorem ppGo_ok : ∀ (f : Nat) (l p c : Int) (acc : List (Int × Int)), 2 ≤ p → 1 ≤ l → l + 1 - p ≤ f → (∀ d : Int, 2 ≤ d → d < p → ¬ d ∣ l) → (∀ x ∈ acc, Gd x ∧ x.1 < p) → acc.Pairwise (fun a b => a.1 < b.1) → prodP acc * l = c → PF c (ppGo f l p acc)
  | 0, l, p, c, acc, hp, hl, hf, nd, ga, asc, hc => by
    refine fin_ok hp hl ?_ nd ga asc hc
    have : 2 * p ≤ p * p := Int.mul_le_mul_of_nonneg_right hp (by omega)
    omega
  | f + 1, l, p, c, acc, hp, hl, hf, nd, ga, asc, hc => by
    unfold ppGo
    by_cases h : p * p ≤ l
    · rw [if_pos h]
      have so := strip_ok p hp l.toNat l 0 hl (by omega)
      cases e : strip l.toNat l p 0 with
      | mk l' m =>
        rw [e] at so
        obtain ⟨i1, i2, i3, i4, i5⟩ := so
        have i1 : 1 ≤ l' := i1
        have i2 : l' ≤ l := i2
        have i3 : 0 ≤ m := i3
        have i4 : ¬ p ∣ l' := i4
        have i5 : l = l' * p ^ (m - 0).toNat := i5
        rw [Int.sub_zero] at i5
        have dl : l' ∣ l := ⟨_, i5⟩
        show PF c (ppGo f l' (p + 1) (keepP p acc m))
        refine ppGo_ok f l' (p + 1) c _ (by omega) i1 (by omega) (fun d h2 hd z => ?_) (fun x hx => ?_) ?_ ?_
        · by_cases ed : d = p
          · subst ed; exact i4 z
          · exact nd d h2 (by omega) (Int.dvd_trans z dl)
        · unfold keepP at hx
          by_cases hm : 0 < m
          · rw [if_pos hm] at hx
            rcases List.mem_append.mp hx with z | z
            · exact ⟨(ga x z).1, by have := (ga x z).2; omega⟩
            · obtain rfl : x = (p, m) := by simpa using z
              refine ⟨⟨hp, by show 1 ≤ m; omega, fun d h2 hd z => ?_⟩, by show p < p + 1; omega⟩
              have z : d ∣ p := z
              have hd : d * d ≤ p := hd
              have : 2 * d ≤ d * d := Int.mul_le_mul_of_nonneg_right h2 (by omega)
              have pl : p ∣ l := by
                have em : m.toNat = (m.toNat - 1) + 1 := by omega
                rw [em, Int.pow_succ] at i5
                exact ⟨l' * p ^ (m.toNat - 1), by rw [i5, ← Int.mul_assoc, Int.mul_comm]⟩
              exact nd d h2 (by omega) (Int.dvd_trans z pl)
          · rw [if_neg hm] at hx
            exact ⟨(ga x hx).1, by have := (ga x hx).2; omega⟩
        · unfold keepP
          by_cases hm : 0 < m
          · rw [if_pos hm, List.pairwise_append]
            refine ⟨asc, List.pairwise_singleton _ _, fun a ha b hb => ?_⟩
            obtain rfl : b = (p, m) := by simpa using hb
            exact (ga a ha).2
          · rw [if_neg hm]; exact asc
        · unfold keepP
          by_cases hm : 0 < m
          · rw [if_pos hm, prodP_append]
            show prodP acc * (p ^ m.toNat * 1) * l' = c
            rw [Int.mul_one, Int.mul_assoc, Int.mul_comm (p ^ m.toNat) l', ← i5]
            exact hc
          · rw [if_neg hm]
            have : m = 0 := by omega
            subst this
            have : l = l' := by rw [i5]; show l' * p ^ 0 = l'; rw [Int.pow_zero, Int.mul_one]
            rw [← this]
            exact hc
    · rw [if_neg h]
      exact fin_ok hp hl (by omega) nd ga asc hc
theorem pp_ok {n : Int} (h : 1 ≤ n) : PF n (pp n) := ppGo_ok n.toNat n 2 n [] (by omega) h (by omega) (fun d h2 hd => by omega) (fun x hx => nomatch hx) List.Pairwise.nil (by show 1 * n = n; rw [Int.one_mul])
/-! phi -/
def phiF : List (Int × Int) → Int → Int
  | [], f => f
  | (p, _) :: r, f => phiF r (f / p * (p - 1))
def cnt : List (Int × Int) → Int
  | [] => 1
  | (p, m) :: r => (p - 1) * p ^ (m - 1).toNat * cnt r
def phi (n : Int) : Int := phiF (pp n) n
theorem phiF_eq : ∀ (r : List (Int × Int)) (c : Int), (∀ x ∈ r, Gd x) → phiF r (c * prodP r) = c * cnt r
  | [], c, _ => rfl
  | (p, m) :: r, c, h => by
    have g := h (p, m) (List.mem_cons_self ..)
    have g2 : 2 ≤ p := g.two
    have g1 : 1 ≤ m := g.one
    show phiF r (c * (p ^ m.toNat * prodP r) / p * (p - 1)) = c * ((p - 1) * p ^ (m - 1).toNat * cnt r)
    have em : m.toNat = (m - 1).toNat + 1 := by omega
    have e1 : c * (p ^ m.toNat * prodP r) = p * (c * (p ^ (m - 1).toNat * prodP r)) := by
      rw [em, Int.pow_succ, Int.mul_comm (p ^ (m - 1).toNat) p, Int.mul_assoc p, ← Int.mul_assoc c p, Int.mul_comm c p, Int.mul_assoc]
    rw [e1, Int.mul_ediv_cancel_left _ (by omega : p ≠ 0)]
    have e2 : c * (p ^ (m - 1).toNat * prodP r) * (p - 1) = (c * ((p - 1) * p ^ (m - 1).toNat)) * prodP r := by
      rw [Int.mul_assoc, Int.mul_assoc, Int.mul_comm (prodP r) (p - 1), ← Int.mul_assoc (p ^ (m - 1).toNat), Int.mul_comm (p ^ (m - 1).toNat) (p - 1), Int.mul_assoc c]
    rw [e2, phiF_eq r _ fun x hx => h x (List.mem_cons_of_mem _ hx), Int.mul_assoc c]
theorem phi_eq {n : Int} (h : 1 ≤ n) : phi n = cnt (pp n) := by
  have o := pp_ok h
  have := phiF_eq (pp n) 1 o.gd
  rw [o.prod, Int.one_mul, Int.one_mul] at this
  exact this
end K02

set_option Elab.async false
set_option linter.all false
set_option maxRecDepth 100000
set_option maxHeartbeats 4000000
namespace VL
open PySem L2 K02
theorem satc {T : Tab} {f : Str} {sp : FSpec} {ds : List D} {Q : D → Prop} {X : Exc → Prop} (h : T.fn f = some sp) (k : sp ds Q X) : sat (T.fn f) fun sp => ap sp ds Q X := by rw [h]; exact ap_of k
def prD (x : Int × Int) : D := .tup [.int x.1, .int x.2]
abbrev vI' (i : Int) : Option W := some (.val (.int i))
/-! prime_parts -/
def ppSp : FSpec := fun ds Q _ => ∃ n : Int, ds = [.int n] ∧ 1 ≤ n ∧ n ≤ 1000000000 ∧ Q (.tup ((pp n).map prD))
abbrev nPP : List Str := ["number", "left", "prime", "found", "many"]
def mPP : S := (.seq (.par 1 2 (.var 0) (.int 2))
  (.seq (.set 3 (.lst .nil))
  (.seq (.whl (.cmp .LtE (.bin .Mult (.bor 2) (.bor 2)) (.bor 1)) (.seq (.set 4 (.int 0))
  (.seq (.whl (.cmp .Eq (.bin .Mod (.bcall .int (.cons (.bor 1) .nil)) (.bor 2)) (.int 0)) (.seq (.set 1 (.bin .FloorDiv (.bor 1) (.bor 2)))
  (.seq (.set 4 (.bin .Add (.bor 4) (.int 1)))
  .skip)))
  (.seq (.ite (.cmp .Gt (.bor 4) (.int 0)) (.seq (.expr (.app 3 (.tup (.cons (.var 2) (.cons (.var 4) .nil)))))
  .skip) .skip)
  (.seq (.set 2 (.bin .Add (.bor 2) (.int 1)))
  .skip)))))
  (.seq (.ite (.cmp .Gt (.bor 1) (.int 1)) (.seq (.expr (.app 3 (.tup (.cons (.var 1) (.cons (.int 1) .nil)))))
  .skip) .skip)
  (.seq (.ret (.bcall .tuple (.cons (.bor 3) .nil)))
  .skip)))))
theorem lt4 {p : Int} (h0 : 0 ≤ p) (h : p * p ≤ 1000000000) : p < 40000 := sq_lt (p := 40000) (l := 1000000000) (by omega) h (by decide)
theorem ppGo_end {f : Nat} {l p : Int} {acc : List (Int × Int)} (h : ¬ p * p ≤ l) : ppGo f l p acc = fin l acc := by
  cases f with
  | zero => rfl
  | succ f => show (if p * p ≤ l then _ else fin l acc) = _; rw [if_neg h]
theorem v_pp {T : Tab} {ds : List D} {Q : D → Prop} {E : Exc → Prop} (h : ppSp ds Q E) : wpS T mPP (startE nPP ds) (bodyPost Q E) := by
  obtain ⟨n, rfl, n1, n9, hQ⟩ := h
  refine ⟨Nat.zero_le _, fun f e => ∃ l p acc y, e = [vI' n, vI' l, vI' p, some (.own (.lst (acc.map prD))), y] ∧ 2 ≤ p ∧ 1 ≤ l ∧ l ≤ n ∧ l + 1 - p ≤ f ∧ ppGo f l p acc = pp n ∧ (acc.length : Int) + 2 ≤ p ∧ p ≤ 40000,
    ⟨n.toNat, n, 2, [], none, rfl, by omega, n1, Int.le_refl _, by omega, rfl, by decide, by decide⟩, ?_⟩
  rintro f e ⟨l, p, acc, y, rfl, p2, l1, ln, lf, hgo, hacc, p4⟩
  refine ⟨mulOk (by omega) (by omega), trivial, brD (fun h => ?_) fun h => ?_⟩
  · have h : p * p ≤ l := h
    have hp4 := lt4 (by omega) (by omega : p * p ≤ 1000000000)
    have pp2 : 2 * p ≤ p * p := Int.mul_le_mul_of_nonneg_right p2 (by omega)
    cases f with
    | zero => omega
    | succ f =>
    have so := strip_ok p p2 l.toNat l 0 l1 (by omega)
    refine ⟨fun g e => ∃ l' m, e = [vI' n, vI' l', vI' p, some (.own (.lst (acc.map prD))), vI' m] ∧ 1 ≤ l' ∧ l' ≤ l ∧ l' ≤ g ∧ strip g l' p m = strip l.toNat l p 0, ⟨l.toNat, l, 0, rfl, l1, Int.le_refl _, by omega, rfl⟩, ?_⟩
    rintro g e ⟨l', m, rfl, k1, k2, k3, k4⟩
    refine ⟨trivial, (by omega : 0 < p), trivial, brD (fun hz => ?_) fun hz => ?_⟩
    · cases g with
      | zero => omega
      | succ g =>
      obtain ⟨c, rfl⟩ := Int.dvd_of_emod_eq_zero hz
      have ec : p * c / p = c := Int.mul_ediv_cancel_left c (by omega)
      have c1 : 1 ≤ c := by
        rcases Int.lt_or_le 0 c with z | z
        · exact z
        · have : p * c ≤ 0 := Int.mul_nonpos_of_nonneg_of_nonpos (by omega) z
          omega
      have c2 : 2 * c ≤ p * c := Int.mul_le_mul_of_nonneg_right p2 (by omega)
      refine ⟨divOk (by omega), trivial, g, Nat.lt_succ_self g, p * c / p, m + 1, rfl, by rw [ec]; exact c1, by rw [ec]; omega, by rw [ec]; omega, ?_⟩
      rw [← k4]
      show _ = (if p * c % p = 0 then _ else _)
      rw [if_pos hz]
    · have es : strip g l' p m = (l', m) := by
        cases g with
        | zero => rfl
        | succ g => show (if l' % p = 0 then _ else _) = _; rw [if_neg hz]
      rw [es] at k4
      rw [← k4] at so
      have m0 : 0 ≤ m := so.2.2.1
      have go : ppGo f l' (p + 1) (keepP p acc m) = pp n := by
        rw [← hgo]
        show _ = (if p * p ≤ l then (match strip l.toNat l p 0 with
          | (l', m) => ppGo f l' (p + 1) (keepP p acc m)) else _)
        rw [if_pos h, ← k4]
      refine ⟨trivial, brD (fun hm => ?_) fun hm => ?_⟩
      · refine ⟨two_le, small_line (by rw [List.length_map]; omega), trivial, f, Nat.lt_succ_self f, l', p + 1, acc ++ [(p, m)], _, by rw [List.map_append]; rfl, by omega, k1, by omega, by omega, ?_, by rw [List.length_append]; simp; omega, by omega⟩
        unfold keepP at go
        rw [if_pos hm] at go
        exact go
      · refine ⟨trivial, f, Nat.lt_succ_self f, l', p + 1, acc, _, rfl, by omega, k1, by omega, by omega, ?_, by omega, by omega⟩
        unfold keepP at go
        rw [if_neg hm] at go
        exact go
  · have h : ¬ p * p ≤ l := h
    rw [ppGo_end h] at hgo
    unfold fin at hgo
    refine ⟨trivial, brD (fun hm => ?_) fun hm => ?_⟩
    · rw [if_pos hm] at hgo
      refine ⟨two_le, small_line (by rw [List.length_map]; omega), trivial, ?_⟩
      rw [← hgo, List.map_append] at hQ
      exact hQ
    · rw [if_neg hm] at hgo
      refine ⟨trivial, ?_⟩
      rw [← hgo] at hQ
      exact hQ
end VL

set_option Elab.async false
set_option linter.all false
set_option maxRecDepth 100000
set_option maxHeartbeats 4000000
namespace VL
open PySem L2 K02
/-! phi -/
def phiSp : FSpec := fun ds Q _ => ∃ n : Int, ds = [.int n] ∧ 1 ≤ n ∧ n ≤ 1000000000 ∧ Q (.int (phi n))
abbrev nPhi : List Str := ["number", "found", "prime", "many"]
def mPhi : S := (.seq (.set 1 (.var 0))
  (.seq (.forr [2, 3] false (.call "prime_parts" (.cons (.var 0) .nil)) (.seq (.set 1 (.bin .Mult (.bin .FloorDiv (.bor 1) (.bor 2)) (.bin .Sub (.bor 2) (.int 1))))
  .skip))
  (.seq (.ret (.var 1))
  .skip)))
theorem phiF_append : ∀ (a b : List (Int × Int)) (c : Int), phiF (a ++ b) c = phiF b (phiF a c)
  | [], b, c => rfl
  | (p, m) :: a, b, c => phiF_append a b _
theorem div_step {c p : Int} (hc : 0 ≤ c) (hp : 2 ≤ p) : 0 ≤ c / p * (p - 1) ∧ c / p * (p - 1) ≤ c := by
  have h0 : 0 ≤ c / p := Int.ediv_nonneg hc (by omega)
  have h1 : c / p * p ≤ c := Int.ediv_mul_le c (by omega)
  have h2 : c / p * (p - 1) ≤ c / p * p := Int.mul_le_mul_of_nonneg_left (by omega) h0
  exact ⟨Int.mul_nonneg h0 (by omega), by omega⟩
theorem phiF_le : ∀ (a : List (Int × Int)) (c : Int), 0 ≤ c → (∀ x ∈ a, 2 ≤ x.1) → 0 ≤ phiF a c ∧ phiF a c ≤ c
  | [], c, h, _ => ⟨h, Int.le_refl _⟩
  | (p, m) :: a, c, h, hp => by
    obtain ⟨d0, d1⟩ := div_step (p := p) h (hp (p, m) (List.mem_cons_self ..))
    obtain ⟨e0, e1⟩ := phiF_le a (c / p * (p - 1)) d0 fun x hx => hp x (List.mem_cons_of_mem _ hx)
    exact ⟨e0, Int.le_trans e1 d1⟩
theorem prod_pos : ∀ {r : List (Int × Int)}, (∀ x ∈ r, 2 ≤ x.1) → 1 ≤ prodP r
  | [], _ => Int.le_refl _
  | (p, m) :: r, h => by
    have h1 := prod_pos (r := r) fun x hx => h x (List.mem_cons_of_mem _ hx)
    have h2 : 2 ≤ p := h (p, m) (List.mem_cons_self ..)
    have h3 : 0 < p ^ m.toNat := Int.pow_pos (by omega)
    show 1 ≤ p ^ m.toNat * prodP r
    have := Int.mul_pos h3 (by omega : 0 < prodP r)
    omega
/-- the primes are no greater than the number -/
theorem le_prod : ∀ {r : List (Int × Int)}, (∀ x ∈ r, Gd x) → ∀ x ∈ r, x.1 ^ x.2.toNat ≤ prodP r
  | [], _, x, hx => nomatch hx
  | (p, m) :: r, h, x, hx => by
    have h1 := prod_pos (r := r) fun x hx => (h x (List.mem_cons_of_mem _ hx)).two
    have h2 : 2 ≤ p := (h (p, m) (List.mem_cons_self ..)).two
    have h3 : 0 < p ^ m.toNat := Int.pow_pos (by omega)
    show x.1 ^ x.2.toNat ≤ p ^ m.toNat * prodP r
    rcases List.mem_cons.mp hx with rfl | hx
    · have := Int.mul_le_mul_of_nonneg_left h1 (Int.le_of_lt h3)
      rw [Int.mul_one] at this
      exact this
    · have i := le_prod (fun x hx => h x (List.mem_cons_of_mem _ hx)) x hx
      have := Int.mul_le_mul_of_nonneg_right (show 1 ≤ p ^ m.toNat by omega) (show 0 ≤ prodP r by omega)
      rw [Int.one_mul] at this
      omega
theorem le_pow {p : Int} (h : 2 ≤ p) : ∀ {k : Nat}, 1 ≤ k → p ≤ p ^ k ∧ (k : Int) ≤ p ^ k
  | 1, _ => by rw [Int.pow_succ, Int.pow_zero, Int.one_mul]; omega
  | k + 2, _ => by
    obtain ⟨h1, h2⟩ := le_pow h (k := k + 1) (by omega)
    rw [Int.pow_succ p (k + 1)]
    have := Int.mul_le_mul_of_nonneg_left h (show 0 ≤ p ^ (k + 1) by omega)
    omega
theorem pp_le {n : Int} (h : 1 ≤ n) {x : Int × Int} (hx : x ∈ pp n) : 2 ≤ x.1 ∧ x.1 ≤ n ∧ 1 ≤ x.2 ∧ x.2 ≤ n := by
  have o := pp_ok h
  have g := o.gd x hx
  have l := le_prod o.gd x hx
  rw [o.prod] at l
  have g1 := g.one
  obtain ⟨a, b⟩ := le_pow g.two (k := x.2.toNat) (by omega)
  exact ⟨g.two, by omega, g.one, by omega⟩
theorem mem_split {α : Type} {xs pre suf : List α} {x : α} (h : xs = pre ++ x :: suf) : x ∈ xs ∧ ∀ y ∈ pre, y ∈ xs := by
  subst h
  exact ⟨by simp, fun y hy => by simp [hy]⟩
theorem v_phi {T : Tab} (hpp : T.fn "prime_parts" = some ppSp) {ds : List D} {Q : D → Prop} {E : Exc → Prop} (h : phiSp ds Q E) : wpS T mPhi (startE nPhi ds) (bodyPost Q E) := by
  obtain ⟨n, rfl, n1, n9, hQ⟩ := h
  refine satc hpp ⟨n, rfl, n1, n9, trivial, ?_⟩
  refine forL_pre (pp n) (fun pre e => ∃ y z, e = [vI' n, vI' (phiF pre n), y, z]) ⟨none, none, rfl⟩ ?_ ?_
  · rintro pre x suf e k hx ⟨y, z, rfl⟩ hk
    obtain ⟨m1, m2⟩ := mem_split hx
    obtain ⟨b1, b2, _, _⟩ := pp_le n1 m1
    obtain ⟨c1, c2⟩ := phiF_le pre n (by omega) fun x hx => (pp_le n1 (m2 x hx)).1
    have d0 : 0 ≤ phiF pre n / x.1 := Int.ediv_nonneg c1 (by omega)
    have d1 : phiF pre n / x.1 ≤ phiF pre n := Int.ediv_le_self _ c1
    refine ⟨rfl, divOk (by omega), trivial, mulOk (i := phiF pre n / x.1) (j := x.1 - 1) (by omega) (by omega), hk _ ⟨vI' x.1, vI' x.2, by rw [phiF_append]; rfl⟩⟩
  · rintro e ⟨y, z, rfl⟩
    exact hQ
/-! _law_is_prime -/
def primeSp : FSpec := fun ds Q _ => ∃ n : Int, ds = [.int n] ∧ 2 ≤ n ∧ n ≤ 1000000000 ∧ (∀ d : Int, 2 ≤ d → d * d ≤ n → ¬ d ∣ n) ∧ Q (.bl true)
abbrev nPrime : List Str := ["_law_number_here", "_law_divisor"]
def mPrime : S := (.seq (.set 1 (.int 2))
  (.seq (.whl (.cmp .LtE (.bin .Mult (.bor 1) (.bor 1)) (.bor 0)) (.seq (.ite (.cmp .Eq (.bin .Mod (.bcall .int (.cons (.bor 0) .nil)) (.bor 1)) (.int 0)) (.seq (.ret (.bl false))
  .skip) .skip)
  (.seq (.set 1 (.bin .Add (.bor 1) (.int 1)))
  .skip)))
  (.seq (.ret (.cmp .Gt (.bor 0) (.int 1)))
  .skip)))
theorem v_prime {T : Tab} {ds : List D} {Q : D → Prop} {E : Exc → Prop} (h : primeSp ds Q E) : wpS T mPrime (startE nPrime ds) (bodyPost Q E) := by
  obtain ⟨n, rfl, n1, n9, hp, hQ⟩ := h
  refine ⟨fun f e => ∃ d, e = [vI' n, vI' d] ∧ 2 ≤ d ∧ d ≤ 40000 ∧ (40000 - d).toNat = f, ⟨_, 2, rfl, by decide, by decide, rfl⟩, ?_⟩
  rintro f e ⟨d, rfl, d2, d4, hf⟩
  refine ⟨mulOk (by omega) (by omega), trivial, brD (fun h => ?_) fun h => ?_⟩
  · have h : d * d ≤ n := h
    have := lt4 (by omega) (by omega : d * d ≤ 1000000000)
    refine ⟨trivial, (by omega : 0 < d), trivial, brD (fun hz => ?_) fun hz => ?_⟩
    · exact absurd (Int.dvd_of_emod_eq_zero hz) (hp d d2 h)
    · exact ⟨trivial, _, (by omega : (40000 - (d + 1)).toNat < f), d + 1, rfl, by omega, by omega, rfl⟩
  · refine ⟨trivial, ?_⟩
    have e : decide (1 < n) = true := decide_eq_true (by omega)
    show Q (.bl (decide (1 < n)))
    rw [e]
    exact hQ
/-! _law_common -/
def comSp : FSpec := fun ds Q _ => ∃ a b : Nat, ds = [.int a, .int b] ∧ Q (.int (Nat.gcd a b : Nat))
abbrev nCom : List Str := ["_law_one", "_law_other"]
def mCom : S := (.seq (.whl (.cmp .Gt (.bor 1) (.int 0)) (.seq (.par 0 1 (.var 1) (.bin .Mod (.bcall .int (.cons (.bor 0) .nil)) (.bor 1)))
  .skip))
  (.seq (.ret (.var 0))
  .skip))
theorem v_com {T : Tab} {ds : List D} {Q : D → Prop} {E : Exc → Prop} (h : comSp ds Q E) : wpS T mCom (startE nCom ds) (bodyPost Q E) := by
  obtain ⟨a, b, rfl, hQ⟩ := h
  refine ⟨fun f e => ∃ x y : Nat, e = [vI' x, vI' y] ∧ Nat.gcd x y = Nat.gcd a b ∧ y = f, ⟨_, a, b, rfl, rfl, rfl⟩, ?_⟩
  rintro f e ⟨x, y, rfl, hg, rfl⟩
  refine ⟨trivial, brD (fun h => ?_) fun h => ?_⟩
  · have h : 0 < y := by have h : (0 : Int) < (y : Int) := h; omega
    refine ⟨trivial, (by omega : (0 : Int) < (y : Int)), x % y, Nat.mod_lt _ h, y, x % y, rfl, ?_, rfl⟩
    rw [← hg, Nat.gcd_comm x y, Nat.gcd_rec y x, Nat.gcd_comm]
  · have h : y = 0 := by have h : ¬ (0 : Int) < (y : Int) := h; omega
    subst h
    rw [Nat.gcd_zero_right] at hg
    show Q (.int (x : Nat))
    rw [hg]
    exact hQ
end VL

set_option Elab.async false
set_option linter.all false
set_option maxRecDepth 100000
set_option maxHeartbeats 4000000
namespace VL
open PySem L2 K02
theorem satIx {xs : List D} {i : Int} {d : D} {Q : D → Prop} (h : atI xs i = some d) (k : Q d) : sat2 (vIdx (.lst xs) (.int i)) Q := by
  show sat2 ((atI xs i).map fun d => (True, d)) Q
  rw [h]; exact ⟨trivial, k⟩
theorem atI_in {α : Type} {xs : List α} {i : Int} (h0 : 0 ≤ i) (h1 : i < xs.length) : ∃ x ∈ xs, atI xs i = some x := by
  have hl : i.toNat < xs.length := by omega
  refine ⟨xs[i.toNat], List.getElem_mem hl, ?_⟩
  unfold atI ixN
  rw [if_pos h0, if_pos h1]
  exact List.getElem?_eq_getElem hl
theorem len_log {n : Nat} (h : n ≤ 1000000) : ((n : Int)).natAbs.log2 < 9000 := log2_small (by omega)
/-! _law_pick -/
def pickSp : FSpec := fun ds Q _ => ∃ xs : List D, ds = [.deal, .lst xs] ∧ 0 < xs.length ∧ xs.length ≤ 1000000 ∧ ∀ x ∈ xs, Q x
abbrev nPick : List Str := ["_law_deal_here", "_law_some"]
def mPick : S := (.seq (.ret (.idx (.bor 1) (.call "_law_draw" (.cons (.var 0) (.cons (.bcall .len (.cons (.bor 1) .nil)) .nil)))))
  .skip)
theorem v_pick {T : Tab} (hd : T.fn "_law_draw" = some drawSp) {ds : List D} {Q : D → Prop} {E : Exc → Prop} (h : pickSp ds Q E) : wpS T mPick (startE nPick ds) (bodyPost Q E) := by
  obtain ⟨xs, rfl, h0, h1, hQ⟩ := h
  refine ⟨trivial, satc hd ⟨_, rfl, Int.natCast_pos.mpr h0, len_log h1, fun r r0 r1 => ?_⟩⟩
  obtain ⟨x, hx, hi⟩ := atI_in r0 r1
  exact satIx hi (hQ x hx)
/-! _law_number -/
def numSp : FSpec := fun ds Q _ => ds = [.deal] ∧ ∀ n : Int, 1 ≤ n → n ≤ 1000000000 → Q (.int n)
abbrev nNum : List Str := ["_law_deal_here", "_law_found", "_law_turn", "_law_prime"]
def mNum : S := (.seq (.ite (.cmp .Eq (.call "_law_draw" (.cons (.var 0) (.cons (.int 4) .nil))) (.int 0)) (.seq (.ret (.bin .Add (.int 1) (.call "_law_draw" (.cons (.var 0) (.cons (.bin .Pow (.int 10) (.int 9)) .nil)))))
  .skip) .skip)
  (.seq (.set 1 (.int 1))
  (.seq (.forr [2] true (.rng1 (.call "_law_draw" (.cons (.var 0) (.cons (.int 8) .nil)))) (.seq (.set 3 (.call "_law_pick" (.cons (.var 0) (.cons (.lst (.cons (.int 2) (.cons (.int 2) (.cons (.int 3) (.cons (.int 3) (.cons (.int 5) (.cons (.int 7) (.cons (.int 11) (.cons (.int 13) (.cons (.int 97) (.cons (.int 997) (.cons (.int 31607) .nil)))))))))))) .nil))))
  (.seq (.set 1 (.ife (.cmp .LtE (.bin .Mult (.bor 1) (.bor 3)) (.bin .Pow (.int 10) (.int 9))) (.bin .Mult (.bor 1) (.bor 3)) (.var 1)))
  .skip)))
  (.seq (.ret (.var 1))
  .skip))))
theorem drawOk {T : Tab} (hd : T.fn "_law_draw" = some drawSp) {m : Int} {Q : D → Prop} {X : Exc → Prop} (h0 : 0 < m) (h1 : m < 2 ^ 64) (k : ∀ r : Int, 0 ≤ r → r < m → Q (.int r)) : sat (T.fn "_law_draw") fun sp => ap sp [.deal, .int m] Q X :=
  satc hd ⟨m, rfl, h0, log2_small (by omega), k⟩
theorem ints_mem {x : D} {ns : List Int} (h : x ∈ ns.map D.int) : ∃ p ∈ ns, x = .int p := by
  obtain ⟨p, hp, rfl⟩ := List.mem_map.mp h
  exact ⟨p, hp, rfl⟩
theorem cpow9 : CPow 10 9 := ⟨by decide, by decide, by decide⟩
theorem v_num {T : Tab} (hd : T.fn "_law_draw" = some drawSp) (hp : T.fn "_law_pick" = some pickSp) {ds : List D} {Q : D → Prop} {E : Exc → Prop} (h : numSp ds Q E) : wpS T mNum (startE nNum ds) (bodyPost Q E) := by
  obtain ⟨rfl, hQ⟩ := h
  refine drawOk hd (by decide) (by decide) fun r r0 r1 => ⟨trivial, brD (fun hr => ?_) fun hr => ?_⟩
  · refine ⟨cpow9, drawOk hd (by decide) (by decide) fun r r0 r1 => ⟨trivial, ?_⟩⟩
    have r1 : r < 1000000000 := r1
    exact hQ (1 + r) (by omega) (by omega)
  · refine drawOk hd (by decide) (by decide) fun r r0 r1 => ?_
    refine ⟨⟨by omega, by omega⟩, Nat.le_of_lt (small_line (by omega)), ?_⟩
    refine forL_pre (List.range r.toNat) (fun pre e => ∃ f y z, e = [some (.val .deal), vI' f, y, z] ∧ 1 ≤ f ∧ f ≤ 1000000000) ⟨1, none, none, rfl, by decide, by decide⟩ ?_ ?_
    · rintro pre x suf e k hx ⟨f, y, z, rfl, f1, f9⟩ hk
      refine ⟨Nat.le_of_lt (small_line (by decide)), satc hp ⟨_, rfl, by decide, by decide, fun d hd => ?_⟩⟩
      obtain ⟨p, hp, rfl⟩ := ints_mem (ns := [2, 2, 3, 3, 5, 7, 11, 13, 97, 997, 31607]) hd
      have hp : 2 ≤ p ∧ p ≤ 31607 := (by decide : ∀ p ∈ ([2, 2, 3, 3, 5, 7, 11, 13, 97, 997, 31607] : List Int), 2 ≤ p ∧ p ≤ 31607) p hp
      have mo : CMulW f p := mulOk (by omega) (by omega)
      refine ⟨mo, cpow9, trivial, brD (fun hl => ?_) fun hl => ?_⟩
      · have hl : f * p ≤ 1000000000 := hl
        have : 1 ≤ f * p := by
          have := Int.mul_pos (by omega : 0 < f) (by omega : 0 < p)
          omega
        exact ⟨mo, hk _ ⟨f * p, vI' (0 + x), vI' p, rfl, this, hl⟩⟩
      · exact hk _ ⟨f, vI' (0 + x), vI' p, rfl, f1, f9⟩
    · rintro e ⟨f, y, z, rfl, f1, f9⟩
      exact hQ f f1 f9
/-! _law_product -/
def prodSp : FSpec := fun ds Q _ => ∃ r : List (Int × Int), ds = [.tup (r.map prD)] ∧ (∀ x ∈ r, Gd x) ∧ prodP r ≤ 1000000000 ∧ Q (.tup [.int (prodP r), .int (cnt r)])
abbrev nProd : List Str := ["_law_pairs", "_law_found", "_law_count", "_law_prime", "_law_many", "_law_turn"]
def mProd : S := (.seq (.unp [1, 2] (.tup (.cons (.int 1) (.cons (.int 1) .nil))))
  (.seq (.forr [3, 4] false (.var 0) (.seq (.set 2 (.bin .Mult (.bor 2) (.bin .Sub (.bor 3) (.int 1))))
  (.seq (.forr [5] true (.rng1 (.bor 4)) (.seq (.par 1 2 (.bin .Mult (.bor 1) (.bor 3)) (.bin .Mult (.bor 2) (.ife (.cmp .Gt (.bor 5) (.int 0)) (.bor 3) (.int 1))))
  .skip))
  .skip)))
  (.seq (.ret (.tup (.cons (.var 1) (.cons (.var 2) .nil))))
  .skip)))
theorem range_split {n x : Nat} {pre suf : List Nat} (h : List.range n = pre ++ x :: suf) : x = pre.length ∧ x < n := by
  have e : (List.range n)[pre.length]? = some x := by rw [h]; simp
  rw [List.getElem?_eq_some_iff] at e
  obtain ⟨h1, h2⟩ := e
  rw [List.length_range] at h1
  rw [List.getElem_range] at h2
  omega
theorem cnt_append : ∀ a b, cnt (a ++ b) = cnt a * cnt b
  | [], b => by show cnt b = 1 * cnt b; rw [Int.one_mul]
  | (p, m) :: a, b => by
    show (p - 1) * p ^ (m - 1).toNat * cnt (a ++ b) = (p - 1) * p ^ (m - 1).toNat * cnt a * cnt b
    rw [cnt_append a b, Int.mul_assoc ((p - 1) * p ^ (m - 1).toNat)]
theorem pow_mono {p : Int} (h : 1 ≤ p) {a b : Nat} (hab : a ≤ b) : p ^ a ≤ p ^ b := by
  obtain ⟨c, rfl⟩ := Nat.exists_eq_add_of_le hab
  rw [Int.pow_add]
  have h1 : 0 < p ^ a := Int.pow_pos (by omega)
  have h2 : 0 < p ^ c := Int.pow_pos (by omega)
  have := Int.mul_le_mul_of_nonneg_left (show 1 ≤ p ^ c by omega) (Int.le_of_lt h1)
  omega
theorem step_le {p m : Int} (hp : 2 ≤ p) (hm : 1 ≤ m) : 0 < (p - 1) * p ^ (m - 1).toNat ∧ (p - 1) * p ^ (m - 1).toNat ≤ p ^ m.toNat := by
  have h1 : 0 < p ^ (m - 1).toNat := Int.pow_pos (by omega)
  refine ⟨Int.mul_pos (by omega) h1, ?_⟩
  have em : m.toNat = (m - 1).toNat + 1 := by omega
  rw [em, Int.pow_succ, Int.mul_comm]
  exact Int.mul_le_mul_of_nonneg_left (by omega) (Int.le_of_lt h1)
theorem cnt_le : ∀ {r : List (Int × Int)}, (∀ x ∈ r, Gd x) → 0 < cnt r ∧ cnt r ≤ prodP r
  | [], _ => by decide
  | (p, m) :: r, h => by
    obtain ⟨i1, i2⟩ := cnt_le (r := r) fun x hx => h x (List.mem_cons_of_mem _ hx)
    have g := h (p, m) (List.mem_cons_self ..)
    have g2 : 2 ≤ p := g.two
    have g1 : 1 ≤ m := g.one
    obtain ⟨s1, s2⟩ := step_le g2 g1
    exact ⟨Int.mul_pos s1 i1, Int.mul_le_mul s2 i2 (Int.le_of_lt i1) (by omega)⟩
theorem pre_le {r pre suf : List (Int × Int)} (h : ∀ x ∈ r, Gd x) (e : r = pre ++ suf) : 1 ≤ prodP pre ∧ prodP pre ≤ prodP r := by
  subst e
  have h1 := prod_pos (r := pre) fun x hx => (h x (List.mem_append_left _ hx)).two
  have h2 := prod_pos (r := suf) fun x hx => (h x (List.mem_append_right _ hx)).two
  rw [prodP_append]
  have := Int.mul_le_mul_of_nonneg_left h2 (show 0 ≤ prodP pre by omega)
  omega
theorem two_pow {p : Int} (h : 2 ≤ p) : ∀ k : Nat, (2 : Int) ^ k ≤ p ^ k
  | 0 => by rw [Int.pow_zero, Int.pow_zero]; exact Int.le_refl _
  | k + 1 => by
    rw [Int.pow_succ, Int.pow_succ]
    exact Int.mul_le_mul (two_pow h k) h (by decide) (Int.le_of_lt (Int.pow_pos (by omega)))
theorem few_exp {p : Int} {k : Nat} (h : 2 ≤ p) (hp : p ^ k ≤ 1000000000) : k < 30 := by
  rcases Nat.lt_or_ge k 30 with z | z
  · exact z
  · have h1 := two_pow h k
    have h2 := pow_mono (p := 2) (by decide) z
    have h3 : (2 : Int) ^ 30 = 1073741824 := by decide
    omega
def cntT (p : Int) : Nat → Int
  | 0 => p - 1
  | k + 1 => (p - 1) * p ^ k
theorem v_prod {T : Tab} {ds : List D} {Q : D → Prop} {E : Exc → Prop} (h : prodSp ds Q E) : wpS T mProd (startE nProd ds) (bodyPost Q E) := by
  obtain ⟨r, rfl, hg, h9, hQ⟩ := h
  refine ⟨two_le, rfl, trivial, ?_⟩
  refine forL_pre r (fun pre e => ∃ a b c, e = [some (.val (.tup (r.map prD))), vI' (prodP pre), vI' (cnt pre), a, b, c]) ⟨none, none, none, rfl⟩ ?_ ?_
  · rintro pre ⟨p, m⟩ suf e k hx ⟨a, b, c, rfl⟩ hk
    obtain ⟨m1, m2⟩ := mem_split hx
    have g := hg _ m1
    have g2 : 2 ≤ p := g.two
    have g1 : 1 ≤ m := g.one
    obtain ⟨l1, l2⟩ := pre_le hg hx
    obtain ⟨c1, c2⟩ := cnt_le (r := pre) fun x hx => hg x (m2 x hx)
    obtain ⟨_, l3⟩ := pre_le (pre := pre ++ [(p, m)]) (suf := suf) hg (by rw [hx]; simp)
    have l3' : prodP pre * p ^ m.toNat ≤ 1000000000 := by
      rw [prodP_append] at l3
      have l3 : prodP pre * (p ^ m.toNat * 1) ≤ prodP r := l3
      rw [Int.mul_one] at l3
      omega
    have ppos : 0 < p ^ m.toNat := Int.pow_pos (by omega)
    have l4 : p ^ m.toNat ≤ 1000000000 := by
      have := Int.mul_le_mul_of_nonneg_right l1 (Int.le_of_lt ppos)
      omega
    have k30 := few_exp g2 l4
    have p9 := (le_pow g2 (k := m.toNat) (by omega)).1
    have le9 : ∀ t : Nat, t ≤ m.toNat → 0 < prodP pre * p ^ t ∧ prodP pre * p ^ t ≤ 1000000000 := fun t ht => by
      have z := pow_mono (p := p) (by omega) ht
      have z' := Int.mul_le_mul_of_nonneg_left z (show 0 ≤ prodP pre by omega)
      exact ⟨Int.mul_pos (by omega) (Int.pow_pos (by omega)), by omega⟩
    have ct9 : ∀ t : Nat, t ≤ m.toNat → 0 < cntT p t ∧ cntT p t ≤ 1000000000 := fun t ht => by
      cases t with
      | zero => exact ⟨by show 0 < p - 1; omega, by show p - 1 ≤ 1000000000; omega⟩
      | succ t =>
        have z := pow_mono (p := p) (by omega) ht
        have z0 : 0 < p ^ t := Int.pow_pos (by omega)
        rw [Int.pow_succ] at z
        have z1 := Int.mul_le_mul_of_nonneg_left (show p - 1 ≤ p by omega) (Int.le_of_lt z0)
        refine ⟨Int.mul_pos (by omega) z0, ?_⟩
        show (p - 1) * p ^ t ≤ 1000000000
        rw [Int.mul_comm]
        omega
    have cc : ∀ t : Nat, t ≤ m.toNat → 0 < cnt pre * cntT p t ∧ cnt pre * cntT p t ≤ 1000000000 * 1000000000 := fun t ht => by
      obtain ⟨z1, z2⟩ := ct9 t ht
      exact ⟨Int.mul_pos c1 z1, Int.mul_le_mul (by omega) z2 (by omega) (by decide)⟩
    refine ⟨rfl, trivial, mulOk (i := cnt pre) (j := p - 1) (by omega) (by omega), ⟨by omega, by omega⟩, Nat.le_of_lt (small_line (by omega)), ?_⟩
    refine forL_pre (List.range m.toNat) (fun pre' e => ∃ c, e = [some (.val (.tup (r.map prD))), vI' (prodP pre * p ^ pre'.length), vI' (cnt pre * cntT p pre'.length), vI' p, vI' m, c]) ⟨c, ?_⟩ ?_ ?_
    · rw [show ([] : List Nat).length = 0 from rfl, Int.pow_zero, Int.mul_one]
      rfl
    · rintro pre' x suf' e k' hx' ⟨c, rfl⟩ hk'
      obtain ⟨e1, e2⟩ := range_split hx'
      obtain ⟨b1, b2⟩ := le9 pre'.length (by omega)
      obtain ⟨b3, b4⟩ := cc pre'.length (by omega)
      refine ⟨mulOk (i := prodP pre * p ^ pre'.length) (j := p) (by omega) (by omega), trivial, brD (fun ht => ?_) fun ht => ?_⟩
      · have ht : (0 : Int) < 0 + (x : Int) := ht
        refine ⟨mulOk (i := cnt pre * cntT p pre'.length) (j := p) (by omega) (by omega), hk' _ ⟨vI' (0 + x), ?_⟩⟩
        rw [List.length_append]
        show _ = [some (.val (.tup (r.map prD))), vI' (prodP pre * p ^ (pre'.length + 1)), vI' (cnt pre * ((p - 1) * p ^ pre'.length)), vI' p, vI' m, vI' (0 + x)]
        have el : pre'.length = (pre'.length - 1) + 1 := by omega
        have e3 : cntT p pre'.length * p = (p - 1) * p ^ pre'.length := by
          rw [el]
          show (p - 1) * p ^ (pre'.length - 1) * p = (p - 1) * p ^ (pre'.length - 1 + 1)
          rw [Int.pow_succ, Int.mul_assoc]
        rw [Int.pow_succ, ← Int.mul_assoc, ← e3, ← Int.mul_assoc]
        rfl
      · have ht : ¬ (0 : Int) < 0 + (x : Int) := ht
        have hl : pre'.length = 0 := by omega
        refine ⟨mulOk (i := cnt pre * cntT p pre'.length) (j := 1) (by omega) (by omega), hk' _ ⟨vI' (0 + x), ?_⟩⟩
        have hn : pre' = [] := List.length_eq_zero_iff.mp hl
        subst hn
        show _ = [some (.val (.tup (r.map prD))), vI' (prodP pre * p ^ (0 + 1)), vI' (cnt pre * ((p - 1) * p ^ 0)), vI' p, vI' m, vI' (0 + x)]
        rw [Int.pow_succ, Int.pow_zero, Int.one_mul, Int.mul_one]
        show [_, vI' (prodP pre * p ^ 0 * p), vI' (cnt pre * (p - 1) * 1), _, _, _] = _
        rw [Int.pow_zero, Int.mul_one, Int.mul_one]
    · rintro e ⟨c, rfl⟩
      refine hk _ ⟨vI' p, vI' m, c, ?_⟩
      rw [List.length_range, prodP_append, cnt_append]
      show _ = [some (.val (.tup (r.map prD))), vI' (prodP pre * (p ^ m.toNat * 1)), vI' (cnt pre * ((p - 1) * p ^ (m - 1).toNat * 1)), vI' p, vI' m, c]
      have em : m.toNat = (m - 1).toNat + 1 := by omega
      rw [Int.mul_one, Int.mul_one, em]
      rfl
  · rintro e ⟨a, b, c, rfl⟩
    exact ⟨two_le, hQ⟩
end VL

set_option Elab.async false
set_option linter.all false
set_option maxRecDepth 100000
set_option maxHeartbeats 4000000
namespace VL
open PySem L2 K02
/-! values as data -/
theorem vEq_of {a b : D} {p q : PyData} {Q : Bool → Prop} (ha : a.toP = some p) (hb : b.toP = some q) (sp : SeqAt.shaped p = true) (sq : SeqAt.shaped q = true) (k : Q (PyData.eqv p q)) : sat2 (vEq a b) Q := by
  unfold vEq
  split
  · cases ha; cases hb
    refine ⟨trivial, ?_⟩
    exact k
  · rw [ha, hb]
    exact ⟨⟨sp, sq⟩, k⟩
theorem vNe_of {a b : D} {p q : PyData} {Q : Bool → Prop} (ha : a.toP = some p) (hb : b.toP = some q) (sp : SeqAt.shaped p = true) (sq : SeqAt.shaped q = true) (k : Q (!PyData.eqv p q)) : sat2 (neg2 (vEq a b)) Q := by
  unfold vEq
  split
  · cases ha; cases hb
    refine ⟨trivial, ?_⟩
    exact k
  · rw [ha, hb]
    exact ⟨⟨sp, sq⟩, k⟩
theorem eqv_self {p : PyData} (h : SeqAt.shaped p = true) : PyData.eqv p p = true := SeqAt.eqv_refl p (SeqAt.canLay_of_shaped h)
theorem toPs_ints : ∀ ns : List Int, D.toPs (ns.map D.int) = some (ns.map PyData.int)
  | [] => rfl
  | n :: ns => by
    show (match D.toP (.int n), D.toPs (ns.map D.int) with
      | some p, some ps => some (p :: ps)
      | _, _ => none) = _
    rw [toPs_ints ns]; rfl
def prP (x : Int × Int) : PyData := .tuple [.int x.1, .int x.2]
theorem toPs_prs : ∀ r : List (Int × Int), D.toPs (r.map prD) = some (r.map prP)
  | [] => rfl
  | x :: r => by
    show (match D.toP (prD x), D.toPs (r.map prD) with
      | some p, some ps => some (p :: ps)
      | _, _ => none) = _
    rw [toPs_prs r]; rfl
theorem dP_lst {xs : List D} {ps : List PyData} (h : D.toPs xs = some ps) : D.toP (.lst xs) = some (.list ps) := by show (D.toPs xs).map _ = _; rw [h]; rfl
theorem dP_tup {xs : List D} {ps : List PyData} (h : D.toPs xs = some ps) : D.toP (.tup xs) = some (.tuple ps) := by show (D.toPs xs).map _ = _; rw [h]; rfl
theorem lay_prs : ∀ r : List (Int × Int), PyData.canLayAll0 (r.map prP) = true
  | [] => rfl
  | x :: r => by show (_ && PyData.canLayAll0 (r.map prP)) = true; rw [lay_prs r]; rfl
theorem depth_prs : ∀ r : List (Int × Int), PyData.depthAll (r.map prP) ≤ 1
  | [] => by decide
  | x :: r => by
    show max (PyData.depth (prP x)) (PyData.depthAll (r.map prP)) ≤ 1
    exact Nat.max_le.mpr ⟨by show max 0 (max 0 0) + 1 ≤ 1; decide, depth_prs r⟩
theorem shaped_prs (r : List (Int × Int)) : SeqAt.shaped (.tuple (r.map prP)) = true := by
  unfold SeqAt.shaped
  rw [Bool.and_eq_true]
  refine ⟨lay_prs r, decide_eq_true ?_⟩
  show PyData.depthAll (r.map prP) + 1 ≤ 64
  have := depth_prs r
  omega
theorem toInts_map : ∀ ns : List Int, toInts (ns.map D.int) = some ns
  | [] => rfl
  | n :: ns => by show (toInts (ns.map D.int)).map _ = _; rw [toInts_map ns]; rfl
theorem fm_eq {α β γ : Type} (g : α → β) (P : β → Bool) (h : β → γ) (l : List α) : l.filterMap (fun k => if P (g k) = true then some (h (g k)) else none) = ((l.map g).filter P).map h := by
  induction l with
  | nil => rfl
  | cons x l ih =>
    rw [List.map_cons, List.filterMap_cons, List.filter_cons]
    by_cases e : P (g x) = true
    · simp only [e, if_true]; rw [ih]; rfl
    · simp only [e]; exact ih
/-! primes_within -/
def isP (n : Int) : Bool := PyData.eqv (.tuple ((pp n).map prP)) (.tuple [.tuple [.int n, .int 1]])
def upTo (lo hi : Int) : List Int := (List.range (hi - lo).toNat).map fun (k : Nat) => lo + (k : Int)
def prW (most : Int) : List Int := (upTo 2 (most + 1)).filter isP
def pwSp : FSpec := fun ds Q _ => ∃ n : Int, ds = [.int n] ∧ 0 ≤ n ∧ n ≤ 100 ∧ Q (.lst ((prW n).map D.int))
abbrev nPW : List Str := ["most", "number"]
def mPW : S := (.seq (.ret (.lc [1, 1, 1] [1] [1] true (.rng2 (.int 2) (.bin .Add (.bor 0) (.int 1))) (.cmp .Eq (.call "prime_parts" (.cons (.var 1) .nil)) (.tup (.cons (.tup (.cons (.var 1) (.cons (.int 1) .nil))) .nil))) (.var 1)))
  .skip)
theorem one_le : 1 ≤ sizeLine := by decide
theorem v_pw {T : Tab} (hpp : T.fn "prime_parts" = some ppSp) {ds : List D} {Q : D → Prop} {E : Exc → Prop} (h : pwSp ds Q E) : wpS T mPW (startE nPW ds) (bodyPost Q E) := by
  obtain ⟨n, rfl, n1, n9, hQ⟩ := h
  refine ⟨trivial, ⟨by decide, by decide⟩, ⟨by show -(2 ^ 62) ≤ n + 1; omega, by show n + 1 < 2 ^ 62; omega⟩, Nat.le_of_lt (small_line (by show (n + 1 - 2).toNat ≤ 1000000; omega)), ?_⟩
  refine lcL_run (fun k : Nat => if isP (2 + (k : Int)) = true then some (.int (2 + (k : Int))) else none) (List.range (n + 1 - 2).toNat) (fun x hx k hk => ?_) ?_
  · rw [List.mem_range] at hx
    refine satc hpp ⟨2 + x, rfl, by omega, by omega, two_le, one_le, ?_⟩
    refine vEq_of (dP_tup (toPs_prs _)) rfl (shaped_prs _) (by rfl) ⟨rfl, br (fun hb => ?_) fun hb => ?_⟩
    · have hb : isP (2 + (x : Int)) = true := hb
      rw [if_pos hb] at hk
      exact ⟨rfl, hk⟩
    · have hb : ¬ isP (2 + (x : Int)) = true := by intro z; exact Bool.noConfusion (hb.symm.trans z)
      rw [if_neg hb] at hk
      exact hk
  · rw [fm_eq (fun k : Nat => 2 + (k : Int)) isP D.int]
    exact hQ
/-! orders_within -/
def grow : Nat → Int → Int → Int → Int → Int → Int → List (Int × Int) → List (Int × Int)
  | 0, _, _, _, _, _, _, acc => acc
  | f + 1, n, p, num, c, pw, mr, acc => if c * mr ≤ n then grow f n p num c (pw * p) (mr * p) (acc ++ [(num * pw, c * mr)]) else acc
def growF (n p : Int) (rows : List (Int × Int)) : List (Int × Int) := rows.foldl (fun acc x => grow 100 n p x.1 x.2 p (p - 1) acc) []
def rowsF (n : Int) (ps : List Int) : List (Int × Int) := ps.foldl (fun rows p => rows ++ growF n p rows) (if 0 < n then [(1, 1)] else [])
def owRows (n : Int) : List (Int × Int) := rowsF n (prW (n + 1))
def owS (n : Int) : List Int := ((owRows n).map (·.1)).mergeSort fun a b => decide (a ≤ b)
def due (n : Int) : List Int := (upTo 1 (4 * n + 70)).filter fun k => decide (cnt (pp k) ≤ n)
/-- what is counted, case by case -/
def fine (n : Int) : Bool := (owRows n).length ≤ 1000 && (owRows n).all (fun x => decide (1 ≤ x.1 ∧ x.1 ≤ 1000000 ∧ 1 ≤ x.2 ∧ x.2 ≤ 80)) && (prW (n + 1)).all (fun p => decide (2 ≤ p ∧ p ≤ 82)) && ((owRows n).map (·.1)).isPerm (due n)
def fine1 (n : Int) : Bool := phi n == ((upTo 1 (n + 1)).filter fun k => decide (Nat.gcd n.toNat k.toNat = 1)).length
end VL

set_option Elab.async false
set_option linter.all false
namespace VL
open PySem L2 K02
set_option maxRecDepth 1000000 in
theorem all_fine : ((List.range 81).all fun n => fine (n : Int)) = true := by decide +kernel
set_option maxRecDepth 1000000 in
theorem all_fine1 : ((List.range 400).all fun n => fine1 (1 + (n : Int))) = true := by decide +kernel
end VL

set_option Elab.async false
set_option linter.all false
set_option maxRecDepth 100000
set_option maxHeartbeats 4000000
namespace VL
open PySem L2 K02
structure Fine (n : Int) : Prop where
  len : (owRows n).length ≤ 1000
  row : ∀ x ∈ owRows n, 1 ≤ x.1 ∧ x.1 ≤ 1000000 ∧ 1 ≤ x.2 ∧ x.2 ≤ 80
  pr : ∀ p ∈ prW (n + 1), 2 ≤ p ∧ p ≤ 82
  perm : ((owRows n).map (·.1)).Perm (due n)
theorem Fine.of {n : Int} (h : fine n = true) : Fine n := by
  unfold fine at h
  rw [Bool.and_eq_true, Bool.and_eq_true, Bool.and_eq_true] at h
  obtain ⟨⟨⟨h1, h2⟩, h3⟩, h4⟩ := h
  exact ⟨of_decide_eq_true h1, fun x hx => of_decide_eq_true (List.all_eq_true.mp h2 x hx), fun p hp => of_decide_eq_true (List.all_eq_true.mp h3 p hp), List.isPerm_iff.mp h4⟩
theorem grow_pre : ∀ (f : Nat) (n p num c pw mr : Int) (acc : List (Int × Int)), ∃ t, grow f n p num c pw mr acc = acc ++ t
  | 0, _, _, _, _, _, _, acc => ⟨[], by rw [List.append_nil]; rfl⟩
  | f + 1, n, p, num, c, pw, mr, acc => by
    unfold grow
    split
    · obtain ⟨t, ht⟩ := grow_pre f n p num c (pw * p) (mr * p) (acc ++ [(num * pw, c * mr)])
      exact ⟨_, by rw [ht, List.append_assoc]⟩
    · exact ⟨[], by rw [List.append_nil]⟩
theorem growF_pre {n p : Int} (a b : List (Int × Int)) : ∃ t, growF n p (a ++ b) = growF n p a ++ t := by
  unfold growF
  rw [List.foldl_append]
  generalize a.foldl (fun acc x => grow 100 n p x.1 x.2 p (p - 1) acc) [] = acc
  induction b generalizing acc with
  | nil => exact ⟨[], by rw [List.append_nil]; rfl⟩
  | cons x b ih =>
    obtain ⟨t, ht⟩ := grow_pre 100 n p x.1 x.2 p (p - 1) acc
    obtain ⟨t2, ht2⟩ := ih (grow 100 n p x.1 x.2 p (p - 1) acc)
    exact ⟨t ++ t2, by rw [List.foldl_cons, ht2, ht, List.append_assoc]⟩
theorem rowsF_snoc {n p : Int} (a : List Int) : rowsF n (a ++ [p]) = rowsF n a ++ growF n p (rowsF n a) := by
  unfold rowsF; rw [List.foldl_append]; rfl
theorem rowsF_pre {n : Int} (a b : List Int) : ∃ t, rowsF n (a ++ b) = rowsF n a ++ t := by
  unfold rowsF
  rw [List.foldl_append]
  generalize a.foldl (fun rows p => rows ++ growF n p rows) (if 0 < n then [(1, 1)] else []) = acc
  induction b generalizing acc with
  | nil => exact ⟨[], by rw [List.append_nil]; rfl⟩
  | cons x b ih =>
    obtain ⟨t2, ht2⟩ := ih (acc ++ growF n x acc)
    exact ⟨_, by rw [List.foldl_cons, ht2, List.append_assoc]⟩
def owSp : FSpec := fun ds Q _ => ∃ n : Int, ds = [.int n] ∧ 0 ≤ n ∧ n ≤ 80 ∧ Fine n ∧ Q (.tup ((owS n).map D.int))
abbrev nOW : List Str := ["most", "rows", "prime", "grown", "number", "count", "power", "more"]
def mOW : S := (.seq (.set 1 (.ife (.cmp .Gt (.bor 0) (.int 0)) (.lst (.cons (.tup (.cons (.int 1) (.cons (.int 1) .nil))) .nil)) (.lst .nil)))
  (.seq (.forr [2] true (.call "primes_within" (.cons (.bin .Add (.bor 0) (.int 1)) .nil)) (.seq (.set 3 (.lst .nil))
  (.seq (.forr [4, 5] false (.var 1) (.seq (.par 6 7 (.var 2) (.bin .Sub (.bor 2) (.int 1)))
  (.seq (.whl (.cmp .LtE (.bin .Mult (.bor 5) (.bor 7)) (.bor 0)) (.seq (.expr (.app 3 (.tup (.cons (.bin .Mult (.bor 4) (.bor 6)) (.cons (.bin .Mult (.bor 5) (.bor 7)) .nil)))))
  (.seq (.par 6 7 (.bin .Mult (.bor 6) (.bor 2)) (.bin .Mult (.bor 7) (.bor 2)))
  .skip)))
  .skip)))
  (.seq (.set 1 (.bin .Add (.bor 1) (.bor 3)))
  .skip))))
  (.seq (.ret (.bcall .tuple (.cons (.bcall .sorted (.cons (.lc [] [4, 5] [4, 5] false (.var 1) .yes (.bcall .int (.cons (.bor 4) .nil))) .nil)) .nil)))
  .skip)))
theorem satSort {ns : List Int} {Q : W → Prop} (k : Q (.own (.lst ((ns.mergeSort fun a b => decide (a ≤ b)).map D.int)))) : sat2 (cSorted [.lst (ns.map D.int)]) Q := by
  show sat2 ((toInts (ns.map D.int)).map _) Q
  rw [toInts_map]
  exact ⟨trivial, k⟩
theorem mem_pre {α : Type} {a t r : List α} (h : r = a ++ t) {x : α} (hx : x ∈ a) : x ∈ r := h ▸ List.mem_append_left _ hx
theorem len_pre {α : Type} {a t r : List α} (h : r = a ++ t) : a.length ≤ r.length := by rw [h, List.length_append]; omega
theorem v_ow {T : Tab} (hpw : T.fn "primes_within" = some pwSp) {ds : List D} {Q : D → Prop} {E : Exc → Prop} (h : owSp ds Q E) : wpS T mOW (startE nOW ds) (bodyPost Q E) := by
  obtain ⟨n, rfl, n1, n9, fi, hQ⟩ := h
  -- behind the first row
  have main : ∀ rows : List (Int × Int), rows = rowsF n [] → wpS T (.seq (.forr [2] true (.call "primes_within" (.cons (.bin .Add (.bor 0) (.int 1)) .nil)) (.seq (.set 3 (.lst .nil))
  (.seq (.forr [4, 5] false (.var 1) (.seq (.par 6 7 (.var 2) (.bin .Sub (.bor 2) (.int 1)))
  (.seq (.whl (.cmp .LtE (.bin .Mult (.bor 5) (.bor 7)) (.bor 0)) (.seq (.expr (.app 3 (.tup (.cons (.bin .Mult (.bor 4) (.bor 6)) (.cons (.bin .Mult (.bor 5) (.bor 7)) .nil)))))
  (.seq (.par 6 7 (.bin .Mult (.bor 6) (.bor 2)) (.bin .Mult (.bor 7) (.bor 2)))
  .skip)))
  .skip)))
  (.seq (.set 1 (.bin .Add (.bor 1) (.bor 3)))
  .skip))))
  (.seq (.ret (.bcall .tuple (.cons (.bcall .sorted (.cons (.lc [] [4, 5] [4, 5] false (.var 1) .yes (.bcall .int (.cons (.bor 4) .nil))) .nil)) .nil)))
  .skip)) [vI' n, some (.own (.lst (rows.map prD))), none, none, none, none, none, none] (bodyPost Q E) := by
    rintro rows rfl
    refine ⟨trivial, satc hpw ⟨n + 1, rfl, by omega, by omega, trivial, ?_⟩⟩
    refine forL_pre (prW (n + 1)) (fun pre e => ∃ a b c d1 d2 d3, e = [vI' n, some (.own (.lst ((rowsF n pre).map prD))), a, b, c, d1, d2, d3]) ⟨none, none, none, none, none, none, rfl⟩ ?_ ?_
    · rintro pre p suf e k hx ⟨a, b, c, d1, d2, d3, rfl⟩ hk
      obtain ⟨m1, _⟩ := mem_split hx
      obtain ⟨p2, p82⟩ := fi.pr p m1
      have hall : ∃ t, owRows n = (rowsF n pre ++ growF n p (rowsF n pre)) ++ t := by
        obtain ⟨t, ht⟩ := rowsF_pre (n := n) (pre ++ [p]) suf
        refine ⟨t, ?_⟩
        rw [rowsF_snoc] at ht
        show rowsF n (prW (n + 1)) = _
        rw [hx, ← ht, List.append_assoc]
        rfl
      obtain ⟨t, hall⟩ := hall
      have hrow : ∀ x ∈ rowsF n pre, 1 ≤ x.1 ∧ x.1 ≤ 1000000 ∧ 1 ≤ x.2 ∧ x.2 ≤ 80 := fun x hx => fi.row x (mem_pre hall (List.mem_append_left _ hx))
      have hlen : (rowsF n pre).length + (growF n p (rowsF n pre)).length ≤ 1000 := by
        have := len_pre hall
        rw [List.length_append] at this
        have := fi.len
        omega
      refine ⟨Nat.zero_le _, trivial, ?_⟩
      refine forL_pre (rowsF n pre) (fun pre' e => ∃ c d1 d2 d3, e = [vI' n, some (.val (.lst ((rowsF n pre).map prD))), vI' p, some (.own (.lst ((growF n p pre').map prD))), c, d1, d2, d3]) ⟨c, d1, d2, d3, rfl⟩ ?_ ?_
      · rintro pre' ⟨num, cc⟩ suf' e k' hx' ⟨c, d1, d2, d3, rfl⟩ hk'
        obtain ⟨m2, _⟩ := mem_split hx'
        obtain ⟨b1, b2, b3, b4⟩ := hrow _ m2
        have b1 : 1 ≤ num := b1
        have b2 : num ≤ 1000000 := b2
        have b3 : 1 ≤ cc := b3
        have b4 : cc ≤ 80 := b4
        have hg : growF n p (pre' ++ [(num, cc)]) = grow 100 n p num cc p (p - 1) (growF n p pre') := by unfold growF; rw [List.foldl_append]; rfl
        have hgl : (growF n p (pre' ++ [(num, cc)])).length ≤ 1000 := by
          obtain ⟨t', ht'⟩ := growF_pre (n := n) (p := p) (pre' ++ [(num, cc)]) suf'
          have e' : pre' ++ [(num, cc)] ++ suf' = rowsF n pre := by rw [hx', List.append_assoc]; rfl
          rw [e'] at ht'
          have := len_pre ht'
          omega
        refine ⟨rfl, trivial, ?_⟩
        refine ⟨fun f e => ∃ pw mr acc, e = [vI' n, some (.val (.lst ((rowsF n pre).map prD))), vI' p, some (.own (.lst (acc.map prD))), vI' num, vI' cc, vI' pw, vI' mr] ∧ grow f n p num cc pw mr acc = growF n p (pre' ++ [(num, cc)]) ∧ 1 ≤ mr ∧ mr ≤ 10000 ∧ 1 ≤ pw ∧ pw ≤ 2 * mr ∧ n + 2 - mr ≤ f,
          ⟨100, p, p - 1, growF n p pre', rfl, hg.symm, by omega, by omega, by omega, by omega, by omega⟩, ?_⟩
        rintro f e ⟨pw, mr, acc, rfl, hgo, q1, q2, q3, q4, q5⟩
        refine ⟨mulOk (by omega) (by omega), trivial, brD (fun hl => ?_) fun hl => ?_⟩
        · have hl : cc * mr ≤ n := hl
          have mm : mr ≤ cc * mr := by
            have := Int.mul_le_mul_of_nonneg_right b3 (show 0 ≤ mr by omega)
            omega
          cases f with
          | zero => omega
          | succ f =>
          have hgo : (if cc * mr ≤ n then grow f n p num cc (pw * p) (mr * p) (acc ++ [(num * pw, cc * mr)]) else acc) = _ := hgo
          rw [if_pos hl] at hgo
          obtain ⟨t', ht'⟩ := grow_pre f n p num cc (pw * p) (mr * p) (acc ++ [(num * pw, cc * mr)])
          have ll := len_pre (hgo.symm.trans ht')
          rw [List.length_append] at ll
          have e1 : 2 * mr ≤ mr * p := by
            have := Int.mul_le_mul_of_nonneg_left p2 (show 0 ≤ mr by omega)
            omega
          have e2 : mr * p ≤ 80 * 82 := Int.mul_le_mul (by omega) p82 (by omega) (by decide)
          have e3 : 1 ≤ pw * p := by
            have := Int.mul_pos (show 0 < pw by omega) (show 0 < p by omega)
            omega
          have e4 : pw * p ≤ 2 * (mr * p) := by
            have := Int.mul_le_mul_of_nonneg_right q4 (show 0 ≤ p by omega)
            rw [Int.mul_assoc] at this
            exact this
          refine ⟨mulOk (by omega) (by omega), mulOk (by omega) (by omega), two_le, small_line (by rw [List.length_map]; omega), mulOk (by omega) (by omega), mulOk (by omega) (by omega), f, Nat.lt_succ_self f, pw * p, mr * p, acc ++ [(num * pw, cc * mr)], by rw [List.map_append]; rfl, hgo, by omega, by omega, e3, e4, by omega⟩
        · have hl : ¬ cc * mr ≤ n := hl
          have he : grow f n p num cc pw mr acc = acc := by
            cases f with
            | zero => rfl
            | succ f => show (if cc * mr ≤ n then _ else acc) = _; rw [if_neg hl]
          rw [he] at hgo
          exact hk' _ ⟨vI' num, vI' cc, vI' pw, vI' mr, by rw [hgo]⟩
      · rintro e ⟨c, d1, d2, d3, rfl⟩
        refine ⟨Nat.le_of_lt (small_line (by rw [List.length_map, List.length_map]; omega)), hk _ ⟨vI' p, some (.own (.lst ((growF n p (rowsF n pre)).map prD))), c, d1, d2, d3, ?_⟩⟩
        rw [rowsF_snoc, List.map_append]
        rfl
    · rintro e ⟨a, b, c, d1, d2, d3, rfl⟩
      refine ⟨trivial, lcL_run (fun x : Int × Int => some (.int x.1)) (rowsF n (prW (n + 1))) (fun x hx k hk => ⟨rfl, rfl, trivial, rfl, hk⟩) ?_⟩
      have ef : [] ++ (rowsF n (prW (n + 1))).filterMap (fun x : Int × Int => some (D.int x.1)) = ((owRows n).map (·.1)).map D.int := by
        rw [List.nil_append, List.map_map]
        exact congrFun (List.filterMap_eq_map' (f := fun x : Int × Int => D.int x.1)) _
      show sat2 (cSorted [.lst ([] ++ (rowsF n (prW (n + 1))).filterMap fun x : Int × Int => some (D.int x.1))]) _
      rw [ef]
      exact satSort ⟨trivial, hQ⟩
  refine ⟨trivial, brD (fun h => ?_) fun h => ?_⟩
  · have h : 0 < n := h
    refine ⟨two_le, one_le, ?_⟩
    exact main [(1, 1)] (by unfold rowsF; rw [if_pos h]; rfl)
  · have h : ¬ 0 < n := h
    refine ⟨Nat.zero_le _, ?_⟩
    exact main [] (by unfold rowsF; rw [if_neg h]; rfl)
end VL

set_option Elab.async false
set_option linter.all false
set_option maxRecDepth 100000
set_option maxHeartbeats 4000000
namespace VL
open PySem L2 K02
abbrev nLaw : List Str := ["_law_script", "_law_deal_here", "_law_turn", "_law_number_here", "_law_pairs", "_law_primes", "_law_prime", "_law_many", "_law_one", "_law_other", "_law_small", "_law_most", "_law_told", "_law_due"]
def mLaw : S := (.seq (.set 1 (.call "_law_deal" (.cons (.var 0) (.cons (.int 0) .nil))))
  (.seq (.forr [2] true (.rng1 (.int 3)) (.seq (.set 3 (.call "_law_number" (.cons (.var 1) .nil)))
  (.seq (.set 4 (.call "prime_parts" (.cons (.var 3) .nil)))
  (.seq (.ite (.or_ (.not_ (.bcall .isinstance (.cons (.bor 4) (.cons (.bty "tuple") .nil)))) (.cmp .NotEq (.call "_law_product" (.cons (.var 4) .nil)) (.tup (.cons (.var 3) (.cons (.call "phi" (.cons (.var 3) .nil)) .nil))))) (.seq (.ret (.bl false))
  .skip) .skip)
  (.seq (.set 5 (.lc [6] [6, 7] [6, 7] false (.var 4) .yes (.var 6)))
  (.seq (.ite (.cmp .NotEq (.lc [] [8, 9] [8, 9] false (.zip (.var 5) (.cut (.bor 5) (.int 1) .nopart)) (.cmp .GtE (.bor 8) (.bor 9)) (.int 1)) (.lst .nil)) (.seq (.ret (.bl false))
  .skip) .skip)
  (.seq (.ite (.cmp .NotEq (.lc [6] [6, 7] [6, 7] false (.var 4) (.or_ (.not_ (.call "_law_is_prime" (.cons (.var 6) .nil))) (.cmp .Lt (.bor 7) (.int 1))) (.int 1)) (.lst .nil)) (.seq (.ret (.bl false))
  .skip) .skip)
  (.seq (.set 10 (.bin .Add (.int 1) (.call "_law_draw" (.cons (.var 1) (.cons (.int 400) .nil)))))
  (.seq (.ite (.cmp .NotEq (.call "phi" (.cons (.var 10) .nil)) (.bcall .len (.cons (.lc [10, 8] [8] [8] true (.rng2 (.int 1) (.bin .Add (.bor 10) (.int 1))) (.cmp .Eq (.call "_law_common" (.cons (.var 10) (.cons (.var 8) .nil))) (.int 1)) (.int 1)) .nil))) (.seq (.ret (.bl false))
  .skip) .skip)
  .skip)))))))))
  (.seq (.set 11 (.ife (.cmp .Gt (.call "_law_draw" (.cons (.var 1) (.cons (.int 3) .nil))) (.int 0)) (.call "_law_draw" (.cons (.var 1) (.cons (.int 13) .nil))) (.call "_law_draw" (.cons (.var 1) (.cons (.int 81) .nil)))))
  (.seq (.set 12 (.call "orders_within" (.cons (.var 11) .nil)))
  (.seq (.set 13 (.lc [8, 8] [8] [8] true (.rng2 (.int 1) (.bin .Add (.bin .Mult (.int 4) (.bor 11)) (.int 70))) (.cmp .LtE (.idx (.call "_law_product" (.cons (.call "prime_parts" (.cons (.var 8) .nil)) .nil)) (.int 1)) (.bor 11)) (.var 8)))
  (.seq (.ret (.and_ (.bcall .isinstance (.cons (.bor 12) (.cons (.bty "tuple") .nil))) (.cmp .Eq (.bcall .list (.cons (.bor 12) .nil)) (.bor 13))))
  .skip))))))
def mEnd : S := (.seq (.set 12 (.call "orders_within" (.cons (.var 11) .nil)))
  (.seq (.set 13 (.lc [8, 8] [8] [8] true (.rng2 (.int 1) (.bin .Add (.bin .Mult (.int 4) (.bor 11)) (.int 70))) (.cmp .LtE (.idx (.call "_law_product" (.cons (.call "prime_parts" (.cons (.var 8) .nil)) .nil)) (.int 1)) (.bor 11)) (.var 8)))
  (.seq (.ret (.and_ (.bcall .isinstance (.cons (.bor 12) (.cons (.bty "tuple") .nil))) (.cmp .Eq (.bcall .list (.cons (.bor 12) .nil)) (.bor 13))))
  .skip)))
theorem isiTup {T : Tab} {xs : List D} {Q : W → Prop} (k : Q (.val (.bl true))) : sat2 (vCall T .isinstance [.tup xs, .ty "tuple"]) Q := by
  have e : isi1 T (.tup xs) (.ty "tuple") = some true := by
    show (if "tuple" ∈ tyNames then (tyD (.tup xs)).map fun t => t == "tuple" || (t == "bool" && "tuple" == "int") else none) = some true
    rw [if_pos (by decide)]
    rfl
  show sat2 ((isi1 T (.tup xs) (.ty "tuple")).map fun b => (True, W.val (.bl b))) Q
  rw [e]
  exact ⟨trivial, k⟩
theorem brF {A B : Prop} (h : B) : if false = true then A else B := by rw [if_neg Bool.false_ne_true]; exact h
theorem brT {A B : Prop} (h : A) : if true = true then A else B := by rw [if_pos rfl]; exact h
theorem brE {b : Bool} {A B : Prop} (h : b = false) (k : B) : if b = true then A else B := by rw [h]; exact brF k
theorem lcL_of {f : D → (Option D → Prop) → Prop} {items items' acc : List D} {Q : List D → Prop} (h : items = items') (k : lcL f items' acc Q) : lcL f items acc Q := h ▸ k
theorem neSame {d : D} {p : PyData} {Q : Bool → Prop} (h : d.toP = some p) (s : SeqAt.shaped p = true) (k : Q false) : sat2 (neg2 (vEq d d)) Q := by
  refine vNe_of h h s s ?_
  rw [eqv_self s]
  exact k
theorem eqSame {d : D} {p : PyData} {Q : Bool → Prop} (h : d.toP = some p) (s : SeqAt.shaped p = true) (k : Q true) : sat2 (vEq d d) Q := by
  refine vEq_of h h s s ?_
  rw [eqv_self s]
  exact k
theorem cutD1 (xs : List D) : cutD xs (some 1) none = xs.drop 1 := by
  unfold cutD
  rw [show HT.sIx xs.length 0 (some 1) = min 1 xs.length from HT.sIx_nat xs.length 0 1, HT.sIx_none]
  cases xs with
  | nil => rfl
  | cons x r =>
    rw [show min 1 (x :: r).length = 1 by rw [List.length_cons]; omega]
    show (List.take ((x :: r).length - 1) r) = r
    rw [List.length_cons, Nat.add_sub_cancel]
    exact List.take_length
def prI (x : Int × Int) : D := .tup [.int x.1, .int x.2]
theorem zipD_ints : ∀ a b : List Int, zipD (a.map D.int) (b.map D.int) = (a.zip b).map prI
  | [], b => rfl
  | x :: a, [] => rfl
  | x :: a, y :: b => by
    show D.tup [.int x, .int y] :: zipD (a.map D.int) (b.map D.int) = _
    rw [zipD_ints a b]
    rfl
theorem asc_zip : ∀ {ns : List Int}, ns.Pairwise (· < ·) → ∀ x ∈ ns.zip (ns.drop 1), x.1 < x.2
  | [], _, x, hx => nomatch hx
  | [a], _, x, hx => nomatch hx
  | a :: b :: r, h, x, hx => by
    rw [List.pairwise_cons] at h
    have hx : x ∈ (a, b) :: (b :: r).zip ((b :: r).drop 1) := hx
    rcases List.mem_cons.mp hx with rfl | hx
    · exact h.1 b (List.mem_cons_self ..)
    · exact asc_zip h.2 x hx
theorem satLst {T : Tab} {xs : List D} {Q : W → Prop} (k : Q (.own (.lst xs))) : sat2 (vCall T .list [.tup xs]) Q := ⟨trivial, k⟩
theorem sort_due {n : Int} (f : Fine n) : owS n = due n := by
  have h1 : (owS n).Pairwise (fun a b => a ≤ b) := by
    have := List.pairwise_mergeSort (le := fun a b : Int => decide (a ≤ b)) (fun a b c h1 h2 => decide_eq_true (Int.le_trans (of_decide_eq_true h1) (of_decide_eq_true h2))) (fun a b => by
      rcases Int.le_total a b with h | h
      · rw [decide_eq_true h]; rfl
      · rw [decide_eq_true h, Bool.or_true]) ((owRows n).map (·.1))
    exact this.imp fun h => of_decide_eq_true h
  have h2 : (due n).Pairwise (fun a b => a ≤ b) := by
    refine List.Pairwise.filter _ ?_
    unfold upTo
    rw [List.pairwise_map]
    exact List.pairwise_lt_range.imp fun h => by omega
  exact List.Perm.eq_of_pairwise (fun a b _ _ h h' => Int.le_antisymm h h') h1 h2 ((List.mergeSort_perm _ _).trans f.perm)
theorem v_law {T : Tab} (hdeal : T.fn "_law_deal" = some dealSp) (hd : T.fn "_law_draw" = some drawSp) (hnum : T.fn "_law_number" = some numSp) (hpp : T.fn "prime_parts" = some ppSp) (hprod : T.fn "_law_product" = some prodSp) (hphi : T.fn "phi" = some phiSp)
    (hpr : T.fn "_law_is_prime" = some primeSp) (hcom : T.fn "_law_common" = some comSp) (how : T.fn "orders_within" = some owSp) (F : ∀ n : Int, 0 ≤ n → n ≤ 80 → Fine n) (F1 : ∀ n : Int, 1 ≤ n → n ≤ 400 → fine1 n = true)
    {ds : List D} {Q : D → Prop} {E : Exc → Prop} (h : lawSp ds Q E) : wpS T mLaw (startE nLaw ds) (bodyPost Q E) := by
  obtain ⟨rfl, hQ⟩ := h
  refine satc hdeal ⟨rfl, ?_⟩
  refine ⟨⟨by decide, by decide⟩, by decide, ?_⟩
  refine forL_pre (List.range (3 : Int).toNat) (fun pre e => ∃ a2 a3 a4 a5 a10, e = [some (.val .scr), some (.val .deal), a2, a3, a4, a5, none, none, none, none, a10, none, none, none]) ⟨none, none, none, none, none, rfl⟩ ?_ ?_
  · rintro pre x suf e k hx ⟨a2, a3, a4, a5, a10, rfl⟩ hk
    refine satc hnum ⟨rfl, fun n n1 n9 => ?_⟩
    have o := pp_ok n1
    refine satc hpp ⟨n, rfl, n1, n9, ?_⟩
    refine ⟨trivial, trivial, brF ?_⟩
    refine satc hprod ⟨pp n, rfl, o.gd, by rw [o.prod]; exact n9, ?_⟩
    refine satc hphi ⟨n, rfl, n1, n9, two_le, ?_⟩
    rw [o.prod, ← phi_eq n1]
    refine ⟨⟨by rfl, by rfl⟩, brE (b := !PyData.eqv (.tuple [.int n, .int (phi n)]) (.tuple [.int n, .int (phi n)])) (by rw [eqv_self (by rfl)]; rfl) ?_⟩
    refine ⟨trivial, ?_⟩
    -- the primes
    refine lcL_run (fun x : Int × Int => some (.int x.1)) (pp n) (fun x hx k hk => ⟨rfl, rfl, brT ⟨rfl, hk⟩⟩) ?_
    have ef : [] ++ (pp n).filterMap (fun x : Int × Int => some (D.int x.1)) = ((pp n).map (·.1)).map D.int := by
      rw [List.nil_append, List.map_map]
      exact congrFun (List.filterMap_eq_map' (f := fun x : Int × Int => D.int x.1)) _
    rw [ef]
    -- each is less than the next one
    refine ⟨trivial, ?_⟩
    rw [cutD1, ← List.map_drop]
    refine lcL_of (zipD_ints ((pp n).map (·.1)) (((pp n).map (·.1)).drop 1)) ?_
    refine lcL_run (fun x : Int × Int => none) (((pp n).map (·.1)).zip (((pp n).map (·.1)).drop 1)) (fun x hx k hk => ?_) ?_
    · refine ⟨rfl, trivial, rfl, brD (fun hz => ?_) fun hz => hk⟩
      have hz : x.2 ≤ x.1 := hz
      have := asc_zip (ns := (pp n).map (·.1)) (List.pairwise_map.mpr o.asc) x hx
      omega
    have en : ∀ {α : Type} (l : List α), [] ++ l.filterMap (fun _ => (none : Option D)) = [] := fun l => by rw [List.nil_append]; induction l with
      | nil => rfl
      | cons x l ih => exact ih
    rw [en]
    refine ⟨Nat.zero_le _, ?_⟩
    refine ⟨⟨by rfl, by rfl⟩, brE (b := !PyData.eqv (.list []) (.list [])) (by rfl) ⟨trivial, ?_⟩⟩
    -- each is a prime
    refine lcL_run (fun x : Int × Int => none) (pp n) (fun x hx k hk => ?_) ?_
    · obtain ⟨b1, b2, b3, b4⟩ := pp_le n1 hx
      refine ⟨rfl, satc hpr ⟨x.1, rfl, b1, by omega, (o.gd x hx).pr, ?_⟩⟩
      refine ⟨trivial, brF ⟨trivial, rfl, brD (fun hz => ?_) fun hz => hk⟩⟩
      have hz : x.2 < 1 := hz
      omega
    rw [en]
    refine ⟨Nat.zero_le _, ?_⟩
    refine ⟨⟨by rfl, by rfl⟩, brE (b := !PyData.eqv (.list []) (.list [])) (by rfl) ?_⟩
    -- phi by counting
    refine drawOk hd (by decide) (by decide) fun r r0 r1 => ⟨trivial, ?_⟩
    refine satc hphi ⟨1 + r, rfl, by omega, by omega, ?_⟩
    refine ⟨trivial, ⟨by decide, by decide⟩, ⟨by show -(2 ^ 62) ≤ 1 + r + 1; omega, by show 1 + r + 1 < 2 ^ 62; omega⟩, Nat.le_of_lt (small_line (by show (1 + r + 1 - 1).toNat ≤ 1000000; omega)), ?_⟩
    refine lcL_run (fun k : Nat => if (fun j : Int => decide (Nat.gcd (1 + r).toNat j.toNat = 1)) (1 + (k : Int)) = true then some ((fun _ => D.int 1) (1 + (k : Int))) else none) (List.range (1 + r + 1 - 1).toNat) (fun x hx k hk => ?_) ?_
    · refine satc hcom ⟨(1 + r).toNat, (1 + (x : Int)).toNat, by rw [Int.toNat_of_nonneg (by omega), Int.toNat_of_nonneg (by omega)], ?_⟩
      refine ⟨trivial, rfl, brD (fun hz => ?_) fun hz => ?_⟩
      · have hz : ((Nat.gcd (1 + r).toNat (1 + (x : Int)).toNat : Nat) : Int) = 1 := hz
        rw [if_pos (decide_eq_true (by omega))] at hk
        exact ⟨rfl, hk⟩
      · have hz : ¬ ((Nat.gcd (1 + r).toNat (1 + (x : Int)).toNat : Nat) : Int) = 1 := hz
        rw [if_neg (fun z => hz (by rw [of_decide_eq_true z]; rfl))] at hk
        exact hk
    rw [fm_eq (fun k : Nat => 1 + (k : Int)) (fun j : Int => decide (Nat.gcd (1 + r).toNat j.toNat = 1)) (fun _ => D.int 1), List.nil_append]
    refine ⟨trivial, trivial, brE ?_ (hk _ ⟨_, _, _, _, _, rfl⟩)⟩
    have f1 := F1 (1 + r) (by omega) (by omega)
    unfold fine1 at f1
    have f2 := eq_of_beq f1
    rw [List.length_map]
    show (!decide (phi (1 + r) = (((upTo 1 (1 + r + 1)).filter fun j : Int => decide (Nat.gcd (1 + r).toNat j.toNat = 1)).length : Int))) = false
    rw [decide_eq_true f2]
    rfl
  · rintro e ⟨a2, a3, a4, a5, a10, rfl⟩
    have rest : ∀ m : Int, 0 ≤ m → m ≤ 80 → wpS T mEnd [some (.val .scr), some (.val .deal), a2, a3, a4, a5, none, none, none, none, a10, vI' m, none, none] (bodyPost Q E) := fun m m0 m8 => by
      refine satc how ⟨m, rfl, m0, m8, F m m0 m8, ?_⟩
      rw [sort_due (F m m0 m8)]
      refine ⟨mulOk (by omega) (by omega), trivial, ⟨by decide, by decide⟩, ⟨by show -(2 ^ 62) ≤ 4 * m + 70; omega, by show 4 * m + 70 < 2 ^ 62; omega⟩, Nat.le_of_lt (small_line (by show (4 * m + 70 - 1).toNat ≤ 1000000; omega)), ?_⟩
      refine lcL_run (fun k : Nat => if (fun j : Int => decide (cnt (pp j) ≤ m)) (1 + (k : Int)) = true then some (D.int (1 + (k : Int))) else none) (List.range (4 * m + 70 - 1).toNat) (fun x hx k hk => ?_) ?_
      · rw [List.mem_range] at hx
        have o := pp_ok (n := 1 + (x : Int)) (by omega)
        refine satc hpp ⟨1 + x, rfl, by omega, by omega, ?_⟩
        refine satc hprod ⟨pp (1 + x), rfl, o.gd, by rw [o.prod]; omega, ?_⟩
        refine ⟨trivial, trivial, rfl, brD (fun hz => ?_) fun hz => ?_⟩
        · rw [if_pos (decide_eq_true hz)] at hk
          exact ⟨rfl, hk⟩
        · rw [if_neg (fun z => hz (of_decide_eq_true z))] at hk
          exact hk
      rw [fm_eq (fun k : Nat => 1 + (k : Int)) (fun j : Int => decide (cnt (pp j) ≤ m)) D.int, List.nil_append]
      refine ⟨trivial, trivial, brT ⟨trivial, ?_⟩⟩
      refine vEq_of (dP_lst (toPs_ints (due m))) (dP_lst (toPs_ints (due m))) (shaped_ints _) (shaped_ints _) ?_
      show Q (.bl (PyData.eqv _ _))
      rw [eqv_self (shaped_ints _)]
      exact hQ
    refine drawOk hd (by decide) (by decide) fun r r0 r1 => ⟨trivial, brD (fun _ => ?_) fun _ => ?_⟩
    · exact drawOk hd (by decide) (by decide) fun m m0 m1 => rest m m0 (by omega)
    · exact drawOk hd (by decide) (by decide) fun m m0 m1 => rest m m0 (by omega)
end VL

set_option Elab.async false
set_option linter.all false
set_option maxRecDepth 100000
set_option maxHeartbeats 4000000
namespace VL
open PySem L2 PyProof.Rows
abbrev fPP : List Str := []
abbrev fPhi : List Str := ["prime_parts"]
abbrev fPW : List Str := ["phi", "prime_parts"]
abbrev fOW : List Str := ["primes_within", "phi", "prime_parts"]
abbrev fPick : List Str := ["_law_draw", "_law_deal", "orders_within", "primes_within", "phi", "prime_parts"]
abbrev fPrime : List Str := "_law_pick" :: fPick
abbrev fCom : List Str := "_law_is_prime" :: fPrime
abbrev fNum : List Str := "_law_common" :: fCom
abbrev fProd : List Str := "_law_number" :: fNum
abbrev fLaw : List Str := "_law_product" :: fProd
theorem c_pp : cSs ⟨fPP, []⟩ 60 nPP (defScope (topS 1)) (defBody (topS 1)) = some mPP := by rfl
theorem c_phi : cSs ⟨fPhi, []⟩ 60 nPhi (defScope (topS 2)) (defBody (topS 2)) = some mPhi := by rfl
theorem c_pw : cSs ⟨fPW, []⟩ 60 nPW (defScope (topS 3)) (defBody (topS 3)) = some mPW := by rfl
theorem c_ow : cSs ⟨fOW, []⟩ 60 nOW (defScope (topS 4)) (defBody (topS 4)) = some mOW := by rfl
theorem c_pick : cSs ⟨fPick, []⟩ 60 nPick (defScope (topS 8)) (defBody (topS 8)) = some mPick := by rfl
theorem c_prime : cSs ⟨fPrime, []⟩ 60 nPrime (defScope (topS 9)) (defBody (topS 9)) = some mPrime := by rfl
theorem c_com : cSs ⟨fCom, []⟩ 60 nCom (defScope (topS 10)) (defBody (topS 10)) = some mCom := by rfl
theorem c_num : cSs ⟨fNum, []⟩ 60 nNum (defScope (topS 11)) (defBody (topS 11)) = some mNum := by rfl
theorem c_prod : cSs ⟨fProd, []⟩ 60 nProd (defScope (topS 12)) (defBody (topS 12)) = some mProd := by rfl
theorem c_law : cSs ⟨fLaw, []⟩ 60 nLaw (defScope (topS 13)) (defBody (topS 13)) = some mLaw := by rfl
theorem s_pp : FnScope nPP ["number"] (defScope (topS 1)) := ⟨rfl, rfl, rfl, by decide +kernel, rfl, by decide +kernel, by decide +kernel⟩
theorem s_phi : FnScope nPhi ["number"] (defScope (topS 2)) := ⟨rfl, rfl, rfl, by decide +kernel, rfl, by decide +kernel, by decide +kernel⟩
theorem s_pw : FnScope nPW ["most"] (defScope (topS 3)) := ⟨rfl, rfl, rfl, by decide +kernel, rfl, by decide +kernel, by decide +kernel⟩
theorem s_ow : FnScope nOW ["most"] (defScope (topS 4)) := ⟨rfl, rfl, rfl, by decide +kernel, rfl, by decide +kernel, by decide +kernel⟩
theorem s_pick : FnScope nPick ["_law_deal_here", "_law_some"] (defScope (topS 8)) := ⟨rfl, rfl, rfl, by decide +kernel, rfl, by decide +kernel, by decide +kernel⟩
theorem s_prime : FnScope nPrime ["_law_number_here"] (defScope (topS 9)) := ⟨rfl, rfl, rfl, by decide +kernel, rfl, by decide +kernel, by decide +kernel⟩
theorem s_com : FnScope nCom ["_law_one", "_law_other"] (defScope (topS 10)) := ⟨rfl, rfl, rfl, by decide +kernel, rfl, by decide +kernel, by decide +kernel⟩
theorem s_num : FnScope nNum ["_law_deal_here"] (defScope (topS 11)) := ⟨rfl, rfl, rfl, by decide +kernel, rfl, by decide +kernel, by decide +kernel⟩
theorem s_prod : FnScope nProd ["_law_pairs"] (defScope (topS 12)) := ⟨rfl, rfl, rfl, by decide +kernel, rfl, by decide +kernel, by decide +kernel⟩
theorem s_law : FnScope nLaw ["_law_script"] (defScope (topS 13)) := ⟨rfl, rfl, rfl, by decide +kernel, rfl, by decide +kernel, by decide +kernel⟩
end VL

set_option Elab.async false
set_option linter.all false
set_option maxRecDepth 100000
set_option maxHeartbeats 4000000
namespace VL
open PySem L2 PyProof.Rows K02
def sps : List (Str × FSpec) := [("prime_parts", ppSp), ("phi", phiSp), ("primes_within", pwSp), ("orders_within", owSp), ("_law_deal", dealSp), ("_law_draw", drawSp), ("_law_pick", pickSp), ("_law_is_prime", primeSp), ("_law_common", comSp), ("_law_number", numSp), ("_law_product", prodSp)]
abbrev T2 : Tab := tab0 sps
theorem all_mk {P : Program} {w : World} {K : PySem.W.Frag} {h : Heap} {mg : Str → Option Value} {fa : Addr} (X : K.In h) (G : h.Ns mainGlobals mg) (hfa : mg "law" = some (.ref fa)) (b : ∀ x ∈ bNames, PySem.W.nsIn K mainGlobals x = some none)
    (d1 : ∃ f fd, DefF K mg "prime_parts" (topS 1) f fd) (d2 : ∃ f fd, DefF K mg "phi" (topS 2) f fd) (d3 : ∃ f fd, DefF K mg "primes_within" (topS 3) f fd) (d4 : ∃ f fd, DefF K mg "orders_within" (topS 4) f fd)
    (d6 : ∃ f fd, DefF K mg "_law_deal" (topS 6) f fd) (d7 : ∃ f fd, DefF K mg "_law_draw" (topS 7) f fd) (d8 : ∃ f fd, DefF K mg "_law_pick" (topS 8) f fd) (d9 : ∃ f fd, DefF K mg "_law_is_prime" (topS 9) f fd)
    (d10 : ∃ f fd, DefF K mg "_law_common" (topS 10) f fd) (d11 : ∃ f fd, DefF K mg "_law_number" (topS 11) f fd) (d12 : ∃ f fd, DefF K mg "_law_product" (topS 12) f fd) (d13 : ∃ f fd, DefF K mg "law" (topS 13) f fd)
    (F : ∀ n : Int, 0 ≤ n → n ≤ 80 → Fine n) (F1 : ∀ n : Int, 1 ≤ n → n ≤ 400 → fine1 n = true) :
    ∃ fd : FuncData, (∀ (s : Shared) (u : Value), BindsTo s fd ⟨[u], []⟩ [("_law_script", u)]) ∧ ∀ base : Heap, K.In base → base.Ns mainGlobals mg → ∃ C : Cn, (∀ b ms, (∀ H : Hp, SqL K H b (ms.map V.int)) → C.ks b ms) ∧ FnV P w K mg base C 20 fa fd ["_law_script"] lawSp := by
  have blt := blt_mk X G b
  obtain ⟨f1, fd1, d1⟩ := d1
  obtain ⟨f2, fd2, d2⟩ := d2
  obtain ⟨f3, fd3, d3⟩ := d3
  obtain ⟨f4, fd4, d4⟩ := d4
  obtain ⟨f6, fd6, d6⟩ := d6
  obtain ⟨f7, fd7, d7⟩ := d7
  obtain ⟨f8, fd8, d8⟩ := d8
  obtain ⟨f9, fd9, d9⟩ := d9
  obtain ⟨f10, fd10, d10⟩ := d10
  obtain ⟨f11, fd11, d11⟩ := d11
  obtain ⟨f12, fd12, d12⟩ := d12
  obtain ⟨f13, fd13, d13⟩ := d13
  obtain rfl : fa = f13 := by
    have e := hfa.symm.trans d13.g
    cases e
    rfl
  refine ⟨fd13, fun s u => ?_, fun base _ _ => ⟨cn0 K, fun _ _ z => z, ?_⟩⟩
  · obtain ⟨_, _, _, _, _, _, _, _, _, e, _, _⟩ := d13.F.ex
    rw [e]
    exact .of_eq rfl
  have one : ∀ {x : Str} {st : Stmt} {f : Addr} {fd : FuncData} {a : Str}, DefF K mg x st f fd → (∀ (kV doc pm : Value) (an : Option Addr) (cdv ct : Value) (us : List Value), us.length = [a].length → bindArgs (PySem.W.fnOf x x (defArgs st) (defBody st) (defScope st) .none kV doc pm an cdv ct) ⟨us, []⟩ = pure ([a].zip us)) → Binds K fd [a] [] := fun d h => d.F.binds h
  have b1 : Binds K fd1 ["number"] [] := d1.F.binds fun _ _ _ _ _ _ us hl => match us, hl with | [_], _ => rfl
  have b2 : Binds K fd2 ["number"] [] := d2.F.binds fun _ _ _ _ _ _ us hl => match us, hl with | [_], _ => rfl
  have b3 : Binds K fd3 ["most"] [] := d3.F.binds fun _ _ _ _ _ _ us hl => match us, hl with | [_], _ => rfl
  have b4 : Binds K fd4 ["most"] [] := d4.F.binds fun _ _ _ _ _ _ us hl => match us, hl with | [_], _ => rfl
  have b6 : Binds K fd6 ["_law_script", "_law_base"] [] := d6.F.binds fun _ _ _ _ _ _ us hl => match us, hl with | [_, _], _ => rfl
  have b7 : Binds K fd7 ["_law_deal_here", "_law_many"] [] := d7.F.binds fun _ _ _ _ _ _ us hl => match us, hl with | [_, _], _ => rfl
  have b8 : Binds K fd8 ["_law_deal_here", "_law_some"] [] := d8.F.binds fun _ _ _ _ _ _ us hl => match us, hl with | [_, _], _ => rfl
  have b9 : Binds K fd9 ["_law_number_here"] [] := d9.F.binds fun _ _ _ _ _ _ us hl => match us, hl with | [_], _ => rfl
  have b10 : Binds K fd10 ["_law_one", "_law_other"] [] := d10.F.binds fun _ _ _ _ _ _ us hl => match us, hl with | [_, _], _ => rfl
  have b11 : Binds K fd11 ["_law_deal_here"] [] := d11.F.binds fun _ _ _ _ _ _ us hl => match us, hl with | [_], _ => rfl
  have b12 : Binds K fd12 ["_law_pairs"] [] := d12.F.binds fun _ _ _ _ _ _ us hl => match us, hl with | [_], _ => rfl
  have t0 : Tk P w K mg base (cn0 K) T2 ⟨[], []⟩ 0 := tk0 blt
  have v1 := fnV_of (sp := ppSp) t0 d1.F s_pp c_pp (fun ds Q E ⟨n, e, _⟩ => by rw [e]; rfl) fun ds Q E hs => v_pp hs
  have t1 := t0.add (k := 1) (by decide) d1 v1 (by rfl) b1
  have v2 := fnV_of (sp := phiSp) t1 d2.F s_phi c_phi (fun ds Q E ⟨n, e, _⟩ => by rw [e]; rfl) fun ds Q E hs => v_phi (by rfl) hs
  have t2 := t1.add (k := 2) (by decide) d2 v2 (by rfl) b2
  have v3 := fnV_of (sp := pwSp) t2 d3.F s_pw c_pw (fun ds Q E ⟨n, e, _⟩ => by rw [e]; rfl) fun ds Q E hs => v_pw (by rfl) hs
  have t3 := t2.add (k := 3) (by decide) d3 v3 (by rfl) b3
  have v4 := fnV_of (sp := owSp) t3 d4.F s_ow c_ow (fun ds Q E ⟨n, e, _⟩ => by rw [e]; rfl) fun ds Q E hs => v_ow (by rfl) hs
  have t4 := t3.add (k := 4) (by decide) d4 v4 (by rfl) b4
  have v6 : FnV P w K mg base (cn0 K) 5 f6 fd6 _ dealSp := ok_deal d6.F (blt _ (by decide)) (blt _ (by decide)) fun _ _ z => z
  have t6 := t4.add (k := 5) (by decide) d6 v6 (by rfl) b6
  have v7 : FnV P w K mg base (cn0 K) 6 f7 fd7 _ drawSp := ok_draw d7.F (blt _ (by decide))
  have t7 := t6.add (k := 6) (by decide) d7 v7 (by rfl) b7
  have v8 := fnV_of (sp := pickSp) t7 d8.F s_pick c_pick (fun ds Q E ⟨n, e, _⟩ => by rw [e]; rfl) fun ds Q E hs => v_pick (by rfl) hs
  have t8 := t7.add (k := 7) (by decide) d8 v8 (by rfl) b8
  have v9 := fnV_of (sp := primeSp) t8 d9.F s_prime c_prime (fun ds Q E ⟨n, e, _⟩ => by rw [e]; rfl) fun ds Q E hs => v_prime hs
  have t9 := t8.add (k := 8) (by decide) d9 v9 (by rfl) b9
  have v10 := fnV_of (sp := comSp) t9 d10.F s_com c_com (fun ds Q E ⟨n, m, e, _⟩ => by rw [e]; rfl) fun ds Q E hs => v_com hs
  have t10 := t9.add (k := 9) (by decide) d10 v10 (by rfl) b10
  have v11 := fnV_of (sp := numSp) t10 d11.F s_num c_num (fun ds Q E ⟨e, _⟩ => by rw [e]; rfl) fun ds Q E hs => v_num (by rfl) (by rfl) hs
  have t11 := t10.add (k := 10) (by decide) d11 v11 (by rfl) b11
  have v12 := fnV_of (sp := prodSp) t11 d12.F s_prod c_prod (fun ds Q E ⟨n, e, _⟩ => by rw [e]; rfl) fun ds Q E hs => v_prod hs
  have t12 := t11.add (k := 11) (by decide) d12 v12 (by rfl) b12
  have v13 := fnV_of (sp := lawSp) t12 d13.F s_law c_law (fun ds Q E ⟨e, _⟩ => by rw [e]; rfl) fun ds Q E hs => v_law (by rfl) (by rfl) (by rfl) (by rfl) (by rfl) (by rfl) (by rfl) (by rfl) (by rfl) F F1 hs
  exact v13.mono (by decide)
end VL

set_option Elab.async false
set_option linter.all false
set_option maxRecDepth 100000
namespace VL
theorem fine_all (n : Int) (h0 : 0 ≤ n) (h1 : n ≤ 80) : Fine n := by
  have := List.all_eq_true.mp all_fine n.toNat (List.mem_range.mpr (by omega))
  rw [Int.toNat_of_nonneg h0] at this
  exact Fine.of this
theorem fine1_all (n : Int) (h0 : 1 ≤ n) (h1 : n ≤ 400) : fine1 n = true := by
  have := List.all_eq_true.mp all_fine1 (n - 1).toNat (List.mem_range.mpr (by omega))
  rw [Int.toNat_of_nonneg (by omega)] at this
  have e : 1 + (n - 1) = n := by omega
  rw [e] at this
  exact this
end VL
open PySem PySem.W PyProof.Rows
set_option maxHeartbeats 0 in
theorem PySem.Challenge.cw_penturns_k02_primes_and_orders_holds : PySem.Challenge.rw_penturns_k02_primes_and_orders.Holds := by
  w_on; o_law; k_head; (case hw => w_witness2)
  k_fill
  refine VL.walk_V (l := PySem.Challenge.rw_penturns_k02_primes_and_orders) (k := 20) (x := "_law_script") rfl rfl ⟨rfl, by decide, by decide⟩ (fun w h Y => PySem.W.kIn_of Y) ?F
  case F =>
    intro w mg fa h KX G hmg
    refine' VL.all_mk KX G hmg ?b (VL.def_mk KX G ?a1 ?l1 ?c1 ?k1) (VL.def_mk KX G ?a2 ?l2 ?c2 ?k2) (VL.def_mk KX G ?a3 ?l3 ?c3 ?k3) (VL.def_mk KX G ?a4 ?l4 ?c4 ?k4) (VL.def_mk KX G ?a6 ?l6 ?c6 ?k6) (VL.def_mk KX G ?a7 ?l7 ?c7 ?k7) (VL.def_mk KX G ?a8 ?l8 ?c8 ?k8) (VL.def_mk KX G ?a9 ?l9 ?c9 ?k9) (VL.def_mk KX G ?a10 ?l10 ?c10 ?k10) (VL.def_mk KX G ?a11 ?l11 ?c11 ?k11) (VL.def_mk KX G ?a12 ?l12 ?c12 ?k12) (VL.def_mk KX G ?a13 ?l13 ?c13 ?k13) VL.fine_all VL.fine1_all
    (case a1 => k_is); (case l1 => k_is); (case c1 => k_is); (case k1 => k_is)
    (case a2 => k_is); (case l2 => k_is); (case c2 => k_is); (case k2 => k_is)
    (case a3 => k_is); (case l3 => k_is); (case c3 => k_is); (case k3 => k_is)
    (case a4 => k_is); (case l4 => k_is); (case c4 => k_is); (case k4 => k_is)
    (case a6 => k_is); (case l6 => k_is); (case c6 => k_is); (case k6 => k_is)
    (case a7 => k_is); (case l7 => k_is); (case c7 => k_is); (case k7 => k_is)
    (case a8 => k_is); (case l8 => k_is); (case c8 => k_is); (case k8 => k_is)
    (case a9 => k_is); (case l9 => k_is); (case c9 => k_is); (case k9 => k_is)
    (case a10 => k_is); (case l10 => k_is); (case c10 => k_is); (case k10 => k_is)
    (case a11 => k_is); (case l11 => k_is); (case c11 => k_is); (case k11 => k_is)
    (case a12 => k_is); (case l12 => k_is); (case c12 => k_is); (case k12 => k_is)
    (case a13 => k_is); (case l13 => k_is); (case c13 => k_is); (case k13 => k_is)
    case b =>
      intro x hx
      simp only [VL.bNames, List.mem_cons, List.not_mem_nil, or_false] at hx
      rcases hx with rfl | rfl | rfl | rfl | rfl | rfl | rfl | rfl | rfl | rfl | rfl | rfl | rfl | rfl | rfl | rfl | rfl | rfl | rfl | rfl | rfl | rfl <;> k_is

