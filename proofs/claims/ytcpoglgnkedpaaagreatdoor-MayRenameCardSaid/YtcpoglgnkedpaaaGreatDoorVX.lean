/-
  The typed values and the frames of the condition generator: shapes of Go values, what a frame's slots are known to hold.
-/
import Derived.Tactics
import Derived.Scope
import Derived.Orders
import Derived.WalkKit
namespace Go.Vc

/-- A slice's header. -/
structure Sl where
  a : Option Addr
  len : Nat
  cap : Nat

/-- The shape of a value of one cell. -/
inductive Leaf where
  | int (k : IntKind) | bool | str | ptr | slice | map | any
  deriving DecidableEq

@[reducible] def Leaf.C : Leaf → Type
  | .int _ => Int
  | .bool => Bool
  | .str => ByteArray
  | .ptr => Option Addr
  | .slice => Sl
  | .map => Option Nat
  | .any => Value

def Leaf.mk : (l : Leaf) → l.C → Value
  | .int k, n => .int k n
  | .bool, b => .bool b
  | .str, s => .string s
  | .ptr, a => .pointer a
  | .slice, s => .slice s.a s.len s.cap
  | .map, r => .map r
  | .any, v => v

def Leaf.proj : (l : Leaf) → Value → Option l.C
  | .int k, .int k' n => if k = k' then some n else none
  | .bool, .bool b => some b
  | .str, .string s => some s
  | .ptr, .pointer a => some a
  | .slice, .slice a n c => some ⟨a, n, c⟩
  | .map, .map r => some r
  | .any, v => some v
  | _, _ => none

theorem Leaf.proj_mk {l : Leaf} {v : Value} {c : l.C} (h : l.proj v = some c) : v = l.mk c := by
  cases l <;> cases v <;> simp_all [Leaf.proj, Leaf.mk] <;> subst_vars <;> first | rfl | simp

/-- The cells of a struct of one-celled parts. -/
@[reducible] def Carr : List Leaf → Type
  | [] => Unit
  | [l] => l.C
  | l :: m :: r => l.C × Carr (m :: r)

def Carr.cells : (ls : List Leaf) → Carr ls → List Value
  | [], _ => []
  | [l], c => [l.mk c]
  | l :: m :: r, c => l.mk c.1 :: Carr.cells (m :: r) c.2

def Carr.proj : (ls : List Leaf) → List Value → Option (Carr ls)
  | [], [] => some ()
  | [l], [v] => l.proj v
  | l :: m :: r, v :: vs =>
    match l.proj v, Carr.proj (m :: r) vs with
    | some a, some b => some (a, b)
    | _, _ => none
  | _, _ => none

theorem Carr.proj_mk : ∀ {ls : List Leaf} {vs : List Value} {c : Carr ls}, Carr.proj ls vs = some c → vs = Carr.cells ls c
  | [], vs, c, h => by cases vs <;> simp_all [Carr.proj, Carr.cells]
  | [l], vs, c, h => by
    match vs, h with
    | [v], h => simp [Carr.proj] at h; simp [Carr.cells, Leaf.proj_mk h]
    | [], h => simp [Carr.proj] at h
    | _ :: _ :: _, h => simp [Carr.proj] at h
  | l :: m :: r, vs, c, h => by
    match vs, h with
    | [], h => simp [Carr.proj] at h
    | v :: vs, h =>
      simp only [Carr.proj] at h
      split at h
      · rename_i a b ha hb
        cases h
        simp [Carr.cells, Leaf.proj_mk ha, Carr.proj_mk hb]
      · cases h

theorem Carr.cells_length : ∀ (ls : List Leaf) (c : Carr ls), (Carr.cells ls c).length = ls.length
  | [], _ => rfl
  | [_], _ => rfl
  | _ :: m :: r, c => by simp [Carr.cells, Carr.cells_length (m :: r) c.2]

/-- The shape of a value. -/
inductive Ty where
  | one (l : Leaf)
  | agg (ls : List Leaf)
  | big

@[reducible] def Ty.C : Ty → Type
  | .one l => l.C
  | .agg ls => Carr ls
  | .big => Array Value

def Ty.mk : (t : Ty) → t.C → Value
  | .one l, c => l.mk c
  | .agg ls, c => .agg (Carr.cells ls c).toArray
  | .big, c => .agg c

def Ty.proj : (t : Ty) → Value → Option t.C
  | .one l, v => l.proj v
  | .agg ls, .agg cs => Carr.proj ls cs.toList
  | .big, .agg cs => some cs
  | _, _ => none

theorem Ty.proj_mk {t : Ty} {v : Value} {c : t.C} (h : t.proj v = some c) : v = t.mk c := by
  cases t with
  | one l => exact Leaf.proj_mk h
  | agg ls =>
    cases v <;> simp only [Ty.proj] at h <;> try cases h
    simp [Ty.mk, ← Carr.proj_mk h]
  | big =>
    cases v <;> simp only [Ty.proj] at h <;> try cases h
    rfl

/-- Several values. -/
@[reducible] def Tup : List Ty → Type
  | [] => Unit
  | [t] => t.C
  | t :: u :: r => t.C × Tup (u :: r)

def Tup.vals : (ts : List Ty) → Tup ts → List Value
  | [], _ => []
  | [t], c => [t.mk c]
  | t :: u :: r, c => t.mk c.1 :: Tup.vals (u :: r) c.2

/-- What a call gives back. -/
def Tup.res (ts : List Ty) (c : Tup ts) : Value :=
  match Tup.vals ts c with
  | [v] => v
  | vs => .tuple vs.toArray

/-! ### frames -/

/-- What is known of each slot. -/
abbrev Env := List (Option Value)

def get : Env → Nat → Option Value
  | [], _ => none
  | x :: _, 0 => x
  | _ :: r, n + 1 => get r n

def put1 : Env → Nat → Option Value → Env
  | [], _, _ => []
  | _ :: r, 0, v => v :: r
  | x :: r, n + 1, v => x :: put1 r n v

def put (env : Env) : Option Tmp → Value → Env
  | none, _ => env
  | some d, v => put1 env d (some v)

def Fits (env : Env) (a : Act) : Prop := a.defers = [] ∧ a.tmps.size = env.length ∧ ∀ i v, get env i = some v → a.tmps[i]? = some v

theorem get_lt : ∀ {env : Env} {i : Nat} {v : Value}, get env i = some v → i < env.length
  | [], _, _, h => by simp [get] at h
  | _ :: _, 0, _, _ => by simp
  | _ :: r, i + 1, v, h => by
    have := get_lt (env := r) (i := i) (v := v) (by simpa [get] using h)
    simp; omega

theorem put1_length : ∀ (env : Env) (i : Nat) (v : Option Value), (put1 env i v).length = env.length
  | [], _, _ => rfl
  | _ :: _, 0, _ => rfl
  | _ :: r, i + 1, v => by simp [put1, put1_length r i v]

theorem get_put1 : ∀ (env : Env) (i j : Nat) (v : Option Value), get (put1 env i v) j = if i = j ∧ i < env.length then v else get env j
  | [], i, j, v => by simp [put1, get]
  | x :: r, 0, 0, v => by simp [put1, get]
  | x :: r, 0, j + 1, v => by simp [put1, get]
  | x :: r, i + 1, 0, v => by simp [put1, get]
  | x :: r, i + 1, j + 1, v => by
    simp only [put1, get, get_put1 r i j v, List.length_cons, Nat.add_right_cancel_iff, Nat.add_lt_add_iff_right]

theorem Fits.put {env : Env} {a : Act} (h : Fits env a) (d : Option Tmp) (v : Value) : Fits (put env d v) (a.put d v) := by
  cases d with
  | none => exact h
  | some d =>
    refine ⟨h.1, by simp [Vc.put, Act.put, put1_length, h.2.1], fun i u hi => ?_⟩
    simp only [Vc.put, get_put1] at hi
    simp only [Act.put]
    split at hi
    · rename_i hc
      obtain ⟨rfl, hlt⟩ := hc
      cases hi
      have hsz := h.2.1
      simp [hsz, hlt]
    · rename_i hc
      have h2 := h.2.2 i u hi
      by_cases hdi : d = i
      · subst hdi
        exact absurd ⟨rfl, get_lt hi⟩ hc
      · rw [Array.getElem?_setIfInBounds_ne hdi]
        exact h2

/-- Less may be known. -/
def Le (e e' : Env) : Prop := e.length = e'.length ∧ ∀ i v, get e i = some v → get e' i = some v

theorem Fits.le {e e' : Env} {a : Act} (hl : Le e e') (h : Fits e' a) : Fits e a :=
  ⟨h.1, h.2.1.trans hl.1.symm, fun i v hi => h.2.2 i v (hl.2 i v hi)⟩

/-- An operand's value. -/
def ev (env : Env) : Operand → Option Value
  | .tmp t => get env t
  | .const v => some v
  | .global g => some (.pointer (some ⟨g, 0, none⟩))
  | .func f => some (.func (.func f) #[] #[])

theorem ev_eval {env : Env} {a : Act} (h : Fits env a) {x : Operand} {v : Value} (hv : ev env x = some v) : a.eval x = v := by
  cases x with
  | tmp t =>
    have := h.2.2 t v hv
    simp [Act.eval, Array.getD_eq_getD_getElem?, this]
  | const u => simpa [ev, Act.eval] using hv
  | global g => simpa [ev, Act.eval] using hv
  | func f => simpa [ev, Act.eval] using hv

def withV (o : Option Value) (f : Value → Prop) : Prop :=
  match o with
  | some v => f v
  | none => False

theorem withV_elim {o : Option Value} {f : Value → Prop} (h : withV o f) : ∃ v, o = some v ∧ f v := by
  cases o with
  | none => exact h.elim
  | some v => exact ⟨v, rfl, h⟩

def evs (env : Env) : List Operand → Option (List Value)
  | [] => some []
  | x :: r => match ev env x, evs env r with
    | some v, some vs => some (v :: vs)
    | _, _ => none

theorem evs_eval {env : Env} {a : Act} (h : Fits env a) : ∀ {xs : List Operand} {vs : List Value}, evs env xs = some vs → xs.map a.eval = vs
  | [], vs, hv => by simpa [evs] using hv
  | x :: r, vs, hv => by
    simp only [evs] at hv
    split at hv
    · rename_i v vs' h1 h2
      cases hv
      simp [ev_eval h h1, evs_eval h h2]
    · cases hv

def withVs (o : Option (List Value)) (f : List Value → Prop) : Prop :=
  match o with
  | some v => f v
  | none => False

theorem withVs_elim {o : Option (List Value)} {f : List Value → Prop} (h : withVs o f) : ∃ v, o = some v ∧ f v := by
  cases o with
  | none => exact h.elim
  | some v => exact ⟨v, rfl, h⟩

end Go.Vc

/-
  The table of types, and what each operation that leaves memory alone asks and gives.
-/
namespace Go.Vc

/-! ### types -/
inductive Shape where
  | int (k : IntKind) | bool | str | ptr (e : TypeId) | slice (e : TypeId) | array (n : Nat) (e : TypeId) | map (k e : TypeId) | struct (fs : List (Nat × TypeId)) | other

def shOf : TypeDesc → Shape
  | .int k => .int k
  | .bool => .bool
  | .string => .str
  | .pointer e => .ptr e
  | .slice e => .slice e
  | .array n e => .array n e
  | .map k e => .map k e
  | .struct fs => .struct (fs.toList.map fun f => (f.offset, f.type))
  | _ => .other

def isAggD : TypeDesc → Bool
  | .struct _ | .array _ _ => true
  | _ => false

structure TI where
  ty : Ty
  size : Nat
  bytes : Nat
  zero : Value
  sh : Shape

def Ty.fit : Ty → Nat → Bool → Bool
  | .one _, n, b => Nat.beq n 1 && !b
  | .agg ls, n, b => Nat.beq ls.length n && b
  | .big, _, b => b

structure TIok (P : Program) (t : TypeId) (x : TI) : Prop where
  info : ∃ i, P.info? t = some i ∧ i.size = x.size ∧ i.bytes = x.bytes ∧ i.zero = some x.zero
  desc : ∃ d, P.underlying t = some d ∧ shOf d = x.sh ∧ x.ty.fit x.size (isAggD d) = true

abbrev Tab := List (Nat × TI)

def tab : Tab → Nat → Option TI
  | [], _ => none
  | (u, x) :: r, t => match Nat.beq u t with
    | true => some x
    | false => tab r t

def TabOk (P : Program) (T : Tab) : Prop := ∀ x ∈ T, TIok P x.1 x.2

theorem tab_ok {P : Program} : ∀ {T : Tab} {t : Nat} {x : TI}, TabOk P T → tab T t = some x → TIok P t x
  | [], _, _, _, h => by simp [tab] at h
  | (u, y) :: r, t, x, hT, h => by
    simp only [tab] at h
    split at h
    · rename_i hb
      cases h
      have : u = t := Nat.eq_of_beq_eq_true hb
      subst this
      exact hT _ (List.mem_cons_self)
    · exact tab_ok (fun z hz => hT z (List.mem_cons_of_mem _ hz)) h

def withT {α : Type} (o : Option α) (f : α → Prop) : Prop :=
  match o with
  | some v => f v
  | none => False

theorem withT_elim {α : Type} {o : Option α} {f : α → Prop} (h : withT o f) : ∃ v, o = some v ∧ f v := by
  cases o with
  | none => exact h.elim
  | some v => exact ⟨v, rfl, h⟩

/-! ### the words of a condition -/

/-- The ways of a test. -/
def cnd (b : Bool) (A B : Prop) : Prop :=
  match b with
  | true => A
  | false => B

theorem cnd_intro {b : Bool} {A B : Prop} (h : b = true → A) (h' : b = false → B) : cnd b A B := by
  cases b
  · exact h' rfl
  · exact h rfl

def onSome {α : Type} (p : Option α) (f : α → Prop) : Prop :=
  match p with
  | some a => f a
  | none => False

theorem onSome_elim {α : Type} {p : Option α} {f : α → Prop} (h : onSome p f) : ∃ a, p = some a ∧ f a := by
  cases p with
  | none => exact h.elim
  | some a => exact ⟨a, rfl, h⟩

def onBool (v : Value) (f : Bool → Prop) : Prop :=
  match v with
  | .bool b => f b
  | _ => False

theorem onBool_elim {v : Value} {f : Bool → Prop} (h : onBool v f) : ∃ b, v = .bool b ∧ f b := by
  cases v <;> try exact h.elim
  exact ⟨_, rfl, h⟩

def onInt (v : Value) (f : IntKind → Int → Prop) : Prop :=
  match v with
  | .int k n => f k n
  | _ => False

theorem onInt_elim {v : Value} {f : IntKind → Int → Prop} (h : onInt v f) : ∃ k n, v = .int k n ∧ f k n := by
  cases v <;> try exact h.elim
  exact ⟨_, _, rfl, h⟩

def onPtr (v : Value) (f : Addr → Prop) : Prop :=
  match v with
  | .pointer p => onSome p f
  | _ => False

theorem onPtr_elim {v : Value} {f : Addr → Prop} (h : onPtr v f) : ∃ a, v = .pointer (some a) ∧ f a := by
  cases v <;> try exact h.elim
  obtain ⟨a, rfl, h⟩ := onSome_elim h
  exact ⟨a, rfl, h⟩

def onAgg (v : Value) (f : Array Value → Prop) : Prop :=
  match v with
  | .agg cs => f cs
  | _ => False

theorem onAgg_elim {v : Value} {f : Array Value → Prop} (h : onAgg v f) : ∃ cs, v = .agg cs ∧ f cs := by
  cases v <;> try exact h.elim
  exact ⟨_, rfl, h⟩

def onSl (v : Value) (f : Sl → Prop) : Prop :=
  match v with
  | .slice a n c => f ⟨a, n, c⟩
  | _ => False

theorem onSl_elim {v : Value} {f : Sl → Prop} (h : onSl v f) : ∃ a n c, v = .slice a n c ∧ f ⟨a, n, c⟩ := by
  cases v <;> try exact h.elim
  exact ⟨_, _, _, rfl, h⟩

def onStr (v : Value) (f : ByteArray → Prop) : Prop :=
  match v with
  | .string s => f s
  | _ => False

theorem onStr_elim {v : Value} {f : ByteArray → Prop} (h : onStr v f) : ∃ s, v = .string s ∧ f s := by
  cases v <;> try exact h.elim
  exact ⟨_, rfl, h⟩

/-- A cell is read. -/
def ldP (l : Leaf) (A : Addr) (w : World) (K : l.C → Prop) : Prop := ∃ c, w.cell? A = some (l.mk c) ∧ K c

/-- Cells that lie side by side. -/
def cellsAt (w : World) (A : Addr) (vs : List Value) : Prop := ∀ i v, vs[i]? = some v → w.cell? (A.add i) = some v

/-- A struct of one-celled parts is read. -/
def ldA (ls : List Leaf) (A : Addr) (w : World) (K : Carr ls → Prop) : Prop := ∃ c, cellsAt w A (Carr.cells ls c) ∧ K c

/-- A large value is read. -/
def ldB (n : Nat) (A : Addr) (w : World) (K : Array Value → Prop) : Prop := ∃ c : Array Value, c.size = n ∧ cellsAt w A c.toList ∧ K c

/-- Something is asked of memory that leaves it as it was. -/
def rdP (P : Program) (s : Sem Value) (ts : List Ty) (w : World) (K : Tup ts → Prop) : Prop := ∃ c, s.run P w = .ok (Tup.res ts c) w ∧ K c

def idxP (i : Int) (n : Nat) (K : Prop) : Prop := 0 ≤ i ∧ i < n ∧ K

/-- A byte of a string. -/
def idxS (s : ByteArray) (i : Int) (K : UInt8 → Prop) : Prop := ∃ b, 0 ≤ i ∧ s[i.toNat]? = some b ∧ K b

def hiOf (hi : Option Int) (n : Nat) : Nat :=
  match hi with
  | some h => h.toNat
  | none => n

def hiOk (hi : Option Int) (cap : Nat) : Prop :=
  match hi with
  | some h => 0 ≤ h ∧ h ≤ cap
  | none => True

/-- 's[lo:hi]' of a slice whose elements take sz cells. -/
def slcP (s : Sl) (lo : Int) (hi : Option Int) (sz : Nat) (K : Sl → Prop) : Prop :=
  hiOk hi s.cap ∧ 0 ≤ lo ∧ lo ≤ hiOf hi s.len ∧ K ⟨if s.cap = lo.toNat then s.a else s.a.map (·.add (lo.toNat * sz)), hiOf hi s.len - lo.toNat, s.cap - lo.toNat⟩

/-- .. of a string. -/
def strP (s : ByteArray) (lo : Int) (hi : Option Int) (K : ByteArray → Prop) : Prop :=
  hiOk hi s.size ∧ 0 ≤ lo ∧ lo ≤ hiOf hi s.size ∧ K (s.extract lo.toNat (hiOf hi s.size))

def maxI (x y : Int) : Int := if y > x then y else x
def minI (x y : Int) : Int := if y < x then y else x

end Go.Vc

/-
  What each operation that leaves memory as it was asks and gives; it is so ('opN_sound').
-/
namespace Go.Vc

abbrev KN := Value → Option (World → Prop) → Prop

def stp (st : Option (World → Prop)) (w : World) : Prop :=
  match st with
  | some f => f w
  | none => True

/-- Sizes of the parts of a struct. -/
def partsOf (T : Tab) : List (Nat × TypeId) → Option (List (Nat × Nat))
  | [] => some []
  | (off, t) :: r => match tab T t, partsOf T r with
    | some x, some l => some ((off, x.size) :: l)
    | _, _ => none

/-- A part of a struct, or of an array. -/
def partV (x : TI) (cs : Array Value) (off : Nat) : Option Value :=
  match x.ty with
  | .one _ => cs[off]?
  | _ => some (.agg (cs.extract off (off + x.size)))

def fillV (place : Nat → Option (Nat × Nat)) (zero : Value) (parts : List (Nat × Value)) : Option Value :=
  match Instr.fill place zero.cells parts with
  | some cs => some (.agg cs)
  | none => none

def evParts (env : Env) : List (Nat × Operand) → Option (List (Nat × Value))
  | [] => some []
  | (i, x) :: r => match ev env x, evParts env r with
    | some v, some l => some ((i, v) :: l)
    | _, _ => none

theorem evParts_eval {env : Env} {a : Act} (h : Fits env a) : ∀ {xs : List (Nat × Operand)} {vs : List (Nat × Value)}, evParts env xs = some vs → xs.map (fun p => (p.1, a.eval p.2)) = vs
  | [], vs, hv => by simpa [evParts] using hv
  | (i, x) :: r, vs, hv => by
    simp only [evParts] at hv
    split at hv
    · rename_i v vs' h1 h2
      cases hv
      simp [ev_eval h h1, evParts_eval h h2]
    · cases hv

/-- Two operands. -/
def binK (T : Tab) (op : BinOp) (t : TypeId) (x y : Value) (K : Value → Prop) : Prop :=
  match op, x, y with
  | .shl, .int k a, .int _ b => 0 ≤ b ∧ K (.int k (k.wrap (a * 2 ^ (min b.toNat k.bits))))
  | .shr, .int k a, .int _ b => 0 ≤ b ∧ K (.int k (a.fdiv (2 ^ (min b.toNat k.bits))))
  | .add, .int k a, .int k' b => if k = k' then K (.int k (k.wrap (a + b))) else False
  | .sub, .int k a, .int k' b => if k = k' then K (.int k (k.wrap (a - b))) else False
  | .mul, .int k a, .int k' b => if k = k' then K (.int k (k.wrap (a * b))) else False
  | .quo, .int k a, .int k' b => if k = k' then b ≠ 0 ∧ K (.int k (k.wrap (a.tdiv b))) else False
  | .rem, .int k a, .int k' b => if k = k' then b ≠ 0 ∧ K (.int k (a.tmod b)) else False
  | .and, .int k a, .int k' b => if k = k' then K (.int k (k.wrap (BitVec.ofInt k.bits a &&& BitVec.ofInt k.bits b).toNat)) else False
  | .or, .int k a, .int k' b => if k = k' then K (.int k (k.wrap (BitVec.ofInt k.bits a ||| BitVec.ofInt k.bits b).toNat)) else False
  | .xor, .int k a, .int k' b => if k = k' then K (.int k (k.wrap (BitVec.ofInt k.bits a ^^^ BitVec.ofInt k.bits b).toNat)) else False
  | .andNot, .int k a, .int k' b => if k = k' then K (.int k (k.wrap (BitVec.ofInt k.bits a &&& ~~~(BitVec.ofInt k.bits b)).toNat)) else False
  | .eql, .int k a, .int k' b => if k = k' then K (.bool (a == b)) else False
  | .neq, .int k a, .int k' b => if k = k' then K (.bool (a != b)) else False
  | .lss, .int k a, .int k' b => if k = k' then K (.bool (a < b)) else False
  | .leq, .int k a, .int k' b => if k = k' then K (.bool (a ≤ b)) else False
  | .gtr, .int k a, .int k' b => if k = k' then K (.bool (a > b)) else False
  | .geq, .int k a, .int k' b => if k = k' then K (.bool (a ≥ b)) else False
  | .add, .string a, .string b => ((a.size + b.size : Nat) : Int) ≤ IntKind.i64.max ∧ K (.string (a ++ b))
  | .eql, .string a, .string b => K (.bool (a.toList == b.toList))
  | .neq, .string a, .string b => K (.bool !(a.toList == b.toList))
  | .eql, .bool a, .bool b => (match tab T t with | some { sh := .bool, .. } => K (.bool (a == b)) | _ => False)
  | .neq, .bool a, .bool b => (match tab T t with | some { sh := .bool, .. } => K (.bool !(a == b)) | _ => False)
  | .eql, .pointer p, .pointer none => (match tab T t with | some { sh := .ptr _, .. } => K (.bool p.isNone) | _ => False)
  | .neq, .pointer p, .pointer none => (match tab T t with | some { sh := .ptr _, .. } => K (.bool !p.isNone) | _ => False)
  | .eql, .slice p _ _, .slice none _ _ => (match tab T t with | some { sh := .slice _, .. } => K (.bool p.isNone) | _ => False)
  | .neq, .slice p _ _, .slice none _ _ => (match tab T t with | some { sh := .slice _, .. } => K (.bool !p.isNone) | _ => False)
  | .eql, .map p, .map none => (match tab T t with | some { sh := .map _ _, .. } => K (.bool p.isNone) | _ => False)
  | .neq, .map p, .map none => (match tab T t with | some { sh := .map _ _, .. } => K (.bool !p.isNone) | _ => False)
  | _, _, _ => False

/-- Is an equation of two values reckoned by hand? -/
def easy : BinOp → Value → Value → Bool
  | .eql, .agg _, _ | .neq, .agg _, _ => false
  | .eql, .iface _ _, _ | .neq, .iface _ _, _ => false
  | .eql, .nilIface, _ | .neq, .nilIface, _ => false
  | _, _, _ => true

def unK (op : UnOp) (x : Value) (K : Value → Prop) : Prop :=
  match op, x with
  | .not, .bool b => K (.bool !b)
  | .neg, .int k n => K (.int k (k.wrap (0 - n)))
  | _, _ => False

def loadK (T : Tab) (t : TypeId) (A : Addr) (w : World) (K : KN) : Prop :=
  withT (tab T t) fun x =>
    match x.ty with
    | .one l => ldP l A w fun c => K (l.mk c) (some fun w' => w'.cell? A = some (l.mk c))
    | .agg ls => ldA ls A w fun c => K (.agg (Carr.cells ls c).toArray) (some fun w' => cellsAt w' A (Carr.cells ls c))
    | .big => ldB x.size A w fun c => K (.agg c) (some fun w' => cellsAt w' A c.toList)

def readK (P : Program) (s : Sem Value) (ts : List Ty) (w : World) (K : KN) : Prop :=
  rdP P s ts w fun c => K (Tup.res ts c) (some fun w' => s.run P w' = .ok (Tup.res ts c) w')

def tyOf (T : Tab) (t : TypeId) : Option Ty :=
  match tab T t with
  | some x => some x.ty
  | none => none

def intOpt (o : Option Value) (f : Option Int → Prop) : Prop :=
  match o with
  | none => f none
  | some v => onInt v fun _ n => f (some n)

def evOpt (env : Env) : Option Operand → Option (Option Value)
  | none => some none
  | some x => match ev env x with
    | some v => some (some v)
    | none => none

def sliceK (T : Tab) (t : TypeId) (x : Value) (lo hi : Option Value) (K : Value → Prop) : Prop :=
  intOpt lo fun l => intOpt hi fun h =>
  withT (tab T t) fun ti =>
    match ti.sh with
    | .str => onStr x fun s => strP s (l.getD 0) h fun s' => K (.string s')
    | .slice e => onSl x fun s => withT (tab T e) fun te => slcP s (l.getD 0) h te.size fun s' => K (.slice s'.a s'.len s'.cap)
    | .array n e => onPtr x fun A => withT (tab T e) fun te => slcP ⟨some A, n, n⟩ (l.getD 0) h te.size fun s' => K (.slice s'.a s'.len s'.cap)
    | _ => False

def indexAddrK (T : Tab) (t : TypeId) (x i : Value) (K : Value → Prop) : Prop :=
  onInt i fun _ n => withT (tab T t) fun ti =>
    match ti.sh with
    | .slice e => onSl x fun s => withT (tab T e) fun te => idxP n s.len (onSome s.a fun A => K (.pointer (some (A.add (n.toNat * te.size)))))
    | .array m e => onPtr x fun A => withT (tab T e) fun te => idxP n m (K (.pointer (some (A.add (n.toNat * te.size)))))
    | _ => False

def indexK (T : Tab) (t : TypeId) (x i : Value) (K : Value → Prop) : Prop :=
  onInt i fun _ n => withT (tab T t) fun ti =>
    match ti.sh with
    | .str => onStr x fun s => idxS s n fun b => K (.int .u8 b.toNat)
    | .array m e => onAgg x fun cs => withT (tab T e) fun te => idxP n m (withT (partV te cs (n.toNat * te.size)) K)
    | _ => False

def fieldAddrK (T : Tab) (t : TypeId) (x : Value) (f : Nat) (K : Value → Prop) : Prop :=
  onPtr x fun A => withT (tab T t) fun ti =>
    match ti.sh with
    | .struct fs => withT (fs[f]?) fun p => withT (tab T p.2) fun tf => match Nat.beq tf.size 0 with | true => False | false => K (.pointer (some (A.add p.1)))
    | _ => False

def fieldK (T : Tab) (t : TypeId) (x : Value) (f : Nat) (K : Value → Prop) : Prop :=
  onAgg x fun cs => withT (tab T t) fun ti =>
    match ti.sh with
    | .struct fs => withT (fs[f]?) fun p => withT (tab T p.2) fun tf => withT (partV tf cs p.1) K
    | _ => False

def buildK (T : Tab) (t : TypeId) (parts : List (Nat × Value)) (K : Value → Prop) : Prop :=
  withT (tab T t) fun ti =>
    match ti.sh with
    | .struct fs => withT (partsOf T fs) fun ps => withT (fillV (ps.toArray[·]?) ti.zero parts) K
    | .array _ e => withT (tab T e) fun te => withT (fillV (fun i => some (i * te.size, te.size)) ti.zero parts) K
    | _ => False

def extractK (x : Value) (i : Nat) (K : Value → Prop) : Prop :=
  match x with
  | .tuple vs => withT (vs[i]?) K
  | _ => False

def convK (T : Tab) (P : Program) (src dst : TypeId) (x : Value) (w : World) (K : KN) : Prop :=
  withT (tab T src) fun _ => withT (tab T dst) fun b =>
    match b.sh, x with
    | .int k, .int _ n => K (.int k (k.wrap n)) none
    | .str, .string s => K (.string s) none
    | .str, .slice p n c => readK P (convert src dst (.slice p n c)) [.one .str] w K
    | _, _ => False

def lenK (T : Tab) (P : Program) (t : TypeId) (s : Sem Value) (x : Value) (w : World) (K : KN) : Prop :=
  withT (tab T t) fun a =>
    match a.sh, x with
    | .str, .string s => K (.int .i64 s.size) none
    | .slice _, .slice _ n _ => K (.int .i64 n) none
    | .array n _, _ => K (.int .i64 n) none
    | .map _ _, .map _ => readK P s [.one (.int .i64)] w K
    | _, _ => False

def capK (T : Tab) (t : TypeId) (x : Value) (K : Value → Prop) : Prop :=
  withT (tab T t) fun a =>
    match a.sh, x with
    | .slice _, .slice _ _ n => K (.int .i64 n)
    | _, _ => False

def mmK (f : Int → Int → Int) (vs : List Value) (K : Value → Prop) : Prop :=
  match vs with
  | [.int k x, .int _ y] => K (.int k (f x y))
  | _ => False

def nilK (x : Value) (K : Value → Prop) : Prop :=
  match x with
  | .pointer p => onSome p fun A => K (.pointer (some A))
  | .func (.func f) a b => K (.func (.func f) a b)
  | _ => False

/-- The type of what a lookup gives. -/
def elemTy (T : Tab) (t : TypeId) (ok : Bool) : Option (List Ty) :=
  match tab T t with
  | some { sh := .map _ e, .. } => (match tyOf T e, ok with
    | some x, false => some [x]
    | some x, true => some [x, .one .bool]
    | none, _ => none)
  | _ => none

/-- AN OPERATION THAT LEAVES MEMORY AS IT WAS: what it asks; its value; what makes it the same elsewhere. -/
def opN (T : Tab) (P : Program) (hint : List Ty) (o : Oper) (env : Env) (w : World) (K : KN) : Prop :=
  match o.op with
  | .move x | .assign x => withV (ev env x) fun v => K v none
  | .pick c a b => withV (ev env c) fun v => onBool v fun c => cnd c (withV (ev env a) fun v => K v none) (withV (ev env b) fun v => K v none)
  | .load t x => withV (ev env x) fun v => onPtr v fun A => loadK T t A w K
  | .nilCheck x => withV (ev env x) fun v => nilK v fun v => K v none
  | .binOp op t x y _ => withV (ev env x) fun a => withV (ev env y) fun b =>
      match easy op a b with
      | true => binK T op t a b fun v => K v none
      | false => readK P (do eqGuard op t x y a b; binOp op t a b) [.one .bool] w K
  | .unOp op _ x => withV (ev env x) fun a => unK op a fun v => K v none
  | .convert src dst x => withV (ev env x) fun a => convK T P src dst a w K
  | .makeInterface t x => withV (ev env x) fun a => readK P (Instr.makeInterface t a) [.one .any] w K
  | .makeFunc fn first captured => withVs (evs env first.toList) fun xs => withVs (evs env captured.toList) fun ys => K (.func fn xs.toArray ys.toArray) none
  | .slice t x lo hi none => withV (ev env x) fun v => withT (evOpt env lo) fun l => withT (evOpt env hi) fun h => sliceK T t v l h fun v => K v none
  | .fieldAddr t x f => withV (ev env x) fun v => fieldAddrK T t v f fun v => K v none
  | .field t x f => withV (ev env x) fun v => fieldK T t v f fun v => K v none
  | .indexAddr t x i => withV (ev env x) fun v => withV (ev env i) fun n => indexAddrK T t v n fun v => K v none
  | .index t x i => withV (ev env x) fun v => withV (ev env i) fun n => indexK T t v n fun v => K v none
  | .build t parts => withT (evParts env parts.toList) fun ps => buildK T t ps fun v => K v none
  | .extract x i => withV (ev env x) fun v => extractK v i fun v => K v none
  | .lookup t m k ok => withV (ev env m) fun m => withV (ev env k) fun k => withT (elemTy T t ok) fun ts => readK P (Instr.lookup t m k ok) ts w K
  | .entry it => withV (ev env it) fun v => readK P (Instr.entry v) hint w K
  | .call { callee := .builtin b, args, argTypes } => withVs (evs env args.toList) fun vs =>
      (match b with
      | .len => withT (argTypes[0]?) fun t => withT (vs[0]?) fun v => lenK T P t (Builtin.len_ argTypes o.type vs.toArray) v w K
      | .cap => withT (argTypes[0]?) fun t => withT (vs[0]?) fun v => capK T t v fun v => K v none
      | .min => mmK minI vs fun v => K v none
      | .max => mmK maxI vs fun v => K v none
      | _ => False)
  | _ => False

end Go.Vc

/-
  'opN' is sound: where it holds, the operation gives that value, and leaves memory as it was.
-/
namespace Go.Vc

section
variable {P : Program} {T : Tab} {w : World}

/-- What 'opN' promises of an operation's run. -/
def Gives (P : Program) (s : Sem Value) (w : World) (K : KN) : Prop :=
  ∃ v st, (∀ w', stp st w' → s.run P w' = .ok v w') ∧ stp st w ∧ K v st

theorem Gives.mono {s : Sem Value} {K K' : KN} (h : Gives P s w K) (hk : ∀ v st, K v st → K' v st) : Gives P s w K' := by
  obtain ⟨v, st, h1, h2, h3⟩ := h
  exact ⟨v, st, h1, h2, hk _ _ h3⟩

theorem gives_none {s : Sem Value} {K : KN} {v : Value} (h : ∀ w', s.run P w' = .ok v w') (hk : K v none) : Gives P s w K :=
  ⟨v, none, fun w' _ => h w', trivial, hk⟩

theorem gives_pure {s : Sem Value} {K : Value → Prop} {v : Value} (h : ∀ w', s.run P w' = .ok v w') (hk : K v) : Gives P s w (fun v _ => K v) :=
  ⟨v, none, fun w' _ => h w', trivial, hk⟩

theorem run_und {t : TypeId} {d : TypeDesc} (h : P.underlying t = some d) (w : World) : (underlying t).run P w = .ok d w := by
  simp [underlying, h]

theorem run_size {t : TypeId} {x : TI} (h : TIok P t x) (w : World) : (sizeOf t).run P w = .ok x.size w := by
  obtain ⟨i, hi, hs, _, _⟩ := h.info
  simp [sizeOf, typeInfo, hi, hs]

theorem run_zero {t : TypeId} {x : TI} (h : TIok P t x) (w : World) : (zeroValue t).run P w = .ok x.zero w := by
  obtain ⟨i, hi, _, _, hz⟩ := h.info
  simp [zeroValue, typeInfo, hi, hz]

theorem run_bytes {t : TypeId} {x : TI} (h : TIok P t x) (w : World) : ∃ i, (typeInfo t).run P w = .ok i w ∧ i.bytes = x.bytes ∧ i.size = x.size := by
  obtain ⟨i, hi, hs, hb, hz⟩ := h.info
  exact ⟨i, by simp [typeInfo, hi], hb, hs⟩

theorem run_isAgg {t : TypeId} {x : TI} (h : TIok P t x) (w : World) : ∃ b, (isAgg t).run P w = .ok b w ∧ x.ty.fit x.size b = true := by
  obtain ⟨d, hd, _, hf⟩ := h.desc
  refine ⟨isAggD d, ?_, hf⟩
  unfold isAgg
  simp only [Bind.bind, Sem.run_bind', run_und hd, Result.andThen]
  cases d <;> rfl

theorem desc_of {t : TypeId} {x : TI} (h : TIok P t x) : ∃ d, P.underlying t = some d ∧ shOf d = x.sh := by
  obtain ⟨d, hd, hs, _⟩ := h.desc
  exact ⟨d, hd, hs⟩

theorem desc_slice {t e : TypeId} {x : TI} (h : TIok P t x) (hs : x.sh = .slice e) : P.underlying t = some (.slice e) := by
  obtain ⟨d, hd, hs'⟩ := desc_of h
  rw [hs] at hs'
  cases d <;> simp [shOf] at hs'
  subst hs'; exact hd
theorem desc_str {t : TypeId} {x : TI} (h : TIok P t x) (hs : x.sh = .str) : P.underlying t = some .string := by
  obtain ⟨d, hd, hs'⟩ := desc_of h
  rw [hs] at hs'
  cases d <;> simp [shOf] at hs'
  exact hd
theorem desc_bool {t : TypeId} {x : TI} (h : TIok P t x) (hs : x.sh = .bool) : P.underlying t = some .bool := by
  obtain ⟨d, hd, hs'⟩ := desc_of h
  rw [hs] at hs'
  cases d <;> simp [shOf] at hs'
  exact hd
theorem desc_int {t : TypeId} {k : IntKind} {x : TI} (h : TIok P t x) (hs : x.sh = .int k) : P.underlying t = some (.int k) := by
  obtain ⟨d, hd, hs'⟩ := desc_of h
  rw [hs] at hs'
  cases d <;> simp [shOf] at hs'
  subst hs'; exact hd
theorem desc_ptr {t e : TypeId} {x : TI} (h : TIok P t x) (hs : x.sh = .ptr e) : P.underlying t = some (.pointer e) := by
  obtain ⟨d, hd, hs'⟩ := desc_of h
  rw [hs] at hs'
  cases d <;> simp [shOf] at hs'
  subst hs'; exact hd
theorem desc_map {t k e : TypeId} {x : TI} (h : TIok P t x) (hs : x.sh = .map k e) : P.underlying t = some (.map k e) := by
  obtain ⟨d, hd, hs'⟩ := desc_of h
  rw [hs] at hs'
  cases d <;> simp [shOf] at hs'
  obtain ⟨rfl, rfl⟩ := hs'; exact hd
theorem desc_array {t e : TypeId} {n : Nat} {x : TI} (h : TIok P t x) (hs : x.sh = .array n e) : P.underlying t = some (.array n e) := by
  obtain ⟨d, hd, hs'⟩ := desc_of h
  rw [hs] at hs'
  cases d <;> simp [shOf] at hs'
  obtain ⟨rfl, rfl⟩ := hs'; exact hd
theorem desc_struct {t : TypeId} {fs : List (Nat × TypeId)} {x : TI} (h : TIok P t x) (hs : x.sh = .struct fs) : ∃ g, P.underlying t = some (.struct g) ∧ g.toList.map (fun f => (f.offset, f.type)) = fs := by
  obtain ⟨d, hd, hs'⟩ := desc_of h
  rw [hs] at hs'
  cases d <;> simp [shOf] at hs'
  exact ⟨_, hd, hs'⟩

theorem run_loadVar_one {t : TypeId} {x : TI} {l : Leaf} (h : TIok P t x) (hl : x.ty = .one l) {A : Addr} {v : Value} {w : World} (hc : w.cell? A = some v) : (loadVar t A).run P w = .ok v w := by
  obtain ⟨b, hb, hf⟩ := run_isAgg (w := w) h
  rw [hl] at hf
  simp [Ty.fit] at hf
  simp [loadVar, hb, hf.2, hc]

theorem run_loadVar_agg {t : TypeId} {x : TI} (h : TIok P t x) (hl : ∀ l, x.ty ≠ .one l) {A : Addr} {vs : List Value} {w : World} (hn : vs.length = x.size) (hc : cellsAt w A vs) : (loadVar t A).run P w = .ok (.agg vs.toArray) w := by
  obtain ⟨b, hb, hf⟩ := run_isAgg (w := w) h
  have hb1 : b = true := by
    cases hx : x.ty with
    | one l => exact absurd hx (hl l)
    | agg ls => rw [hx] at hf; simp [Ty.fit] at hf; exact hf.2
    | big => rw [hx] at hf; simpa [Ty.fit] using hf
  subst hb1
  have := run_loadCells_list (P := P) (w := w) A vs hc
  rw [hn] at this
  simp [loadVar, hb, run_size h, this]

theorem loadK_sound (hT : TabOk P T) {t : TypeId} {A : Addr} {K : KN} (h : loadK T t A w K) : Gives P (Instr.loadAt t (.pointer (some A))) w K := by
  obtain ⟨x, hx, h⟩ := withT_elim h
  have hok := tab_ok hT hx
  have hrun : ∀ w' : World, (Instr.loadAt t (.pointer (some A))).run P w' = (loadVar t A).run P w' := fun w' => by simp [Instr.loadAt, Instr.sureAddr]
  split at h
  · rename_i l hl
    obtain ⟨c, hc, hk⟩ := h
    exact ⟨_, some (fun w' => w'.cell? A = some (l.mk c)), fun w' hw' => by rw [hrun]; exact run_loadVar_one hok hl hw', hc, hk⟩
  · rename_i ls hl
    obtain ⟨c, hc, hk⟩ := h
    have hn : (Carr.cells ls c).length = x.size := by
      obtain ⟨b, _, hf⟩ := run_isAgg (w := w) hok
      rw [hl] at hf; simp [Ty.fit] at hf
      rw [Carr.cells_length]; exact hf.1
    exact ⟨_, some (fun w' => cellsAt w' A (Carr.cells ls c)), fun w' hw' => by rw [hrun]; exact run_loadVar_agg hok (by simp [hl]) hn hw', hc, hk⟩
  · rename_i hl
    obtain ⟨c, hn, hc, hk⟩ := h
    exact ⟨_, some (fun w' => cellsAt w' A c.toList), fun w' hw' => by rw [hrun]; have := run_loadVar_agg hok (by simp [hl]) (vs := c.toList) (by simpa using hn) hw'; simpa using this, hc, hk⟩

theorem readK_sound {s : Sem Value} {ts : List Ty} {K : KN} (h : readK P s ts w K) : Gives P s w K := by
  obtain ⟨c, hc, hk⟩ := h
  exact ⟨_, some (fun w' => s.run P w' = .ok (Tup.res ts c) w'), fun w' hw' => hw', hc, hk⟩

theorem eqGuard_easy {op : BinOp} {t : TypeId} {x y : Operand} {a b : Value} (h : easy op a b = true) : eqGuard op t x y a b = pure () := by
  cases op <;> cases a <;> simp [easy] at h <;> first | rfl | (cases b <;> rfl)

theorem run_ptr_nilIn {t e : TypeId} (d : Nat) (h : P.underlying t = some (.pointer e)) (p : Option Addr) (w : World) : (Op.equalIn (d + 1) t (.pointer p) (.pointer none)).run P w = .ok p.isNone w := by
  cases p <;> simp [Op.equalIn, run_und h]
theorem run_slice_nilIn {t e : TypeId} (d : Nat) (h : P.underlying t = some (.slice e)) (p : Option Addr) (n c m k : Nat) (w : World) : (Op.equalIn (d + 1) t (.slice p n c) (.slice none m k)).run P w = .ok p.isNone w := by
  cases p <;> simp [Op.equalIn, run_und h]
theorem run_map_nilIn {t k e : TypeId} (d : Nat) (h : P.underlying t = some (.map k e)) (p : Option Nat) (w : World) : (Op.equalIn (d + 1) t (.map p) (.map none)).run P w = .ok p.isNone w := by
  cases p <;> simp [Op.equalIn, run_und h]
theorem run_ptr_nil {t e : TypeId} (h : P.underlying t = some (.pointer e)) (p : Option Addr) (w : World) : (Op.equal t (.pointer p) (.pointer none)).run P w = .ok p.isNone w := run_ptr_nilIn 9999 h p w
theorem run_slice_nil {t e : TypeId} (h : P.underlying t = some (.slice e)) (p : Option Addr) (n c m k : Nat) (w : World) : (Op.equal t (.slice p n c) (.slice none m k)).run P w = .ok p.isNone w := run_slice_nilIn 9999 h p n c m k w
theorem run_map_nil {t k e : TypeId} (h : P.underlying t = some (.map k e)) (p : Option Nat) (w : World) : (Op.equal t (.map p) (.map none)).run P w = .ok p.isNone w := run_map_nilIn 9999 h p w

theorem binK_sound (hT : TabOk P T) {op : BinOp} {t : TypeId} {a b : Value} {K : Value → Prop} (h : binK T op t a b K) : ∃ v, (∀ w', (binOp op t a b).run P w' = .ok v w') ∧ K v := by
  unfold binK at h
  split at h <;> first
    | exact h.elim
    | (obtain ⟨h0, hk⟩ := h; exact ⟨_, fun w' => by (have h0' : ¬ (_ < (0 : Int)) := Int.not_lt.2 h0); simp [binOp, Op.shift, h0'], hk⟩)
    | (split at h
       · rename_i hkk; subst hkk
         first
           | exact ⟨_, fun w' => by simp [binOp, Op.intArith, Op.intBits, Op.intCmp], h⟩
           | (obtain ⟨h0, hk⟩ := h; exact ⟨_, fun w' => by simp [binOp, Op.intDiv, h0], hk⟩)
       · exact h.elim)
    | (obtain ⟨h0, hk⟩ := h; exact ⟨_, fun w' => by (have h0' := Int.not_lt.2 h0); simp only [binOp, Op.stringOp]; rw [if_neg h0']; rfl, hk⟩)
    | exact ⟨_, fun w' => by simp [binOp, Op.stringOp], h⟩
    | skip
  all_goals
    (split at h
     · rename_i ti hti
       have hok := tab_ok hT (by assumption)
       first
         | (have hu := desc_bool hok rfl; refine ⟨_, fun w' => ?_, h⟩; simp [binOp, run_equal_bool _ _ _ _ hu])
         | (have hu := desc_ptr hok rfl; refine ⟨_, fun w' => ?_, h⟩; simp [binOp, run_ptr_nil hu])
         | (have hu := desc_slice hok rfl; refine ⟨_, fun w' => ?_, h⟩; simp [binOp, run_slice_nil hu])
         | (have hu := desc_map hok rfl; refine ⟨_, fun w' => ?_, h⟩; simp [binOp, run_map_nil hu])
     · exact h.elim)

end
end Go.Vc

/-
  'opN' is sound: the operations one by one, and all of them.
-/
namespace Go.Vc

section
variable {P : Program} {T : Tab} {w : World}

theorem run_boundO (k : IntKind) (i : Int) (y : Nat) (code : BoundsCode) (h0 : 0 ≤ i) (h1 : i ≤ y) (w : World) : (Instr.sliceBound (.int k i) y code).run P w = .ok i.toNat w := by
  simp [Instr.sliceBound, asIntOf, h0, h1]

/-- The bounds of 'x[lo:hi]'. -/
theorem run_bounds (isS : Bool) (len cap : Nat) (lo hi : Option Value) (l : Int) (h : Option Int) (w : World)
    (hlo : (lo = none ∧ l = 0) ∨ ∃ k, lo = some (.int k l)) (hhi : (hi = none ∧ h = none) ∨ ∃ k n, hi = some (.int k n) ∧ h = some n)
    (h1 : hiOk h cap) (h2 : 0 ≤ l) (h3 : l ≤ hiOf h len) : (Instr.sliceBounds isS len cap lo hi none).run P w = .ok (l.toNat, hiOf h len, cap) w := by
  have h3' : l ≤ ((hiOf h len : Nat) : Int) := h3
  rcases hhi with ⟨rfl, rfl⟩ | ⟨k', n, rfl, rfl⟩
  · rcases hlo with ⟨rfl, rfl⟩ | ⟨k, rfl⟩
    · simp [Instr.sliceBounds, hiOf]
    · simp only [hiOf] at h3'
      simp [Instr.sliceBounds, hiOf, run_boundO k l _ _ h2 h3']
  · simp only [hiOk] at h1
    rcases hlo with ⟨rfl, rfl⟩ | ⟨k, rfl⟩
    · simp [Instr.sliceBounds, hiOf, run_boundO k' n _ _ h1.1 h1.2]
    · simp only [hiOf] at h3'
      simp [Instr.sliceBounds, hiOf, run_boundO k' n _ _ h1.1 h1.2, run_boundO k l _ _ h2 h3']

theorem intOpt_elim {o : Option Value} {f : Option Int → Prop} (h : intOpt o f) : (o = none ∧ f none) ∨ ∃ k n, o = some (.int k n) ∧ f (some n) := by
  cases o with
  | none => exact .inl ⟨rfl, h⟩
  | some v =>
    obtain ⟨k, n, rfl, h⟩ := onInt_elim h
    exact .inr ⟨k, n, rfl, h⟩

theorem sliceK_sound (hT : TabOk P T) {t : TypeId} {x : Value} {lo hi : Option Value} {K : Value → Prop} (h : sliceK T t x lo hi K) :
    ∃ v, (∀ w', (Instr.sliceAt t x lo hi none).run P w' = .ok v w') ∧ K v := by
  unfold sliceK at h
  have key : ∃ (l : Option Int) (hh : Option Int), ((lo = none ∧ l.getD 0 = 0) ∨ ∃ k, lo = some (.int k (l.getD 0))) ∧ ((hi = none ∧ hh = none) ∨ ∃ k n, hi = some (.int k n) ∧ hh = some n) ∧
      withT (tab T t) fun ti => match ti.sh with
        | .str => onStr x fun s => strP s (l.getD 0) hh fun s' => K (.string s')
        | .slice e => onSl x fun s => withT (tab T e) fun te => slcP s (l.getD 0) hh te.size fun s' => K (.slice s'.a s'.len s'.cap)
        | .array n e => onPtr x fun A => withT (tab T e) fun te => slcP ⟨some A, n, n⟩ (l.getD 0) hh te.size fun s' => K (.slice s'.a s'.len s'.cap)
        | _ => False := by
    rcases intOpt_elim h with ⟨e1, h1⟩ | ⟨k, n, e1, h1⟩
    · rcases intOpt_elim h1 with ⟨e2, h2⟩ | ⟨k', m, e2, h2⟩
      · exact ⟨none, none, .inl ⟨e1, rfl⟩, .inl ⟨e2, rfl⟩, h2⟩
      · exact ⟨none, some m, .inl ⟨e1, rfl⟩, .inr ⟨k', m, e2, rfl⟩, h2⟩
    · rcases intOpt_elim h1 with ⟨e2, h2⟩ | ⟨k', m, e2, h2⟩
      · exact ⟨some n, none, .inr ⟨k, e1⟩, .inl ⟨e2, rfl⟩, h2⟩
      · exact ⟨some n, some m, .inr ⟨k, e1⟩, .inr ⟨k', m, e2, rfl⟩, h2⟩
  obtain ⟨l, hh, hl, hhi, h⟩ := key
  obtain ⟨ti, hti, h⟩ := withT_elim h
  have hok := tab_ok hT hti
  split at h
  · rename_i hs
    obtain ⟨s, rfl, h1, h2, h3, hk⟩ := onStr_elim h
    have hu := desc_str hok hs
    refine ⟨_, fun w' => ?_, hk⟩
    simp [Instr.sliceAt, Instr.slice, run_und hu, run_bounds (P := P) false s.size s.size lo hi _ _ w' hl hhi h1 h2 h3]
  · rename_i e hs
    obtain ⟨a, n, c, rfl, h⟩ := onSl_elim h
    obtain ⟨te, hte, h1, h2, h3, hk⟩ := withT_elim h
    have hu := desc_slice hok hs
    refine ⟨_, fun w' => ?_, hk⟩
    simp [Instr.sliceAt, Instr.slice, run_und hu, run_bounds (P := P) true n c lo hi _ _ w' hl hhi h1 h2 h3, run_size (tab_ok hT hte)]
  · rename_i n e hs
    obtain ⟨A, rfl, h⟩ := onPtr_elim h
    obtain ⟨te, hte, h1, h2, h3, hk⟩ := withT_elim h
    have hu := desc_array hok hs
    refine ⟨_, fun w' => ?_, hk⟩
    simp [Instr.sliceAt, Instr.sureAddr, run_und hu, run_bounds (P := P) false n n lo hi _ _ w' hl hhi h1 h2 h3, run_size (tab_ok hT hte)]
    split <;> rfl
  · exact h.elim

theorem indexAddrK_sound (hT : TabOk P T) {t : TypeId} {x i : Value} {K : Value → Prop} (h : indexAddrK T t x i K) :
    ∃ v, (∀ w', (Instr.indexAt t x i).run P w' = .ok v w') ∧ K v := by
  obtain ⟨k, n, rfl, h⟩ := onInt_elim h
  obtain ⟨ti, hti, h⟩ := withT_elim h
  have hok := tab_ok hT hti
  split at h
  · rename_i e hs
    obtain ⟨a, m, c, rfl, h⟩ := onSl_elim h
    obtain ⟨te, hte, h0, h1, h⟩ := withT_elim h
    obtain ⟨A, hA, hk⟩ := onSome_elim h
    simp only at hA h1
    subst hA
    refine ⟨_, fun w' => ?_, hk⟩
    simp [Instr.indexAt, asIntOf, run_und (desc_slice hok hs), run_size (tab_ok hT hte), h0, h1]
  · rename_i m e hs
    obtain ⟨A, rfl, h⟩ := onPtr_elim h
    obtain ⟨te, hte, h0, h1, hk⟩ := withT_elim h
    refine ⟨_, fun w' => ?_, hk⟩
    simp [Instr.indexAt, asIntOf, Instr.sureAddr, run_und (desc_array hok hs), run_size (tab_ok hT hte), h0, h1]
  · exact h.elim

theorem partV_run {e : TypeId} {te : TI} (hok : TIok P e te) {cs : Array Value} {off : Nat} {v : Value} (h : partV te cs off = some v) (w : World) : (part e cs off).run P w = .ok v w := by
  obtain ⟨b, hb, hf⟩ := run_isAgg (w := w) hok
  unfold partV at h
  split at h
  · rename_i l hl
    rw [hl] at hf
    simp [Ty.fit] at hf
    simp [part, hb, hf.2, h]
  · rename_i hl
    have hb1 : b = true := by
      cases hx : te.ty with
      | one l => exact absurd hx (hl l)
      | agg ls => rw [hx] at hf; simp [Ty.fit] at hf; exact hf.2
      | big => rw [hx] at hf; simpa [Ty.fit] using hf
    subst hb1
    cases h
    simp [part, hb, run_size hok]

theorem indexK_sound (hT : TabOk P T) {t : TypeId} {x i : Value} {K : Value → Prop} (h : indexK T t x i K) :
    ∃ v, (∀ w', (Instr.index t x i).run P w' = .ok v w') ∧ K v := by
  obtain ⟨k, n, rfl, h⟩ := onInt_elim h
  obtain ⟨ti, hti, h⟩ := withT_elim h
  have hok := tab_ok hT hti
  split at h
  · rename_i hs
    obtain ⟨s, rfl, b, h0, hb, hk⟩ := onStr_elim h
    refine ⟨_, fun w' => ?_, hk⟩
    simp [Instr.index, asIntOf, run_und (desc_str hok hs), h0, hb]
  · rename_i m e hs
    obtain ⟨cs, rfl, h⟩ := onAgg_elim h
    obtain ⟨te, hte, h0, h1, h⟩ := withT_elim h
    obtain ⟨v, hv, hk⟩ := withT_elim h
    refine ⟨_, fun w' => ?_, hk⟩
    simp [Instr.index, asIntOf, run_und (desc_array hok hs), run_size (tab_ok hT hte), h0, h1, partV_run (tab_ok hT hte) hv]
  · exact h.elim

theorem struct_field {g : Array Field} {fs : List (Nat × TypeId)} {f : Nat} {p : Nat × TypeId} (hg : g.toList.map (fun f => (f.offset, f.type)) = fs) (h : fs[f]? = some p) :
    ∃ fd, g[f]? = some fd ∧ fd.offset = p.1 ∧ fd.type = p.2 := by
  subst hg
  rw [List.getElem?_map] at h
  cases hx : g.toList[f]? with
  | none => simp [hx] at h
  | some fd =>
    simp [hx] at h
    subst h
    exact ⟨fd, by simpa using hx, rfl, rfl⟩

theorem fieldAddrK_sound (hT : TabOk P T) {t : TypeId} {x : Value} {f : Nat} {K : Value → Prop} (h : fieldAddrK T t x f K) :
    ∃ v, (∀ w', (Instr.fieldAt t x f).run P w' = .ok v w') ∧ K v := by
  obtain ⟨A, rfl, h⟩ := onPtr_elim h
  obtain ⟨ti, hti, h⟩ := withT_elim h
  have hok := tab_ok hT hti
  split at h
  · rename_i fs hs
    obtain ⟨p, hp, h⟩ := withT_elim h
    obtain ⟨tf, htf, h⟩ := withT_elim h
    split at h
    · exact h.elim
    · rename_i hne
      obtain ⟨g, hg, hfs⟩ := desc_struct hok hs
      obtain ⟨fd, hfd, ho, hty⟩ := struct_field hfs hp
      have hz : ¬ tf.size = 0 := fun e => by rw [e] at hne; cases hne
      refine ⟨_, fun w' => ?_, h⟩
      simp [Instr.fieldAt, run_und hg, hfd, Instr.sureAddr, fieldPlace, hty, run_size (tab_ok hT htf), hz, ho]
  · exact h.elim

theorem fieldK_sound (hT : TabOk P T) {t : TypeId} {x : Value} {f : Nat} {K : Value → Prop} (h : fieldK T t x f K) :
    ∃ v, (∀ w', (Instr.field t x f).run P w' = .ok v w') ∧ K v := by
  obtain ⟨cs, rfl, h⟩ := onAgg_elim h
  obtain ⟨ti, hti, h⟩ := withT_elim h
  have hok := tab_ok hT hti
  split at h
  · rename_i fs hs
    obtain ⟨p, hp, h⟩ := withT_elim h
    obtain ⟨tf, htf, h⟩ := withT_elim h
    obtain ⟨v, hv, hk⟩ := withT_elim h
    obtain ⟨g, hg, hfs⟩ := desc_struct hok hs
    obtain ⟨fd, hfd, ho, hty⟩ := struct_field hfs hp
    refine ⟨v, fun w' => ?_, hk⟩
    simp [Instr.field, run_und hg, hfd, asAgg, hty, ho, partV_run (tab_ok hT htf) hv]
  · exact h.elim

theorem run_places (hT : TabOk P T) (w : World) : ∀ (g : List Field) (ps : List (Nat × Nat)), partsOf T (g.map fun f => (f.offset, f.type)) = some ps →
    (g.mapM fun f => (do pure (f.offset, ← sizeOf f.type) : Sem (Nat × Nat))).run P w = .ok ps w
  | [], ps, h => by simp [partsOf] at h; subst h; simp
  | f :: r, ps, h => by
    simp only [List.map_cons, partsOf] at h
    split at h
    · rename_i x l hx hl
      cases h
      have ih := run_places hT w r l hl
      simp only [List.mapM_cons, Sem.run_bind, run_size (tab_ok hT hx), Result.andThen_ok, Sem.run_pure, ih]
    · cases h

theorem fillV_some {place : Nat → Option (Nat × Nat)} {zero v : Value} {parts : List (Nat × Value)} (h : fillV place zero parts = some v) : ∃ cs, Instr.fill place zero.cells parts = some cs ∧ v = .agg cs := by
  unfold fillV at h
  split at h
  · rename_i cs hcs
    cases h
    exact ⟨cs, hcs, rfl⟩
  · cases h

theorem buildK_sound (hT : TabOk P T) {t : TypeId} {parts : List (Nat × Value)} {K : Value → Prop} (h : buildK T t parts K) :
    ∃ v, (∀ w', (Instr.build t parts.toArray).run P w' = .ok v w') ∧ K v := by
  obtain ⟨ti, hti, h⟩ := withT_elim h
  have hok := tab_ok hT hti
  split at h
  · rename_i fs hs
    obtain ⟨ps, hps, h⟩ := withT_elim h
    obtain ⟨v, hv, hk⟩ := withT_elim h
    obtain ⟨cs, hcs, rfl⟩ := fillV_some hv
    obtain ⟨g, hg, hfs⟩ := desc_struct hok hs
    subst hfs
    refine ⟨_, fun w' => ?_, hk⟩
    have hm := run_places hT w' g.toList ps hps
    have hm' : (g.mapM fun f => (do pure (f.offset, ← sizeOf f.type) : Sem (Nat × Nat))).run P w' = .ok ps.toArray w' := by
      rw [Array.mapM_eq_mapM_toList]
      simp only [Sem.run_map, hm, Result.andThen_ok]
    simp only [Instr.build, Sem.run_bind, run_zero hok, Result.andThen_ok, run_und hg, hm', hcs, Sem.run_pure]
  · rename_i n e hs
    obtain ⟨te, hte, h⟩ := withT_elim h
    obtain ⟨v, hv, hk⟩ := withT_elim h
    obtain ⟨cs, hcs, rfl⟩ := fillV_some hv
    refine ⟨_, fun w' => ?_, hk⟩
    simp only [Instr.build, Sem.run_bind, run_zero hok, Result.andThen_ok, run_und (desc_array hok hs), run_size (tab_ok hT hte), hcs, Sem.run_pure]
  · exact h.elim

end
end Go.Vc

/-
  'opN' is sound.
-/
namespace Go.Vc

theorem map_toArray {α β : Type} (f : α → β) (xs : Array α) : xs.map f = (xs.toList.map f).toArray := by
  cases xs; simp

section
variable {P : Program} {T : Tab} {w : World}

/-- What 'opN' promises of an operation. -/
def GivesO (P : Program) (a : Act) (o : Oper) (w : World) (K : KN) : Prop :=
  ∃ v st, (∀ w', stp st w' → (execOp a.eval o).run P w' = .ok (.value v) w') ∧ stp st w ∧ K v st

theorem givesO_sem {a : Act} {o : Oper} {s : Sem Value} {K : KN} (he : execOp a.eval o = (do pure (Next.value (← s)))) (h : Gives P s w K) : GivesO P a o w K := by
  obtain ⟨v, st, h1, h2, h3⟩ := h
  refine ⟨v, st, fun w' hw => ?_, h2, h3⟩
  rw [he]
  simp only [Sem.run_bind, h1 w' hw, Result.andThen_ok, Sem.run_pure]

theorem givesO_pure {a : Act} {o : Oper} {K : KN} {v : Value} (he : execOp a.eval o = pure (Next.value v)) (h : K v none) : GivesO P a o w K :=
  ⟨v, none, fun w' _ => by rw [he]; rfl, trivial, h⟩

theorem gives_of {s : Sem Value} {K : KN} (h : ∃ v, (∀ w', s.run P w' = .ok v w') ∧ K v none) : Gives P s w K := by
  obtain ⟨v, h1, h2⟩ := h
  exact ⟨v, none, fun w' _ => h1 w', trivial, h2⟩

theorem convK_sound (hT : TabOk P T) {src dst : TypeId} {x : Value} {K : KN} (h : convK T P src dst x w K) : Gives P (convert src dst x) w K := by
  obtain ⟨a, ha, h⟩ := withT_elim h
  obtain ⟨b, hb, h⟩ := withT_elim h
  obtain ⟨da, hda, _⟩ := desc_of (tab_ok hT ha)
  split at h
  · have hu := desc_int (tab_ok hT hb) (by assumption)
    refine gives_none (fun w' => ?_) h
    unfold convert
    simp only [Sem.run_bind, run_und hda, run_und hu, Result.andThen_ok]
    cases da <;> rfl
  · have hu := desc_str (tab_ok hT hb) (by assumption)
    refine gives_none (fun w' => ?_) h
    unfold convert
    simp only [Sem.run_bind, run_und hda, run_und hu, Result.andThen_ok]
    cases da <;> rfl
  · exact readK_sound h
  · exact h.elim

theorem lenK_sound (hT : TabOk P T) {t ty : TypeId} {ts : Array TypeId} {vs : Array Value} {x : Value} {K : KN} (ht : ts[0]? = some t) (hx : vs[0]? = some x)
    (h : lenK T P t (Builtin.len_ ts ty vs) x w K) : Gives P (Builtin.len_ ts ty vs) w K := by
  obtain ⟨a, ha, h⟩ := withT_elim h
  have hok := tab_ok hT ha
  split at h
  · have hu := desc_str hok (by assumption)
    exact gives_none (fun w' => by simp [Builtin.len_, ht, hx, run_und hu, goInt]) h
  · have hu := desc_slice hok (by assumption)
    exact gives_none (fun w' => by simp [Builtin.len_, ht, hx, run_und hu, goInt]) h
  · have hu := desc_array hok (by assumption)
    exact gives_none (fun w' => by simp [Builtin.len_, ht, hx, run_und hu, goInt]) h
  · exact readK_sound h
  · exact h.elim

theorem capK_sound (hT : TabOk P T) {t ty : TypeId} {ts : Array TypeId} {vs : Array Value} {x : Value} {K : Value → Prop} (ht : ts[0]? = some t) (hx : vs[0]? = some x)
    (h : capK T t x K) : ∃ v, (∀ w', (Builtin.cap_ ts ty vs).run P w' = .ok v w') ∧ K v := by
  obtain ⟨a, ha, h⟩ := withT_elim h
  have hok := tab_ok hT ha
  split at h
  · have hu := desc_slice hok (by assumption)
    exact ⟨_, fun w' => by simp [Builtin.cap_, ht, hx, run_und hu, goInt], h⟩
  · exact h.elim

theorem mmK_max {ts : Array TypeId} {ty : TypeId} {vs : List Value} {K : Value → Prop} (h : mmK maxI vs K) : ∃ v, (∀ w', (Builtin.max_ ts ty vs.toArray).run P w' = .ok v w') ∧ K v := by
  unfold mmK at h
  split at h
  · exact ⟨_, fun w' => by simp [Builtin.max_, Builtin.max2, maxI], h⟩
  · exact h.elim

theorem mmK_min {ts : Array TypeId} {ty : TypeId} {vs : List Value} {K : Value → Prop} (h : mmK minI vs K) : ∃ v, (∀ w', (Builtin.min_ ts ty vs.toArray).run P w' = .ok v w') ∧ K v := by
  unfold mmK at h
  split at h
  · exact ⟨_, fun w' => by simp [Builtin.min_, Builtin.min2, minI], h⟩
  · exact h.elim

theorem unK_sound {op : UnOp} {x : Value} {K : Value → Prop} (h : unK op x K) : ∃ v, (∀ w', (Op.unary op x).run P w' = .ok v w') ∧ K v := by
  unfold unK at h
  split at h
  · exact ⟨_, fun w' => by simp [Op.unary], h⟩
  · refine ⟨_, fun w' => ?_, h⟩
    simp [Op.unary, Op.intArith]
  · exact h.elim

theorem extractK_sound {x : Value} {i : Nat} {K : Value → Prop} (h : extractK x i K) : ∃ v, (∀ w', (Instr.extract x i).run P w' = .ok v w') ∧ K v := by
  unfold extractK at h
  split at h
  · obtain ⟨v, hv, hk⟩ := withT_elim h
    exact ⟨v, fun w' => by simp [Instr.extract, hv], hk⟩
  · exact h.elim

theorem evOpt_eval {env : Env} {a : Act} (hf : Fits env a) {x : Option Operand} {v : Option Value} (h : evOpt env x = some v) : x.map a.eval = v := by
  cases x with
  | none => simpa [evOpt] using h
  | some x =>
    simp only [evOpt] at h
    split at h
    · rename_i u hu
      cases h
      simp [ev_eval hf hu]
    · cases h

theorem opN_sound (hT : TabOk P T) {hint : List Ty} {o : Oper} {env : Env} {a : Act} {K : KN} (hf : Fits env a) (h : opN T P hint o env w K) : GivesO P a o w K := by
  obtain ⟨dst, op, type, pos, after, guard⟩ := o
  unfold opN at h
  split at h
  case h_1 x he | h_2 x he =>
    simp only at he; subst he
    obtain ⟨v, hv, hk⟩ := withV_elim h
    exact givesO_pure (by simp [execOp, ev_eval hf hv]) hk
  case h_3 c x y he =>
    simp only at he; subst he
    obtain ⟨vc, hvc, h⟩ := withV_elim h
    obtain ⟨b, rfl, h⟩ := onBool_elim h
    cases b
    · obtain ⟨v, hv, hk⟩ := withV_elim h
      exact givesO_pure (v := v) (by simp [execOp, ev_eval hf hvc, ev_eval hf hv, asBool]) hk
    · obtain ⟨v, hv, hk⟩ := withV_elim h
      exact givesO_pure (v := v) (by simp [execOp, ev_eval hf hvc, ev_eval hf hv, asBool]) hk
  case h_4 t x he =>
    simp only at he; subst he
    obtain ⟨v, hv, h⟩ := withV_elim h
    obtain ⟨A, rfl, h⟩ := onPtr_elim h
    exact givesO_sem (by simp only [execOp, ev_eval hf hv]) (loadK_sound hT h)
  case h_5 x he =>
    simp only at he; subst he
    obtain ⟨v, hv, h⟩ := withV_elim h
    unfold nilK at h
    split at h
    · obtain ⟨A, rfl, h⟩ := onSome_elim h
      exact givesO_pure (by simp [execOp, ev_eval hf hv]) h
    · exact givesO_pure (by simp [execOp, ev_eval hf hv]) h
    · exact h.elim
  case h_6 bop t x y yt he =>
    simp only at he; subst he
    obtain ⟨v, hv, h⟩ := withV_elim h
    obtain ⟨u, hu, h⟩ := withV_elim h
    split at h
    · rename_i hz
      refine givesO_sem (s := do eqGuard bop t x y v u; binOp bop t v u) (by simp only [execOp, ev_eval hf hv, ev_eval hf hu]) ?_
      rw [eqGuard_easy hz]
      exact gives_of (by simpa using binK_sound hT h)
    · exact givesO_sem (by simp only [execOp, ev_eval hf hv, ev_eval hf hu]) (readK_sound h)
  case h_7 uop t x he =>
    simp only at he; subst he
    obtain ⟨v, hv, h⟩ := withV_elim h
    exact givesO_sem (by simp only [execOp, ev_eval hf hv]) (gives_of (unK_sound h))
  case h_8 s d x he =>
    simp only at he; subst he
    obtain ⟨v, hv, h⟩ := withV_elim h
    exact givesO_sem (by simp only [execOp, ev_eval hf hv]) (convK_sound hT h)
  case h_9 t x he =>
    simp only at he; subst he
    obtain ⟨v, hv, h⟩ := withV_elim h
    exact givesO_sem (by simp only [execOp, ev_eval hf hv]) (readK_sound h)
  case h_10 fn xs ys he =>
    simp only at he; subst he
    obtain ⟨vs, hvs, h⟩ := withVs_elim h
    obtain ⟨us, hus, h⟩ := withVs_elim h
    have e1 : xs.map a.eval = vs.toArray := by rw [← evs_eval hf hvs, ← map_toArray]
    have e2 : ys.map a.eval = us.toArray := by rw [← evs_eval hf hus, ← map_toArray]
    exact givesO_pure (by simp [execOp, e1, e2, Instr.makeFunc]) h
  case h_11 t x lo hi he =>
    simp only at he; subst he
    obtain ⟨v, hv, h⟩ := withV_elim h
    obtain ⟨l, hl, h⟩ := withT_elim h
    obtain ⟨hh, hhh, h⟩ := withT_elim h
    exact givesO_sem (by simp only [execOp, ev_eval hf hv, evOpt_eval hf hl, evOpt_eval hf hhh, Option.map_none]) (gives_of (sliceK_sound hT h))
  case h_12 t x f he =>
    simp only at he; subst he
    obtain ⟨v, hv, h⟩ := withV_elim h
    exact givesO_sem (by simp only [execOp, ev_eval hf hv]) (gives_of (fieldAddrK_sound hT h))
  case h_13 t x f he =>
    simp only at he; subst he
    obtain ⟨v, hv, h⟩ := withV_elim h
    exact givesO_sem (by simp only [execOp, ev_eval hf hv]) (gives_of (fieldK_sound hT h))
  case h_14 t x i he =>
    simp only at he; subst he
    obtain ⟨v, hv, h⟩ := withV_elim h
    obtain ⟨u, hu, h⟩ := withV_elim h
    exact givesO_sem (by simp only [execOp, ev_eval hf hv, ev_eval hf hu]) (gives_of (indexAddrK_sound hT h))
  case h_15 t x i he =>
    simp only at he; subst he
    obtain ⟨v, hv, h⟩ := withV_elim h
    obtain ⟨u, hu, h⟩ := withV_elim h
    exact givesO_sem (by simp only [execOp, ev_eval hf hv, ev_eval hf hu]) (gives_of (indexK_sound hT h))
  case h_16 t ps he =>
    simp only at he; subst he
    obtain ⟨vs, hvs, h⟩ := withT_elim h
    have e1 : (ps.map fun (i, x) => (i, a.eval x)) = vs.toArray := by rw [← evParts_eval hf hvs, ← map_toArray]
    exact givesO_sem (by simp only [execOp, e1]) (gives_of (buildK_sound hT h))
  case h_17 x i he =>
    simp only at he; subst he
    obtain ⟨v, hv, h⟩ := withV_elim h
    exact givesO_sem (by simp only [execOp, ev_eval hf hv]) (gives_of (extractK_sound h))
  case h_18 t m k ok he =>
    simp only at he; subst he
    obtain ⟨v, hv, h⟩ := withV_elim h
    obtain ⟨u, hu, h⟩ := withV_elim h
    obtain ⟨ts, _, h⟩ := withT_elim h
    exact givesO_sem (by simp only [execOp, ev_eval hf hv, ev_eval hf hu]) (readK_sound h)
  case h_19 it he =>
    simp only at he; subst he
    obtain ⟨v, hv, h⟩ := withV_elim h
    exact givesO_sem (by simp only [execOp, ev_eval hf hv]) (readK_sound h)
  case h_20 b args ats he =>
    simp only at he; subst he
    obtain ⟨vs, hvs, h⟩ := withVs_elim h
    have e1 : args.map a.eval = vs.toArray := by rw [← evs_eval hf hvs, ← map_toArray]
    split at h
    · obtain ⟨t, ht, h⟩ := withT_elim h
      obtain ⟨x, hx, h⟩ := withT_elim h
      exact givesO_sem (s := Builtin.len_ ats type vs.toArray) (by simp [execOp, resolve, invoke, builtin, e1]) (lenK_sound hT ht (by simpa using hx) h)
    · obtain ⟨t, ht, h⟩ := withT_elim h
      obtain ⟨x, hx, h⟩ := withT_elim h
      exact givesO_sem (s := Builtin.cap_ ats type vs.toArray) (by simp [execOp, resolve, invoke, builtin, e1]) (gives_of (capK_sound hT ht (by simpa using hx) h))
    · exact givesO_sem (s := Builtin.min_ ats type vs.toArray) (by simp [execOp, resolve, invoke, builtin, e1]) (gives_of (mmK_min h))
    · exact givesO_sem (s := Builtin.max_ ats type vs.toArray) (by simp [execOp, resolve, invoke, builtin, e1]) (gives_of (mmK_max h))
    · exact h.elim
  case h_21 => exact h.elim

end
end Go.Vc

/-
  The operations that write, make memory, or call: what each asks and gives; it is so.
-/
namespace Go.Vc

/-- A new block. -/
def newP (o : Obj) (w : World) (K : Nat → World → Prop) : Prop := ∀ b w', b = w.heap.size → w' = w.alloc o → K b w'

/-- A cell is written. -/
def stP (A : Addr) (v : Value) (w : World) (K : World → Prop) : Prop := (∃ o, w.cell? A = some o) ∧ w.frozen? A = false ∧ v.oneCell' = true ∧ K (w.setCell A v)

def canWrite (w : World) (A : Addr) (n : Nat) : Prop := ∀ i, i < n → (∃ o, w.cell? (A.add i) = some o) ∧ w.frozen? (A.add i) = false

def setCells (w : World) (A : Addr) : List Value → Nat → World
  | [], _ => w
  | v :: r, i => setCells (w.setCell (A.add i) v) A r (i + 1)

/-- Cells are written. -/
def stN (A : Addr) (vs : List Value) (w : World) (K : World → Prop) : Prop := canWrite w A vs.length ∧ (∀ v ∈ vs, v.oneCell' = true) ∧ K (setCells w A vs 0)

def plainFn (P : Program) (f : FuncId) : Prop := ∃ fn, P.funcs[f]? = some fn ∧ (fn.name == "runtime.NumGoroutine") = false ∧ fn.body.isNone = false

/-- A call. (No definition, so that the kernel compares two of them by what they are called with.) -/
inductive callP (P : Program) (f : FuncId) (args : Array Value) (ts : List Ty) (w : World) (K : Tup ts → World → Prop) : Prop where
  | inl (h : plainFn P f ∧ Calls P f args w fun e w' => ∃ c, e = .returned (Tup.res ts c) ∧ K c w') : callP P f args ts w K
  | inr (h : ∃ c w', (callFunc f args).run P w = .ok (.value (Tup.res ts c)) w' ∧ K c w') : callP P f args ts w K

/-- A call of a function value. -/
def callV (P : Program) (v : Value) (args : Array Value) (ts : List Ty) (w : World) (K : Tup ts → World → Prop) : Prop :=
  match v with
  | .func (.func g) first captured => callP P g (first ++ args ++ captured) ts w K
  | _ => False

/-- Something is done to memory. -/
def runP (P : Program) (s : Sem Value) (ts : List Ty) (w : World) (K : Tup ts → World → Prop) : Prop := ∃ c w', s.run P w = .ok (Tup.res ts c) w' ∧ K c w'
def runU (P : Program) (s : Sem Unit) (w : World) (K : World → Prop) : Prop := ∃ w', s.run P w = .ok () w' ∧ K w'

/-- An iterator's step. -/
def nextP (P : Program) (s : Sem Value) (ts : List Ty) (w : World) (K0 : World → Prop) (K1 : Tup ts → World → Prop) : Prop :=
  (∃ w', s.run P w = .ok (.tuple #[.bool false]) w' ∧ K0 w') ∨ (∃ c w', s.run P w = .ok (.tuple (.bool true :: Tup.vals ts c).toArray) w' ∧ K1 c w')

def zrow (z : Array Value) (n : Nat) : Array Value := (Array.range n).map fun i => z[i % z.size]!

/-- 'make([]T, l, c)'. -/
def mkSlP (l c : Int) (bytes : Nat) (K : Prop) : Prop := 0 ≤ l ∧ l ≤ c ∧ c ≤ 281474976710656 ∧ c * bytes ≤ 281474976710656 ∧ K

def Ty.isOne : Ty → Bool
  | .one _ => true
  | _ => false

def Ty.isBig : Ty → Bool
  | .big => true
  | _ => false

def opW (T : Tab) (P : Program) (hint : List Ty) (o : Oper) (env : Env) (w : World) (K : Value → World → Prop) : Prop :=
  match o.op with
  | .alloc t => withT (tab T t) fun x => newP (.cells x.zero.cells t) w fun b w' => K (.pointer (some ⟨b, 0, none⟩)) w'
  | .box t x => withV (ev env x) fun v => newP (.cells v.cells t) w fun b w' => K (.pointer (some ⟨b, 0, none⟩)) w'
  | .buildSlice t n parts => withT (evParts env parts.toList) fun ps => withT (tab T t) fun x =>
      (match x.sh with
      | .slice e => withT (tab T e) fun te => (match Nat.ble (n * te.size) 16777216 with
        | true => withT (Instr.fill (fun i => some (i * te.size, te.size)) (zrow te.zero.cells (n * te.size)) ps) fun cs => newP (.cells cs e) w fun b w' => K (.slice (some ⟨b, 0, none⟩) n n) w'
        | false => False)
      | _ => False)
  | .store t a x => withV (ev env a) fun va => withV (ev env x) fun v => onPtr va fun A => withT (tab T t) fun x =>
      (match x.ty.isOne with
      | true => stP A v w fun w' => K undef w'
      | false => onAgg v fun cs => (match x.ty.isBig with
        | true => cs.size = x.size ∧ stN A cs.toList w fun w' => K undef w'
        | false => (match Nat.beq cs.size x.size with
          | true => stN A cs.toList w fun w' => K undef w'
          | false => False)))
  | .mapUpdate t m k x | .insert t m k x => withV (ev env m) fun m => withV (ev env k) fun k => withV (ev env x) fun x => runU P (Instr.mapUpdate t m k x) w fun w' => K undef w'
  | .makeMap _ none => newP (.map #[] 0) w fun b w' => K (.map (some b)) w'
  | .makeSlice t l c => withV (ev env l) fun l => withV (ev env c) fun c => onInt l fun _ l => onInt c fun _ c => withT (tab T t) fun x =>
      (match x.sh with
      | .slice e => withT (tab T e) fun te => mkSlP l c te.bytes (newP (.cells (zrow te.zero.cells (c.toNat * te.size)) e) w fun b w' => K (.slice (some ⟨b, 0, none⟩) l.toNat c.toNat) w')
      | _ => False)
  | .range t x => withV (ev env x) fun v => runP P (Instr.range t v) [.one .ptr] w fun c w' => K (.pointer c) w'
  | .next it s => withV (ev env it) fun v => nextP P (Instr.next v s o.type) hint w (fun w' => K (.tuple #[.bool false]) w') (fun c w' => K (.tuple (.bool true :: Tup.vals hint c).toArray) w')
  | .convert src dst x => withV (ev env x) fun v => runP P (convert src dst v) [.one .slice] w fun c w' => K (.slice c.a c.len c.cap) w'
  | .call { callee := .builtin b, args, argTypes } => withVs (evs env args.toList) fun vs =>
      (match b with
      | .append => runP P (Builtin.append_ argTypes o.type vs.toArray) [.one .slice] w fun c w' => K (.slice c.a c.len c.cap) w'
      | .copy => runP P (Builtin.copy_ argTypes o.type vs.toArray) [.one (.int .i64)] w fun c w' => K (.int .i64 c) w'
      | .delete => runP P (Builtin.delete_ argTypes o.type vs.toArray) [] w fun _ w' => K (.tuple #[]) w'
      | _ => False)
  | .call { callee := .value f, args, argTypes := _ } => withV (ev env f) fun fv => withVs (evs env args.toList) fun vs =>
      callV P fv vs.toArray hint w fun c w' => K (Tup.res hint c) w'
  | _ => False

section
/-- What an operation's run comes to. -/
def ResP (P : Program) (K : Value → World → Prop) : Result Next → Prop
  | .ok (.value v) w => K v w
  | .ok .skip w => K undef w
  | .ok (.enter f args) w => Calls P f args w fun e w' => ∃ v, e = .returned v ∧ K v w'
  | _ => False

variable {P : Program} {T : Tab} {w : World} {a : Act} {o : Oper} {K K' : Value → World → Prop}

theorem ResP.wp {next : Act → World → Prop} {Q : Exit → Act → World → Prop} (h : ResP P K ((execOp a.eval o).run P w)) (hn : ∀ v w', K v w' → next (a.put o.dst v) w') : o.wp P a w next Q := by
  unfold Oper.wp
  generalize (execOp a.eval o).run P w = r at h
  cases r with
  | ok x w' =>
    cases x <;> simp only [ResP] at h <;> simp only [Oper.upon]
    case value v => exact hn _ _ h
    case skip => exact hn _ _ h
    case enter f args => exact Calls.mono h fun e w'' ⟨v, he, hk⟩ => by subst he; exact hn _ _ hk
  | halt x w' => exact h.elim

theorem ResP.mono {r : Result Next} (h : ResP P K r) (hk : ∀ v w, K v w → K' v w) : ResP P K' r := by
  cases r with
  | ok x w' =>
    cases x <;> simp only [ResP] at h ⊢
    case value v => exact hk _ _ h
    case skip => exact hk _ _ h
    case enter f args => exact Calls.mono h fun e w'' ⟨v, he, h⟩ => ⟨v, he, hk _ _ h⟩
  | halt x w' => exact h.elim

theorem wp_value {v : Value} {w' : World} (h : (execOp a.eval o).run P w = .ok (.value v) w') (hn : K v w') : ResP P K ((execOp a.eval o).run P w) := by
  rw [h]
  exact hn

theorem wp_skip' {w' : World} (h : (execOp a.eval o).run P w = .ok .skip w') (hn : K undef w') : ResP P K ((execOp a.eval o).run P w) := by
  rw [h]
  exact hn

theorem wp_sem {s : Sem Value} (he : execOp a.eval o = (do pure (Next.value (← s)))) {v : Value} {w' : World} (h : s.run P w = .ok v w') (hn : K v w') : ResP P K ((execOp a.eval o).run P w) :=
  wp_value (by rw [he]; simp only [Sem.run_bind, h, Result.andThen_ok, Sem.run_pure]) hn

theorem wp_unit {s : Sem Unit} (he : execOp a.eval o = (do s; pure Next.skip)) {w' : World} (h : s.run P w = .ok () w') (hn : K undef w') : ResP P K ((execOp a.eval o).run P w) :=
  wp_skip' (by rw [he]; simp only [Sem.run_bind, h, Result.andThen_ok, Sem.run_pure]) hn

theorem run_zrow_cells {e : TypeId} {te : TI} (hok : TIok P e te) (n : Nat) (w : World) :
    ((if n = 0 then pure #[] else do pure (← zeroValue e).cells) : Sem (Array Value)).run P w = .ok (if n = 0 then #[] else te.zero.cells) w := by
  split
  · rfl
  · simp only [Sem.run_bind, run_zero hok, Result.andThen_ok, Sem.run_pure]

theorem zrow_zero (z : Array Value) : zrow z 0 = #[] := by simp [zrow]

theorem zrow_eq (z : Array Value) (n : Nat) : ((Array.range n).map fun i => (if n = 0 then #[] else z)[i % (if n = 0 then (#[] : Array Value) else z).size]!) = zrow z n := by
  by_cases h : n = 0
  · subst h; simp [zrow]
  · simp [h, zrow]

theorem setCell_some {w : World} {p q : Addr} {x v : Value} (h : w.cell? q = some v) : ∃ v', (w.setCell p x).cell? q = some v' := by
  by_cases e : p = q
  · subst e; exact ⟨x, World.cell?_setCell_same w p x h⟩
  · exact ⟨v, (World.cell?_setCell_other w p q x e).trans h⟩

theorem run_storeCells (P : Program) (A : Addr) : ∀ (vs : List Value) (i : Nat) (w : World), (∀ j, i ≤ j → j < i + vs.length → (∃ o, w.cell? (A.add j) = some o) ∧ w.frozen? (A.add j) = false) → (∀ v ∈ vs, v.oneCell' = true) →
    (storeCells A vs i).run P w = .ok () (setCells w A vs i)
  | [], i, w, _, _ => by simp [storeCells, setCells]
  | v :: r, i, w, h, h1 => by
    obtain ⟨⟨o, ho⟩, hfr⟩ := h i (Nat.le_refl _) (by simp)
    have hv : v.oneCell' = true := h1 v (by simp)
    have hs := run_store P w (A.add i) v .plain hv
    simp only [ho, hfr] at hs
    have ih := run_storeCells P A r (i + 1) (w.setCell (A.add i) v) (fun j h2 h3 => by
      obtain ⟨⟨o', ho'⟩, hf'⟩ := h j (by omega) (by simp; omega)
      exact ⟨setCell_some ho', by rw [World.frozen?_setCell]; exact hf'⟩) (fun u hu => h1 u (by simp [hu]))
    simp [storeCells, setCells, hs, ih]

theorem wp_callFunc {f : FuncId} {args : Array Value} {ts : List Ty} {KT : Tup ts → World → Prop} (he : (execOp a.eval o).run P w = (callFunc f args).run P w)
    (h : callP P f args ts w KT) (hn : ∀ c w', KT c w' → K (Tup.res ts c) w') : ResP P K ((execOp a.eval o).run P w) := by
  rcases h with ⟨⟨fn, hf, hnm, hb⟩, hc⟩ | ⟨c, w', hr, hk⟩
  · have hrun : (callFunc f args).run P w = .ok (.enter f args) w := by
      simp only [callFunc, Sem.run_bind, run_program, Result.andThen_ok, hf, hnm, hb, Bool.false_eq_true, if_false, Sem.run_pure]
    rw [he, hrun]
    exact Calls.mono hc fun e w' ⟨c, hec, hk⟩ => ⟨_, hec, hn c w' hk⟩
  · exact wp_value (he.trans hr) (hn c w' hk)

theorem opW_sound (hT : TabOk P T) {hint : List Ty} {env : Env} (hf : Fits env a) (h : opW T P hint o env w K) : ResP P K ((execOp a.eval o).run P w) := by
  have hn : ∀ v w', K v w' → K v w' := fun _ _ h => h
  obtain ⟨dst, op, type, pos, after, guard⟩ := o
  unfold opW at h
  split at h
  case h_1 t he =>
    simp only at he; subst he
    obtain ⟨x, hx, h⟩ := withT_elim h
    refine wp_sem (s := Instr.alloc t true (.tuple #[])) (by simp only [execOp]) (v := .pointer (some ⟨w.heap.size, 0, none⟩)) (w' := w.alloc (.cells x.zero.cells t)) ?_ (hn _ _ (h _ _ rfl rfl))
    simp only [Instr.alloc, Sem.run_bind, run_zero (tab_ok hT hx), Result.andThen_ok, newVar, newRow, run_newObj, Sem.run_pure]
    rfl
  case h_2 t x he =>
    simp only at he; subst he
    obtain ⟨v, hv, h⟩ := withV_elim h
    refine wp_sem (s := Instr.box t v) (by simp only [execOp, ev_eval hf hv]) (v := .pointer (some ⟨w.heap.size, 0, none⟩)) (w' := w.alloc (.cells v.cells t)) ?_ (hn _ _ (h _ _ rfl rfl))
    simp only [Instr.box, Sem.run_bind, newVar, newRow, run_newObj, Result.andThen_ok, Sem.run_pure]
    rfl
  case h_3 t n ps he =>
    simp only at he; subst he
    obtain ⟨vs, hvs, h⟩ := withT_elim h
    obtain ⟨x, hx, h⟩ := withT_elim h
    split at h
    · rename_i e hs
      obtain ⟨te, hte, h⟩ := withT_elim h
      split at h
      · rename_i hle
        obtain ⟨cs, hcs, h⟩ := withT_elim h
        have hle' : ¬ (n * te.size > 2 ^ 24) := by have := Nat.le_of_ble_eq_true hle; omega
        have e1 : (ps.map fun (i, x) => (i, a.eval x)) = vs.toArray := by rw [← evParts_eval hf hvs, ← map_toArray]
        refine wp_sem (s := Instr.buildSlice t n vs.toArray) (by simp only [execOp, e1]) (v := .slice (some ⟨w.heap.size, 0, none⟩) n n) (w' := w.alloc (.cells cs e)) ?_ (hn _ _ (h _ _ rfl rfl))
        simp only [Instr.buildSlice, Sem.run_bind, run_und (desc_slice (tab_ok hT hx) hs), Result.andThen_ok, run_size (tab_ok hT hte), if_neg hle']
        split
        · rename_i h0
          rw [h0, zrow_zero] at hcs
          simp only [Sem.run_bind, Sem.run_pure, Result.andThen_ok, h0, Array.range_zero', Array.map_empty, hcs, newRow, run_newObj]
          rfl
        · have hcs' : Instr.fill (fun i => some (i * te.size, te.size)) (Array.map (fun x => te.zero.cells[x % te.zero.cells.size]!) (Array.range (n * te.size))) vs = some cs := hcs
          simp only [Sem.run_bind, Sem.run_pure, Result.andThen_ok, run_zero (tab_ok hT hte), hcs', newRow, run_newObj]
          rfl
      · exact h.elim
    · exact h.elim
  case h_4 t x y he =>
    simp only at he; subst he
    obtain ⟨va, hva, h⟩ := withV_elim h
    obtain ⟨v, hv, h⟩ := withV_elim h
    obtain ⟨A, rfl, h⟩ := onPtr_elim h
    obtain ⟨ti, hti, h⟩ := withT_elim h
    have hok := tab_ok hT hti
    split at h
    · rename_i h1
      obtain ⟨⟨u, hu⟩, hfr, hone, hk⟩ := h
      have hsz : ti.size = 1 := by
        obtain ⟨b, _, hft⟩ := run_isAgg (w := w) hok
        cases hty : ti.ty <;> rw [hty] at h1 hft <;> simp [Ty.isOne] at h1
        simp [Ty.fit] at hft; exact hft.1
      have hc : v.cells = #[v] := by cases v <;> simp_all [Value.cells, Value.oneCell']
      refine wp_unit (s := Instr.storeAt t (.pointer (some A)) v) (by simp only [execOp, ev_eval hf hva, ev_eval hf hv]) (w' := w.setCell A v) ?_ (hn _ _ hk)
      have hst := run_storeCells P A [v] 0 w (fun j _ h3 => by
        have : j = 0 := by simp at h3; omega
        subst this; simpa [Addr.add] using ⟨⟨u, hu⟩, hfr⟩) (by simpa using hone)
      simp only [setCells, Addr.add, if_true] at hst
      simp [Instr.storeAt, Instr.sureAddr, storeVar, run_size hok, hsz, hc, hst]
    · obtain ⟨cs, ecs, h9⟩ := onAgg_elim h
      clear h
      subst ecs
      have h10 : cs.size = ti.size ∧ stN A cs.toList w fun w' => K undef w' := by
        split at h9
        · exact h9
        · split at h9
          · rename_i hsz
            exact ⟨Nat.eq_of_beq_eq_true hsz, h9⟩
          · exact h9.elim
      clear h9
      · obtain ⟨hsz', hw1, hone, hk⟩ := h10
        refine wp_unit (s := Instr.storeAt t (.pointer (some A)) (.agg cs)) (by simp only [execOp, ev_eval hf hva, ev_eval hf hv]) (w' := setCells w A cs.toList 0) ?_ (hn _ _ hk)
        have hst := run_storeCells P A cs.toList 0 w (fun j _ h3 => hw1 j (by simpa using h3)) hone
        simp [Instr.storeAt, Instr.sureAddr, storeVar, run_size hok, hsz', Value.cells, hst]
  case h_5 t m k x he | h_6 t m k x he =>
    simp only at he; subst he
    obtain ⟨vm, hvm, h⟩ := withV_elim h
    obtain ⟨vk, hvk, h⟩ := withV_elim h
    obtain ⟨vx, hvx, h⟩ := withV_elim h
    obtain ⟨w', hr, hk⟩ := h
    exact wp_unit (by simp only [execOp, ev_eval hf hvm, ev_eval hf hvk, ev_eval hf hvx]) hr (hn _ _ hk)
  case h_7 t he =>
    simp only at he; subst he
    refine wp_sem (s := Instr.makeMap t none) (by simp only [execOp, Option.map_none]) (v := .map (some w.heap.size)) (w' := w.alloc (.map #[] 0)) ?_ (hn _ _ (h _ _ rfl rfl))
    simp [Instr.makeMap]
  case h_8 t l c he =>
    simp only at he; subst he
    obtain ⟨vl, hvl, h⟩ := withV_elim h
    obtain ⟨vc, hvc, h⟩ := withV_elim h
    obtain ⟨kl, l', el, h7⟩ := onInt_elim h
    obtain ⟨kc, c', ec, h8⟩ := onInt_elim h7
    clear h h7
    subst el ec
    obtain ⟨x, hx, h⟩ := withT_elim h8
    clear h8
    split at h
    · rename_i e hs
      obtain ⟨te, hte, h0, h1, h2, h3, h⟩ := withT_elim h
      refine wp_sem (s := Instr.makeSlice t (.int kl l') (.int kc c')) (by simp only [execOp, ev_eval hf hvl, ev_eval hf hvc]) (v := .slice (some ⟨w.heap.size, 0, none⟩) l'.toNat c'.toNat) (w' := w.alloc (.cells (zrow te.zero.cells (c'.toNat * te.size)) e)) ?_ (hn _ _ (h _ _ rfl rfl))
      obtain ⟨i, hi, hib, his⟩ := run_bytes (w := w) (tab_ok hT hte)
      have hwl : IntKind.i64.wrap l' = l' := IntWalk.i64_in _ (by omega)
      have hwc : IntKind.i64.wrap c' = c' := IntWalk.i64_in _ (by omega)
      have h3' : (i.bytes : Int) * c' ≤ 281474976710656 := by rw [hib, Int.mul_comm]; exact h3
      have c1 : ¬ (c' < 0) := by omega
      have c2 : ¬ ((i.bytes : Int) * c' > 2 ^ 48) := by omega
      have c3 : ¬ (l' < 0) := by omega
      have c4 : ¬ (l' > c') := by omega
      simp only [Instr.makeSlice, Sem.run_bind, run_und (desc_slice (tab_ok hT hx) hs), Result.andThen_ok, asInt, asIntOf, Sem.run_pure, hi, hwl, hwc, c1, c2, c3, c4, decide_false, Bool.or_self, Bool.false_eq_true, if_false]
      simp only [Result.andThen_ok, run_askRoom, run_size (tab_ok hT hte)]
      split
      · rename_i h0
        simp only [Sem.run_bind, Sem.run_pure, Result.andThen_ok, h0, Array.range_zero', Array.map_empty, newRow, run_newObj, zrow_zero]
        rfl
      · simp only [Sem.run_bind, Sem.run_pure, Result.andThen_ok, run_zero (tab_ok hT hte), newRow, run_newObj, zrow]
        rfl
    · exact h.elim
  case h_9 t x he =>
    simp only at he; subst he
    obtain ⟨v, hv, h⟩ := withV_elim h
    obtain ⟨c, w', hr, hk⟩ := h
    exact wp_sem (by simp only [execOp, ev_eval hf hv]) hr (hn _ _ hk)
  case h_10 it s he =>
    simp only at he; subst he
    obtain ⟨v, hv, h⟩ := withV_elim h
    rcases h with ⟨w', hr, hk⟩ | ⟨c, w', hr, hk⟩
    · exact wp_sem (by simp only [execOp, ev_eval hf hv]) hr (hn _ _ hk)
    · exact wp_sem (by simp only [execOp, ev_eval hf hv]) hr (hn _ _ hk)
  case h_11 s d x he =>
    simp only at he; subst he
    obtain ⟨v, hv, h⟩ := withV_elim h
    obtain ⟨c, w', hr, hk⟩ := h
    exact wp_sem (by simp only [execOp, ev_eval hf hv]) hr (hn _ _ hk)
  case h_12 b args ats he =>
    simp only at he; subst he
    obtain ⟨vs, hvs, h⟩ := withVs_elim h
    have e1 : args.map a.eval = vs.toArray := by rw [← evs_eval hf hvs, ← map_toArray]
    split at h
    · obtain ⟨c, w', hr, hk⟩ := h
      exact wp_sem (s := Builtin.append_ ats type vs.toArray) (by simp [execOp, resolve, invoke, builtin, e1]) hr (hn _ _ hk)
    · obtain ⟨c, w', hr, hk⟩ := h
      exact wp_sem (s := Builtin.copy_ ats type vs.toArray) (by simp [execOp, resolve, invoke, builtin, e1]) hr (hn _ _ hk)
    · obtain ⟨c, w', hr, hk⟩ := h
      exact wp_sem (s := Builtin.delete_ ats type vs.toArray) (by simp [execOp, resolve, invoke, builtin, e1]) hr (hn _ _ hk)
    · exact h.elim
  case h_13 f args ats he =>
    simp only at he; subst he
    obtain ⟨fv, hfv, h⟩ := withV_elim h
    obtain ⟨vs, hvs, h⟩ := withVs_elim h
    have e1 : args.map a.eval = vs.toArray := by rw [← evs_eval hf hvs, ← map_toArray]
    unfold callV at h
    split at h
    · rename_i g first captured
      refine wp_callFunc ?_ h fun c w' hk => hn _ _ hk
      simp [execOp, resolve, ev_eval hf hfv, e1, Deferred.ofValue, invoke]
    · exact h.elim
  case h_14 => exact h.elim

end
end Go.Vc

/-
  Regions: what is asked of a list of operations in one order; the plain regions.
-/
namespace Go.Vc

/-- Does an operation leave memory as it was? -/
def isN (T : Tab) (o : Oper) : Bool :=
  match o.op with
  | .move _ | .assign _ | .pick _ _ _ | .load _ _ | .nilCheck _ | .binOp _ _ _ _ _ | .unOp _ _ _ | .makeInterface _ _ | .makeFunc _ _ _ | .fieldAddr _ _ _ | .field _ _ _ | .indexAddr _ _ _ | .index _ _ _
  | .build _ _ | .extract _ _ | .lookup _ _ _ _ | .entry _ | .slice _ _ _ _ none => true
  | .convert _ dst _ => (match tab T dst with
    | some { sh := .slice _, .. } => false
    | _ => true)
  | .call { callee := .builtin b, .. } => (match b with
    | .len | .cap | .min | .max => true
    | _ => false)
  | _ => false

abbrev Hints := List (Nat × List Ty)

def hintOf : Hints → Nat → List Ty
  | [], _ => []
  | (j, x) :: r, i => match Nat.beq j i with
    | true => x
    | false => hintOf r i

/-- Sets of operations that stand before others. -/
abbrev Masks := List (Nat × Nat)

def maskOf : Masks → Nat → Nat
  | [], _ => 0
  | (y, m) :: r, z => match Nat.beq y z with
    | true => m
    | false => maskOf r z

abbrev Pend := List (Nat × Option (World → Prop))

/-- What was read, and may be read behind this operation, reads the same there. -/
def stays (m : Nat) (w : World) : Pend → Prop → Prop
  | [], K => K
  | (_, none) :: r, K => stays m w r K
  | (j, some f) :: r, K => match m.testBit j with
    | true => stays m w r K
    | false => f w ∧ stays m w r K

theorem stays_elim {m : Nat} {w : World} {K : Prop} : ∀ {p : Pend}, stays m w p K → K
  | [], h => h
  | (_, none) :: r, h => stays_elim (p := r) h
  | (j, some f) :: r, h => by
    simp only [stays] at h
    split at h
    · exact stays_elim h
    · exact stays_elim h.2

theorem stays_holds {m : Nat} {w : World} {K : Prop} : ∀ {p : Pend}, stays m w p K → ∀ j f, (j, some f) ∈ p → m.testBit j = false → f w
  | [], _, j, f, h, _ => by cases h
  | (i, none) :: r, h, j, f, hm, hb => by
    cases hm with
    | tail _ hm => exact stays_holds (p := r) h j f hm hb
  | (i, some g) :: r, h, j, f, hm, hb => by
    simp only [stays] at h
    split at h
    · rename_i hbi
      cases hm with
      | head => rw [hb] at hbi; cases hbi
      | tail _ hm => exact stays_holds (p := r) h j f hm hb
    · cases hm with
      | head => exact h.1
      | tail _ hm => exact stays_holds (p := r) h.2 j f hm hb

def opB (T : Tab) (P : Program) (hint : List Ty) (o : Oper) (env : Env) (w : World) (K : Value → World → Prop) : Prop :=
  match isN T o with
  | true => opN T P hint o env w fun v _ => K v w
  | false => opW T P hint o env w K

def guardSlot (ops : Array Oper) (j : Nat) : Option Nat :=
  match ops[j]? with
  | some o => o.dst
  | none => none

/-- One operation: run, or passed over, as its guard says. -/
def guarded (ops : Array Oper) (o : Oper) (env : Env) (run skip : Env → Prop) : Prop :=
  match o.guard with
  | none => run env
  | some (j, want) => withT (guardSlot ops j) fun d => withV (get env d) fun g =>
      (match g with
      | .bool b => cnd b
          (match want with | true => run (put1 env d (some (.bool true))) | false => skip (put1 env d (some (.bool true))))
          (match want with | true => skip (put1 env d (some (.bool false))) | false => run (put1 env d (some (.bool false))))
      | .tuple _ => skip env
      | _ => False)

/-- A LIST OF OPERATIONS, in the order of 'l'. -/
def vcReg (T : Tab) (P : Program) (ops : Array Oper) (hs : Hints) : List Nat → Env → World → (Env → World → Prop) → Prop
  | [], env, w, K => K env w
  | i :: rest, env, w, K => withT (ops[i]?) fun o => guarded ops o env
      (fun env => opB T P (hintOf hs i) o env w fun v w' => vcReg T P ops hs rest (put env o.dst v) w' K)
      (fun env => vcReg T P ops hs rest (put env o.dst undef) w K)

/-- The order in which a region that draws is gone through; where several that write may come next, each of them. -/
inductive OT where
  | done
  | nop (i m : Nat) (r : OT)
  | bar (i m : Nat) (r : OT) (alt : OT)
  | none

def deps (o : Oper) : List Nat := o.after.toList.filterMap fun e => match Region.binds .any e with
  | true => some e.on
  | false => .none

def depMask (M : Masks) : List Nat → Nat
  | [] => 0
  | z :: r => 2 ^ z ||| maskOf M z ||| depMask M r

/-- A REGION THAT DRAWS. -/
def vcT (T : Tab) (P : Program) (ops : Array Oper) (hs : Hints) : OT → Env → World → Pend → Masks → (Env → World → Prop) → Prop
  | .done, env, w, _, _, K => K env w
  | .none, _, _, _, _, _ => True
  | .nop i m r, env, w, pend, M, K => withT (ops[i]?) fun o => guarded ops o env
      (fun env => opN T P (hintOf hs i) o env w fun v st => vcT T P ops hs r (put env o.dst v) w ((i, st) :: pend) ((i, m) :: M) K)
      (fun env => vcT T P ops hs r (put env o.dst undef) w ((i, .none) :: pend) ((i, m) :: M) K)
  | .bar i m r alt, env, w, pend, M, K =>
      (match alt with
      | .none => withT (ops[i]?) fun o => guarded ops o env
          (fun env => opB T P (hintOf hs i) o env w fun v w' => stays m w' pend (vcT T P ops hs r (put env o.dst v) w' pend ((i, m) :: M) K))
          (fun env => vcT T P ops hs r (put env o.dst undef) w pend ((i, m) :: M) K)
      | alt => (withT (ops[i]?) fun o => guarded ops o env
          (fun env => opB T P (hintOf hs i) o env w fun v w' => stays m w' pend (vcT T P ops hs r (put env o.dst v) w' pend ((i, m) :: M) K))
          (fun env => vcT T P ops hs r (put env o.dst undef) w pend ((i, m) :: M) K)) ∧ vcT T P ops hs alt env w pend M K)

section
variable {P : Program} {T : Tab} {ops : Array Oper}

theorem Fits.same {env : Env} {a : Act} {d : Nat} {v : Value} (h : Fits env a) (hd : get env d = some v) : Fits (put1 env d (some v)) a := by
  refine ⟨h.1, by rw [put1_length]; exact h.2.1, fun i u hi => ?_⟩
  rw [get_put1] at hi
  split at hi
  · rename_i hc
    cases hi
    obtain ⟨rfl, _⟩ := hc
    exact h.2.2 _ _ hd
  · exact h.2.2 i u hi

theorem guarded_elim {o : Oper} {env : Env} {a : Act} {run skip : Env → Prop} (hf : Fits env a) (h : guarded ops o env run skip) :
    ∃ env', Fits env' a ∧ ((Region.wanted o (yielded ops a.tmps) = true ∧ run env') ∨ (Region.wanted o (yielded ops a.tmps) = false ∧ skip env')) := by
  unfold guarded at h
  split at h
  · rename_i hg
    exact ⟨env, hf, .inl ⟨by simp [Region.wanted, hg], h⟩⟩
  · rename_i j want hg
    obtain ⟨d, hd, h⟩ := withT_elim h
    obtain ⟨g, hgv, h⟩ := withV_elim h
    have hy : ∀ v, get env d = some v → yielded ops a.tmps j = (match v with | .bool b => some b | _ => none) := by
      intro v hv
      unfold guardSlot at hd
      unfold yielded
      cases ho : ops[j]? with
      | none => simp [ho] at hd
      | some oj =>
        simp only [ho] at hd
        simp only [hd, Option.bind_some, hf.2.2 d v hv]
        cases v <;> rfl
    split at h
    · rename_i b
      have hyb := hy _ hgv
      simp only at hyb
      cases b
      · cases want
        · exact ⟨_, hf.same hgv, .inl ⟨by simp [Region.wanted, hg, hyb], h⟩⟩
        · exact ⟨_, hf.same hgv, .inr ⟨by simp [Region.wanted, hg, hyb], h⟩⟩
      · cases want
        · exact ⟨_, hf.same hgv, .inr ⟨by simp [Region.wanted, hg, hyb], h⟩⟩
        · exact ⟨_, hf.same hgv, .inl ⟨by simp [Region.wanted, hg, hyb], h⟩⟩
    · have hyt := hy _ hgv
      simp only at hyt
      exact ⟨_, hf, .inr ⟨by simp [Region.wanted, hg, hyt], h⟩⟩
    · exact h.elim

/-- Slots that are not written stay. -/
def SameOff (ds : List Nat) (a a' : Act) : Prop := ∀ i, i ∉ ds → a'.tmps[i]? = a.tmps[i]?

theorem SameOff.refl (ds : List Nat) (a : Act) : SameOff ds a a := fun _ _ => rfl

theorem SameOff.put {ds : List Nat} {a a' : Act} {d : Option Tmp} {v : Value} (h : SameOff ds a a') (hd : ∀ x, d = some x → x ∈ ds) : SameOff ds a (a'.put d v) := by
  intro i hi
  cases d with
  | none => exact h i hi
  | some x =>
    have hne : x ≠ i := fun e => hi (e ▸ hd x rfl)
    simp only [Act.put, Array.getElem?_setIfInBounds_ne hne]
    exact h i hi

theorem SameOff.trans {ds : List Nat} {a b c : Act} (h : SameOff ds a b) (h' : SameOff ds b c) : SameOff ds a c := fun i hi => (h' i hi).trans (h i hi)

theorem SameOff.mono {ds es : List Nat} {a b : Act} (h : SameOff ds a b) (hs : ∀ x ∈ ds, x ∈ es) : SameOff es a b := fun i hi => h i fun hx => hi (hs i hx)

def dsts (ops : Array Oper) : List Nat := ops.toList.filterMap (·.dst)

theorem mem_dsts {i : Nat} {o : Oper} {x : Nat} (ho : ops[i]? = some o) (hx : o.dst = some x) : x ∈ dsts ops := by
  refine List.mem_filterMap.2 ⟨o, ?_, hx⟩
  have := List.mem_of_getElem? (l := ops.toList) (i := i) (a := o) (by simpa using ho)
  exact this

/-- What a region's run ends in. -/
def RegQ (ops : Array Oper) (a0 : Act) (K : Env → World → Prop) : Exit → Act → World → Prop
  | .normal, a, w => SameOff (dsts ops) a0 a ∧ ∃ env, Fits env a ∧ K env w
  | _, _, _ => False

theorem opB_sound (hT : TabOk P T) {hint : List Ty} {o : Oper} {env : Env} {a : Act} {w : World} {K : Value → World → Prop} (hf : Fits env a) (h : opB T P hint o env w K) : ResP P K ((execOp a.eval o).run P w) := by
  unfold opB at h
  split at h
  · obtain ⟨v, st, h1, h2, h3⟩ := opN_sound hT hf h
    rw [h1 w h2]
    exact h3
  · exact opW_sound hT hf h

theorem vcReg_plain (hT : TabOk P T) {hs : Hints} {K : Env → World → Prop} {a0 : Act} : ∀ (l : List Nat) (env : Env) (a : Act) (w : World), Fits env a → SameOff (dsts ops) a0 a →
    vcReg T P ops hs l env w K → wpOps P ops (RegQ ops a0 K) l a w
  | [], env, a, w, hf, hs, h => ⟨hs, env, hf, h⟩
  | i :: rest, env, a, w, hf, hsm, h => by
    obtain ⟨o, ho, h⟩ := withT_elim h
    obtain ⟨env', hf', h⟩ := guarded_elim hf h
    rw [wpOps_cons]
    unfold wpOp
    simp only [ho]
    rcases h with ⟨hw, h⟩ | ⟨hw, h⟩
    · simp only [hw, if_true]
      exact .inl ((opB_sound hT hf' h).wp fun v w' hk => vcReg_plain hT rest _ _ _ (hf'.put o.dst v) (hsm.put fun x hx => mem_dsts ho hx) hk)
    · simp only [hw, Bool.false_eq_true, if_false]
      exact vcReg_plain hT rest _ _ _ (hf'.put o.dst undef) (hsm.put fun x hx => mem_dsts ho hx) h

end
end Go.Vc

/-
  Regions that draw their order: one order serves for all of them.
-/
namespace Go.Vc

def dstIn (d : Option Nat) (l : List Nat) : Bool :=
  match d with
  | some d => l.contains d
  | none => false

def dstEq (d e : Option Nat) : Bool :=
  match d, e with
  | some a, some b => Nat.beq a b
  | _, _ => false

def notSel (o : Oper) : Bool :=
  match o.op with
  | .select _ _ => false
  | _ => true

def isBar (T : Tab) (bars : List Nat) (i : Nat) (o : Oper) : Bool := !(isN T o && !(bars.contains i))

/-- What an operation needs of one that stands ahead of it. -/
def pairOk (T : Tab) (ops : Array Oper) (bars : List Nat) (i : Nat) (o : Oper) (m : Nat) (x : Nat) : Bool :=
  match ops[x]? with
  | none => false
  | some ox => !(Nat.beq x i) &&
    (match isBar T bars x ox with
    | true => true
    | false => (match isBar T bars i o with
      | true => m.testBit x || (!(dstIn ox.dst (o.looksAt ops)) && !(dstEq ox.dst o.dst) && !(dstIn o.dst (ox.looksAt ops)))
      | false => !(dstIn o.dst (ox.looksAt ops)) && !(dstEq o.dst ox.dst) && (m.testBit x || !(dstIn ox.dst (o.looksAt ops)))))

def stepOk (T : Tab) (ops : Array Oper) (bars : List Nat) (i : Nat) (o : Oper) (m : Nat) (seen : List Nat) : Bool :=
  notSel o && (isBar T bars i o || !(dstIn o.dst (o.looksAt ops))) && (deps o).all (fun z => seen.contains z) && seen.all (fun x => pairOk T ops bars i o m x)

def heads : OT → List Nat
  | .bar i _ _ alt => i :: heads alt
  | _ => []

/-- Before one that writes all that may come ahead of it has come, but for the others that write. -/
def barOk (ops : Array Oper) (seen hd : List Nat) : Bool := (List.range ops.size).all fun j => seen.contains j || hd.contains j || (match ops[j]? with
  | some o => (deps o).any fun z => !(seen.contains z)
  | none => true)

/-- 'hd': the other ones that write and may come now. -/
def regGo (T : Tab) (ops : Array Oper) (bars : List Nat) : OT → List Nat → Masks → List Nat → Bool
  | .done, seen, _, _ => (List.range ops.size).all (fun j => seen.contains j)
  | .none, _, _, _ => false
  | .nop i m r, seen, M, _ => match ops[i]? with
    | none => false
    | some o => Nat.beq m (depMask M (deps o)) && (!(isBar T bars i o) && stepOk T ops bars i o m seen && regGo T ops bars r (i :: seen) ((i, m) :: M) [])
  | .bar i m r alt, seen, M, hd => match ops[i]? with
    | none => false
    | some o => Nat.beq m (depMask M (deps o)) && (isBar T bars i o && barOk ops seen (hd ++ i :: heads alt) && stepOk T ops bars i o m seen && regGo T ops bars r (i :: seen) ((i, m) :: M) [] &&
      (match alt with
      | .none => true
      | alt => regGo T ops bars alt seen M (i :: hd)))

def regOk (T : Tab) (ops : Array Oper) (l : OT) (bars : List Nat) : Bool := regGo T ops bars l [] [] []

section
variable {P : Program} {T : Tab} {ops : Array Oper} {bars : List Nat}

/-- What is known of the operations that have been gone through (the last one first). -/
def SeenOk (T : Tab) (ops : Array Oper) (bars : List Nat) : List Nat → Masks → Prop
  | [], [] => True
  | i :: s, (j, m) :: M => i = j ∧ (∃ o, ops[i]? = some o ∧ m = depMask M (deps o) ∧ stepOk T ops bars i o m s = true) ∧ SeenOk T ops bars s M
  | _, _ => False

theorem depMask_bit {M : Masks} {x : Nat} : ∀ {ds : List Nat}, (depMask M ds).testBit x = true → ∃ z ∈ ds, z = x ∨ (maskOf M z).testBit x = true
  | [], h => by simp [depMask] at h
  | z :: r, h => by
    simp only [depMask, Nat.testBit_or, Bool.or_eq_true] at h
    rcases h with (h | h) | h
    · rw [Nat.testBit_two_pow] at h
      exact ⟨z, by simp, .inl (by simpa using h)⟩
    · exact ⟨z, by simp, .inr h⟩
    · obtain ⟨y, hy, h⟩ := depMask_bit h
      exact ⟨y, by simp [hy], h⟩

theorem stepOk_deps {i : Nat} {o : Oper} {m : Nat} {s : List Nat} (h : stepOk T ops bars i o m s = true) : ∀ z ∈ deps o, z ∈ s := by
  simp only [stepOk, Bool.and_eq_true] at h
  intro z hz
  have := List.all_eq_true.1 h.1.2 z hz
  simpa using this

theorem stepOk_pair {i : Nat} {o : Oper} {m : Nat} {s : List Nat} (h : stepOk T ops bars i o m s = true) {x : Nat} (hx : x ∈ s) : pairOk T ops bars i o m x = true := by
  simp only [stepOk, Bool.and_eq_true] at h
  exact List.all_eq_true.1 h.2 x hx

theorem pairOk_ne {i : Nat} {o : Oper} {m x : Nat} (h : pairOk T ops bars i o m x = true) : x ≠ i := by
  unfold pairOk at h
  split at h
  · cases h
  · simp only [Bool.and_eq_true, Bool.not_eq_true'] at h
    exact Nat.ne_of_beq_eq_false h.1

theorem mem_deps {o : Oper} {z : Nat} : z ∈ deps o ↔ ∃ e ∈ o.after, Region.binds .any e = true ∧ e.on = z := by
  unfold deps
  rw [List.mem_filterMap]
  constructor
  · rintro ⟨e, he, h⟩
    split at h
    · rename_i hb
      cases h
      exact ⟨e, by simpa using he, hb, rfl⟩
    · cases h
  · rintro ⟨e, he, hb, rfl⟩
    exact ⟨e, by simpa using he, by simp [hb]⟩

/-- A set of operations that have run: with each one all that stand ahead of it. -/
def Closed (ops : Array Oper) (listed : Nat → Prop) : Prop := ∀ y o, ops[y]? = some o → listed y → ∀ z ∈ deps o, listed z

theorem mask_listed {listed : Nat → Prop} (hc : Closed ops listed) {x : Nat} : ∀ {s : List Nat} {M : Masks}, SeenOk T ops bars s M → ∀ z ∈ s, listed z → (maskOf M z).testBit x = true → listed x
  | [], _, _, z, hz, _, _ => by cases hz
  | i :: s, [], h, _, _, _, _ => h.elim
  | i :: s, (j, m) :: M, ⟨hij, ⟨o, ho, hm, hst⟩, hs⟩, z, hz, hl, hb => by
    subst hij
    by_cases hiz : i = z
    · subst hiz
      have e : maskOf ((i, m) :: M) i = m := by simp [maskOf]
      rw [e, hm] at hb
      obtain ⟨y, hy, hyx⟩ := depMask_bit hb
      have hly := hc i o ho hl y hy
      rcases hyx with rfl | hyx
      · exact hly
      · exact mask_listed hc hs y (stepOk_deps hst y hy) hly hyx
    · have hzs : z ∈ s := by
        rcases List.mem_cons.1 hz with rfl | h
        · exact absurd rfl hiz
        · exact h
      have e : maskOf ((i, m) :: M) z = maskOf M z := by
        have : Nat.beq i z = false := by
          cases hbq : Nat.beq i z
          · rfl
          · exact absurd (Nat.eq_of_beq_eq_true hbq) hiz
        simp [maskOf, this]
      rw [e] at hb
      exact mask_listed hc hs z hzs hl hb

/-- .. of one that is ready. -/
theorem ready_listed {listed : Nat → Prop} (hc : Closed ops listed) {x : Nat} {o : Oper} {s : List Nat} {M : Masks} (hs : SeenOk T ops bars s M) (hd : ∀ z ∈ deps o, z ∈ s) (hr : ∀ z ∈ deps o, listed z)
    (hb : (depMask M (deps o)).testBit x = true) : listed x := by
  obtain ⟨y, hy, hyx⟩ := depMask_bit hb
  rcases hyx with rfl | hyx
  · exact hr y hy
  · exact mask_listed hc hs y (hd y hy) (hr y hy) hyx

theorem maskOf_head (i m : Nat) (M : Masks) : maskOf ((i, m) :: M) i = m := by simp [maskOf]

theorem maskOf_tail {i z : Nat} (m : Nat) (M : Masks) (h : i ≠ z) : maskOf ((i, m) :: M) z = maskOf M z := by
  have : Nat.beq i z = false := by
    cases hbq : Nat.beq i z
    · rfl
    · exact absurd (Nat.eq_of_beq_eq_true hbq) h
  simp [maskOf, this]

/-- What is read and written where two stand one behind the other. -/
theorem seen_pairs : ∀ {s : List Nat} {M : Masks}, SeenOk T ops bars s M → ∀ x ∈ s, ∀ y ∈ s, x ≠ y →
    (∃ o, ops[y]? = some o ∧ pairOk T ops bars y o (maskOf M y) x = true) ∨ (∃ o, ops[x]? = some o ∧ pairOk T ops bars x o (maskOf M x) y = true)
  | [], _, _, x, hx, _, _, _ => by cases hx
  | i :: s, [], h, _, _, _, _, _ => h.elim
  | i :: s, (j, m) :: M, ⟨hij, ⟨o, ho, hm, hst⟩, hs⟩, x, hx, y, hy, hne => by
    subst hij
    rcases List.mem_cons.1 hx with rfl | hx'
    · rcases List.mem_cons.1 hy with rfl | hy'
      · exact absurd rfl hne
      · exact .inr ⟨o, ho, by rw [maskOf_head]; exact stepOk_pair hst hy'⟩
    · rcases List.mem_cons.1 hy with rfl | hy'
      · exact .inl ⟨o, ho, by rw [maskOf_head]; exact stepOk_pair hst hx'⟩
      · have hix : i ≠ x := (pairOk_ne (stepOk_pair hst hx')).symm
        have hiy : i ≠ y := (pairOk_ne (stepOk_pair hst hy')).symm
        rw [maskOf_tail _ _ hix, maskOf_tail _ _ hiy]
        exact seen_pairs hs x hx' y hy' hne

theorem seen_op : ∀ {s : List Nat} {M : Masks}, SeenOk T ops bars s M → ∀ x ∈ s, ∃ o s' M', ops[x]? = some o ∧ SeenOk T ops bars s' M' ∧ (∀ z ∈ s', z ∈ s) ∧ stepOk T ops bars x o (maskOf M x) s' = true ∧ maskOf M x = depMask M' (deps o)
  | [], _, _, x, hx => by cases hx
  | i :: s, [], h, _, _ => h.elim
  | i :: s, (j, m) :: M, ⟨hij, ⟨o, ho, hm, hst⟩, hs⟩, x, hx => by
    subst hij
    by_cases hix : i = x
    · subst hix
      exact ⟨o, s, M, ho, hs, fun z hz => List.mem_cons_of_mem _ hz, by rw [maskOf_head]; exact hst, by rw [maskOf_head]; exact hm⟩
    · have hxs : x ∈ s := by
        rcases List.mem_cons.1 hx with rfl | h
        · exact absurd rfl hix
        · exact h
      obtain ⟨o', s', M', h1, h2, h3, h4, h5⟩ := seen_op hs x hxs
      rw [maskOf_tail _ _ hix]
      exact ⟨o', s', M', h1, h2, fun z hz => List.mem_cons_of_mem _ (h3 z hz), h4, h5⟩

end
end Go.Vc

/-
  Regions that draw their order: the simulation.
-/
namespace Go.Vc

abbrev Pd := List (Nat × Value × Option (World → Prop))

section
variable {P : Program} {T : Tab} {ops : Array Oper} {bars : List Nat}

/-- An operation's value in a frame, wherever it is run. -/
def Yl (P : Program) (ops : Array Oper) (o : Oper) (v : Value) (st : Option (World → Prop)) (av : Act) : Prop :=
  (Region.wanted o (yielded ops av.tmps) = true ∧ ∀ w', stp st w' → (execOp av.eval o).run P w' = .ok (.value v) w') ∨ (Region.wanted o (yielded ops av.tmps) = false ∧ v = undef)

theorem notSel_spec {o : Oper} (h : notSel o = true) : ∀ cs b, o.op ≠ .select cs b := by
  intro cs b e
  unfold notSel at h
  rw [e] at h
  cases h

theorem looks_same {o : Oper} {a b : Act} (hn : notSel o = true) (h : ∀ t ∈ o.looksAt ops, a.tmps[t]? = b.tmps[t]?) :
    execOp a.eval o = execOp b.eval o ∧ Region.wanted o (yielded ops a.tmps) = Region.wanted o (yielded ops b.tmps) := by
  constructor
  · refine execOp_congr o (notSel_spec hn) fun x hx => ?_
    cases x with
    | tmp t =>
      have ht : t ∈ o.looksAt ops := List.mem_append_left _ (List.mem_filterMap.2 ⟨.tmp t, by simpa using hx, rfl⟩)
      simp only [Act.eval, Array.getD_eq_getD_getElem?, h t ht]
    | _ => rfl
  · unfold Region.wanted
    cases hg : o.guard with
    | none => rfl
    | some gw =>
      obtain ⟨g, want⟩ := gw
      have hy : yielded ops a.tmps g = yielded ops b.tmps g := by
        unfold yielded
        cases ht : (ops[g]?).bind (·.dst) with
        | none => rfl
        | some t =>
          have hm : t ∈ o.looksAt ops := List.mem_append_right _ (by simp [hg, ht])
          simp only [Option.bind_some, h t hm]
      simp only [hy]

theorem put_get_ne (a : Act) (d : Option Tmp) (v : Value) {s : Nat} (h : d ≠ some s) : (a.put d v).tmps[s]? = a.tmps[s]? := by
  cases d with
  | none => rfl
  | some d =>
    have hne : d ≠ s := fun e => h (by rw [e])
    simp [Act.put, Array.getElem?_setIfInBounds_ne hne]

theorem put_size (a : Act) (d : Option Tmp) (v : Value) : (a.put d v).tmps.size = a.tmps.size := by
  cases d <;> simp [Act.put]

theorem put_defers (a : Act) (d : Option Tmp) (v : Value) : (a.put d v).defers = a.defers := by
  cases d <;> rfl

theorem put_get_eq {a b : Act} (hs : a.tmps.size = b.tmps.size) (d : Option Tmp) (v : Value) {s : Nat} (h : d ≠ some s → a.tmps[s]? = b.tmps[s]?) : (a.put d v).tmps[s]? = (b.put d v).tmps[s]? := by
  by_cases hd : d = some s
  · subst hd
    simp only [Act.put, Array.getElem?_setIfInBounds, hs]
    split <;> simp_all
  · rw [put_get_ne a d v hd, put_get_ne b d v hd]
    exact h hd

theorem put_twice (a : Act) (d : Option Tmp) (v : Value) : (a.put d v).put d v = a.put d v := by
  cases d with
  | none => rfl
  | some d => simp [Act.put]

theorem dstIn_spec {d : Option Nat} {l : List Nat} (h : dstIn d l = false) : ∀ s ∈ l, d ≠ some s := by
  intro s hs e
  subst e
  simp [dstIn] at h
  exact h hs

theorem dstEq_spec {d e : Option Nat} (h : dstEq d e = false) : ∀ s, d = some s → e ≠ some s := by
  rintro s rfl rfl
  simp [dstEq] at h

theorem Yl.put {o : Oper} {v : Value} {st : Option (World → Prop)} {av : Act} (hn : notSel o = true) (h : Yl P ops o v st av) {d : Option Nat} (u : Value) (hd : dstIn d (o.looksAt ops) = false) : Yl P ops o v st (av.put d u) := by
  obtain ⟨h1, h2⟩ := looks_same (ops := ops) (a := av.put d u) (b := av) hn (fun t ht => put_get_ne av d u (dstIn_spec hd t ht))
  unfold Yl at *
  rw [h1, h2]
  exact h

theorem stepOk_new {i : Nat} {o : Oper} {m : Nat} {s : List Nat} (h : stepOk T ops bars i o m s = true) : i ∉ s := fun hs => pairOk_ne (stepOk_pair h hs) rfl

theorem regGo_nop {i m : Nat} {r : OT} {s : List Nat} {M : Masks} {hd : List Nat} (h : regGo T ops bars (.nop i m r) s M hd = true) : ∃ o, ops[i]? = some o ∧ m = depMask M (deps o) ∧ isBar T bars i o = false ∧ stepOk T ops bars i o (depMask M (deps o)) s = true ∧
    regGo T ops bars r (i :: s) ((i, depMask M (deps o)) :: M) [] = true := by
  simp only [regGo] at h
  split at h
  · cases h
  · rename_i o ho
    simp only [Bool.and_eq_true, Bool.not_eq_true'] at h
    have hm := Nat.eq_of_beq_eq_true h.1
    subst hm
    exact ⟨o, ho, rfl, h.2.1.1, h.2.1.2, h.2.2⟩

theorem stepOk_notSel {i : Nat} {o : Oper} {m : Nat} {s : List Nat} (h : stepOk T ops bars i o m s = true) : notSel o = true := by
  simp only [stepOk, Bool.and_eq_true] at h
  exact h.1.1.1

theorem stepOk_self {i : Nat} {o : Oper} {m : Nat} {s : List Nat} (h : stepOk T ops bars i o m s = true) (hb : isBar T bars i o = false) : dstIn o.dst (o.looksAt ops) = false := by
  simp only [stepOk, Bool.and_eq_true] at h
  have := h.1.1.2
  rw [hb] at this
  simpa using this

theorem pairOk_NN {i x : Nat} {o ox : Oper} {m : Nat} (h : pairOk T ops bars i o m x = true) (hx : ops[x]? = some ox) (hbx : isBar T bars x ox = false) (hb : isBar T bars i o = false) :
    dstIn o.dst (ox.looksAt ops) = false ∧ dstEq o.dst ox.dst = false ∧ (m.testBit x = true ∨ dstIn ox.dst (o.looksAt ops) = false) := by
  simp only [pairOk, hx, hbx, hb, Bool.and_eq_true, Bool.not_eq_true', Bool.or_eq_true] at h
  exact ⟨h.2.1.1, h.2.1.2, h.2.2⟩

theorem pairOk_NB {i x : Nat} {o ox : Oper} {m : Nat} (h : pairOk T ops bars i o m x = true) (hx : ops[x]? = some ox) (hbx : isBar T bars x ox = false) (hb : isBar T bars i o = true) :
    m.testBit x = true ∨ (dstIn ox.dst (o.looksAt ops) = false ∧ dstEq ox.dst o.dst = false ∧ dstIn o.dst (ox.looksAt ops) = false) := by
  simp only [pairOk, hx, hbx, hb, Bool.and_eq_true, Bool.not_eq_true', Bool.or_eq_true] at h
  rcases h.2 with h | h
  · exact .inl h
  · exact .inr ⟨h.1.1, h.1.2, h.2⟩

end

section
variable (P : Program) (T : Tab) (ops : Array Oper) (bars : List Nat) (hs : Hints) (K : Env → World → Prop) (a0 : Act)

structure Inv (seen : List Nat) (rest : OT) (M : Masks) (pd : Pd) (av a : Act) (w : World) (listed : Array Bool) : Prop where
  seenOk : SeenOk T ops bars seen M
  go : regGo T ops bars rest seen M [] = true
  lsize : listed.size = ops.size
  lseen : ∀ j ∈ seen, (listed.getD j false = true ↔ ∀ p ∈ pd, p.1 ≠ j)
  llt : ∀ j, listed.getD j false = true → j ∈ seen
  closed : Closed ops (fun j => listed.getD j false = true)
  nodup : (pd.map (·.1)).Nodup
  pds : ∀ p ∈ pd, p.1 ∈ seen ∧ ∃ o, ops[p.1]? = some o ∧ isBar T bars p.1 o = false ∧ Yl P ops o p.2.1 p.2.2 av ∧ stp p.2.2 w ∧ av.put o.dst p.2.1 = av
  agree : a.defers = av.defers ∧ a.tmps.size = av.tmps.size ∧ ∀ s, (∀ p ∈ pd, ∀ o, ops[p.1]? = some o → o.dst ≠ some s) → a.tmps[s]? = av.tmps[s]?
  off : SameOff (dsts ops) a0 a
  can : ∃ env pend, Fits env av ∧ vcT T P ops hs rest env w pend M K ∧ ∀ p ∈ pd, (p.1, p.2.2) ∈ pend
end

section
variable {P : Program} {T : Tab} {ops : Array Oper} {bars : List Nat} {hs : Hints} {K : Env → World → Prop} {a0 : Act}
variable {seen : List Nat} {rest : OT} {M : Masks} {pd : Pd} {av a : Act} {w : World} {listed : Array Bool}

theorem ready_deps {i : Nat} {o : Oper} (hr : i ∈ Region.ready .any ops listed) (ho : ops[i]? = some o) : ∀ z ∈ deps o, listed.getD z false = true := by
  obtain ⟨_, o', ho', hall⟩ := mem_ready.1 hr
  rw [ho] at ho'
  cases ho'
  intro z hz
  obtain ⟨e, he, hb, rfl⟩ := mem_deps.1 hz
  exact hall e he hb

/-- The next one in the order is gone through in mind. -/
theorem Inv.adv (hT : TabOk P T) {x m : Nat} {r : OT} (inv : Inv P T ops bars hs K a0 seen (.nop x m r) M pd av a w listed) :
    ∃ o v st, Inv P T ops bars hs K a0 (x :: seen) r ((x, depMask M (deps o)) :: M) ((x, v, st) :: pd) (av.put o.dst v) a w listed := by
  obtain ⟨o, ho, hm_, hb, hst, hgo⟩ := regGo_nop inv.go
  subst hm_
  obtain ⟨env, pend, hf, hv, hpend⟩ := inv.can
  obtain ⟨o', ho', hv⟩ := withT_elim hv
  rw [ho] at ho'
  cases ho'
  obtain ⟨env', hf', hv⟩ := guarded_elim hf hv
  have key : ∃ v st, Yl P ops o v st av ∧ stp st w ∧ vcT T P ops hs r (put env' o.dst v) w ((x, st) :: pend) ((x, depMask M (deps o)) :: M) K := by
    rcases hv with ⟨hw, hv⟩ | ⟨hw, hv⟩
    · obtain ⟨v, st, h1, h2, h3⟩ := opN_sound hT hf' hv
      exact ⟨v, st, .inl ⟨hw, h1⟩, h2, h3⟩
    · exact ⟨undef, none, .inr ⟨hw, rfl⟩, trivial, hv⟩
  obtain ⟨v, st, hy, hstp, hv⟩ := key
  have hxs : x ∉ seen := stepOk_new hst
  have hself := stepOk_self hst hb
  have hsel := stepOk_notSel hst
  refine ⟨o, v, st, ⟨rfl, ⟨o, ho, rfl, hst⟩, inv.seenOk⟩, hgo, inv.lsize, ?_, fun j hj => List.mem_cons_of_mem _ (inv.llt j hj), inv.closed, ?_, ?_, ?_, inv.off, ?_⟩
  · intro j hj
    rcases List.mem_cons.1 hj with rfl | hj
    · have h0 : listed.getD j false = false := by
        cases hq : listed.getD j false
        · rfl
        · exact absurd (inv.llt j hq) hxs
      rw [h0]
      constructor
      · intro h; cases h
      · intro h; exact absurd rfl (h _ (List.mem_cons_self))
    · rw [inv.lseen j hj]
      constructor
      · intro h p hp
        rcases List.mem_cons.1 hp with rfl | hp
        · intro e
          simp only at e
          exact hxs (e ▸ hj)
        · exact h p hp
      · exact fun h p hp => h p (List.mem_cons_of_mem _ hp)
  · rw [List.map_cons, List.nodup_cons]
    refine ⟨?_, inv.nodup⟩
    intro hm
    obtain ⟨p, hp, he⟩ := List.mem_map.1 hm
    simp only at he
    exact hxs (he ▸ (inv.pds p hp).1)
  · intro p hp
    rcases List.mem_cons.1 hp with rfl | hp
    · exact ⟨by simp, o, ho, hb, hy.put hsel v hself, hstp, put_twice _ _ _⟩
    · obtain ⟨h1, op, h2, h3, h4, h5, h6⟩ := inv.pds p hp
      have hpair := pairOk_NN (stepOk_pair hst h1) h2 h3 hb
      obtain ⟨op', _, _, hop', _, _, hst', _⟩ := seen_op inv.seenOk p.1 h1
      rw [h2] at hop'; cases hop'
      refine ⟨List.mem_cons_of_mem _ h1, op, h2, h3, h4.put (stepOk_notSel hst') v hpair.1, h5, ?_⟩
      rw [Act.put_comm av v p.2.1 (dstEq_spec hpair.2.1), h6]
  · refine ⟨by rw [put_defers]; exact inv.agree.1, by rw [put_size]; exact inv.agree.2.1, fun s hs' => ?_⟩
    have h1 : o.dst ≠ some s := hs' (x, v, st) (by simp) o ho
    rw [put_get_ne av o.dst v h1]
    exact inv.agree.2.2 s fun p hp => hs' p (List.mem_cons_of_mem _ hp)
  · exact ⟨_, _, hf'.put o.dst v, hv, fun p hp => by
      rcases List.mem_cons.1 hp with rfl | hp
      · simp
      · exact List.mem_cons_of_mem _ (hpend p hp)⟩

theorem getD_set (listed : Array Bool) (i j : Nat) (hi : i < listed.size) : (listed.setIfInBounds i true).getD j false = (if i = j then true else listed.getD j false) := by
  simp only [Array.getD_eq_getD_getElem?, Array.getElem?_setIfInBounds]
  by_cases h : i = j
  · subst h; simp [hi]
  · simp [h]

/-- One that was gone through in mind is run. -/
theorem Inv.fire {n : Nat} {i : Nat} (inv : Inv P T ops bars hs K a0 seen rest M pd av a w listed) (hr : i ∈ Region.ready .any ops listed) {v : Value} {st : Option (World → Prop)} (hp : (i, v, st) ∈ pd)
    (ih : ∀ pd' a' listed', Inv P T ops bars hs K a0 seen rest M pd' av a' w listed' → listed' = listed.setIfInBounds i true → wpAny P .any ops (RegQ ops a0 K) n listed' a' w) :
    wpOp P ops (RegQ ops a0 K) i (wpAny P .any ops (RegQ ops a0 K) n (listed.setIfInBounds i true)) a w := by
  obtain ⟨hiS, o, ho, hbi, hy, hstp, hput⟩ := inv.pds _ hp
  simp only at hiS ho hbi hy hstp hput
  have hdeps := ready_deps hr ho
  obtain ⟨o', s', M', ho', hs', hsub, hst, hmask⟩ := seen_op inv.seenOk i hiS
  rw [ho] at ho'; cases ho'
  have hilt : i < listed.size := by rw [inv.lsize]; exact (Array.getElem?_eq_some_iff.1 ho).1
  -- the frames agree on what it looks at
  have hlook : ∀ t ∈ o.looksAt ops, a.tmps[t]? = av.tmps[t]? := by
    intro t ht
    refine inv.agree.2.2 t fun p hpp op hop e => ?_
    obtain ⟨hpS, op', hop', hbp, _⟩ := inv.pds p hpp
    rw [hop] at hop'; cases hop'
    by_cases hpi : p.1 = i
    · rw [hpi, ho] at hop; cases hop
      exact dstIn_spec (stepOk_self hst hbi) t ht e
    · rcases seen_pairs inv.seenOk p.1 hpS i hiS hpi with ⟨oi, hoi, hpr⟩ | ⟨ox, hox, hpr⟩
      · rw [ho] at hoi; cases hoi
        obtain ⟨_, _, h3⟩ := pairOk_NN hpr hop hbp hbi
        rcases h3 with h3 | h3
        · rw [hmask] at h3
          have hl := ready_listed inv.closed hs' (stepOk_deps hst) hdeps h3
          have := (inv.lseen p.1 hpS).1 hl p hpp
          exact this rfl
        · exact dstIn_spec h3 t ht e
      · rw [hop] at hox; cases hox
        obtain ⟨h1, _, _⟩ := pairOk_NN hpr ho hbi hbp
        exact dstIn_spec h1 t ht e
  obtain ⟨hex, hwant⟩ := looks_same (stepOk_notSel hst) hlook
  have next : wpAny P .any ops (RegQ ops a0 K) n (listed.setIfInBounds i true) (a.put o.dst v) w := by
    obtain ⟨l1, l2, hsplit⟩ := List.append_of_mem hp
    have hnd := inv.nodup
    rw [hsplit] at hnd
    simp only [List.map_append, List.map_cons] at hnd
    have hkey : ∀ p ∈ l1 ++ l2, p.1 ≠ i := by
      intro p hpp e
      have h := List.nodup_append.1 hnd
      rcases List.mem_append.1 hpp with h1 | h1
      · exact h.2.2 p.1 (List.mem_map.2 ⟨p, h1, rfl⟩) i (by simp) e
      · have := (List.nodup_cons.1 h.2.1).1
        exact this (e ▸ List.mem_map.2 ⟨p, h1, rfl⟩)
    have hin : ∀ p ∈ l1 ++ l2, p ∈ pd := fun p hpp => by
      rw [hsplit]
      rcases List.mem_append.1 hpp with h | h
      · exact List.mem_append_left _ h
      · exact List.mem_append_right _ (List.mem_cons_of_mem _ h)
    have hback : ∀ p ∈ pd, p.1 ≠ i → p ∈ l1 ++ l2 := fun p hpp hne => by
      rw [hsplit] at hpp
      rcases List.mem_append.1 hpp with h | h
      · exact List.mem_append_left _ h
      · rcases List.mem_cons.1 h with rfl | h
        · exact absurd rfl hne
        · exact List.mem_append_right _ h
    refine ih (l1 ++ l2) (a.put o.dst v) (listed.setIfInBounds i true) ?_ rfl
    refine ⟨inv.seenOk, inv.go, by simp [inv.lsize], ?_, ?_, ?_, ?_, fun p hpp => inv.pds p (hin p hpp), ?_, inv.off.put fun x hx => mem_dsts ho hx, ?_⟩
    · intro j hj
      rw [getD_set _ _ _ hilt]
      by_cases hji : i = j
      · subst hji
        rw [if_pos rfl]
        exact ⟨fun _ => hkey, fun _ => rfl⟩
      · rw [if_neg hji, inv.lseen j hj]
        constructor
        · exact fun h p hpp => h p (hin p hpp)
        · intro h p hpp
          by_cases hpi : p.1 = i
          · exact fun e => hji (hpi ▸ e)
          · exact h p (hback p hpp hpi)
    · intro j hj
      rw [getD_set _ _ _ hilt] at hj
      by_cases hji : i = j
      · exact hji ▸ hiS
      · rw [if_neg hji] at hj
        exact inv.llt j hj
    · intro y oy hoy hly z hz
      simp only [getD_set _ _ _ hilt] at hly ⊢
      by_cases hiz : i = z
      · rw [if_pos hiz]
      · rw [if_neg hiz]
        by_cases hiy : i = y
        · subst hiy
          rw [ho] at hoy; cases hoy
          exact hdeps z hz
        · rw [if_neg hiy] at hly
          exact inv.closed y oy hoy hly z hz
    · have h := List.nodup_append.1 hnd
      rw [List.map_append, List.nodup_append]
      exact ⟨h.1, (List.nodup_cons.1 h.2.1).2, fun x hx y hy => h.2.2 x hx y (List.mem_cons_of_mem _ hy)⟩
    · refine ⟨by rw [put_defers]; exact inv.agree.1, by rw [put_size]; exact inv.agree.2.1, fun s hss => ?_⟩
      rw [← hput]
      refine put_get_eq inv.agree.2.1 o.dst v fun hne => ?_
      refine inv.agree.2.2 s fun p hpp op hop e => ?_
      by_cases hpi : p.1 = i
      · rw [hpi, ho] at hop; cases hop
        exact hne e
      · exact hss p (hback p hpp hpi) op hop e
    · obtain ⟨env, pend, h1, h2, h3⟩ := inv.can
      exact ⟨env, pend, h1, h2, fun p hpp => h3 p (hin p hpp)⟩
  unfold wpOp
  simp only [ho]
  rcases hy with ⟨hw, hrun⟩ | ⟨hw, rfl⟩
  · rw [hwant, if_pos hw]
    refine .inl ?_
    unfold Oper.wp
    rw [hex, hrun w hstp]
    exact next
  · rw [hwant, if_neg (by simp [hw])]
    exact next

end
end Go.Vc

/-
  Regions that draw their order: the simulation's end; 'vcReg' in one order serves for all.
-/
namespace Go.Vc

section
variable {P : Program} {T : Tab} {ops : Array Oper} {bars : List Nat} {hs : Hints} {K : Env → World → Prop} {a0 : Act}
variable {seen : List Nat} {rest : OT} {M : Masks} {pd : Pd} {av a : Act} {w : World} {listed : Array Bool}

/-- What a chain of those that write says of each of them. -/
theorem bar_of {env : Env} {pend : Pend} {x : Nat} : ∀ {l : OT} {hd : List Nat}, x ∈ heads l → regGo T ops bars l seen M hd = true → vcT T P ops hs l env w pend M K →
    ∃ o r, ops[x]? = some o ∧ isBar T bars x o = true ∧ stepOk T ops bars x o (depMask M (deps o)) seen = true ∧ regGo T ops bars r (x :: seen) ((x, depMask M (deps o)) :: M) [] = true ∧
      guarded ops o env (fun env => opB T P (hintOf hs x) o env w fun v w' => stays (depMask M (deps o)) w' pend (vcT T P ops hs r (put env o.dst v) w' pend ((x, depMask M (deps o)) :: M) K))
        (fun env => vcT T P ops hs r (put env o.dst undef) w pend ((x, depMask M (deps o)) :: M) K)
  | .done, _, hx, _, _ => by cases hx
  | .none, _, hx, _, _ => by cases hx
  | .nop _ _ _, _, hx, _, _ => by cases hx
  | .bar i m r alt, hd, hx, hg, hv => by
    have hg' : ∃ o, ops[i]? = some o ∧ m = depMask M (deps o) ∧ isBar T bars i o = true ∧ stepOk T ops bars i o (depMask M (deps o)) seen = true ∧ regGo T ops bars r (i :: seen) ((i, depMask M (deps o)) :: M) [] = true ∧
        (alt ≠ .none → regGo T ops bars alt seen M (i :: hd) = true) := by
      unfold regGo at hg
      split at hg
      · cases hg
      · rename_i o ho
        simp only [Bool.and_eq_true] at hg
        obtain ⟨hm, hg⟩ := hg
        have hm := Nat.eq_of_beq_eq_true hm
        subst hm
        refine ⟨o, ho, rfl, hg.1.1.1.1, hg.1.1.2, hg.1.2, fun hne => ?_⟩
        have h2 := hg.2
        cases alt <;> first | exact absurd rfl hne | exact h2
    obtain ⟨o, ho, hm, h1, h2, h3, h4⟩ := hg'
    have hv' : (withT (ops[i]?) fun o => guarded ops o env (fun env => opB T P (hintOf hs i) o env w fun v w' => stays m w' pend (vcT T P ops hs r (put env o.dst v) w' pend ((i, m) :: M) K))
        (fun env => vcT T P ops hs r (put env o.dst undef) w pend ((i, m) :: M) K)) ∧ (alt ≠ .none → vcT T P ops hs alt env w pend M K) := by
      cases alt with
      | none => exact ⟨hv, fun h => absurd rfl h⟩
      | done => exact ⟨hv.1, fun _ => hv.2⟩
      | nop j m q => exact ⟨hv.1, fun _ => hv.2⟩
      | bar j m q t => exact ⟨hv.1, fun _ => hv.2⟩
    by_cases hxi : x = i
    · subst hxi
      obtain ⟨o', ho', hv1⟩ := withT_elim hv'.1
      rw [ho] at ho'; cases ho'
      subst hm
      exact ⟨o, r, ho, h1, h2, h3, hv1⟩
    · have hxa : x ∈ heads alt := by
        rcases List.mem_cons.1 hx with h | h
        · exact absurd h hxi
        · exact h
      have hne : alt ≠ .none := fun e => by rw [e] at hxa; cases hxa
      exact bar_of hxa (h4 hne) (hv'.2 hne)

/-- One that writes is run. -/
theorem Inv.bar (hT : TabOk P T) {n x : Nat} (inv : Inv P T ops bars hs K a0 seen rest M pd av a w listed) (hx : x ∈ heads rest) (hr : x ∈ Region.ready .any ops listed)
    (ih : ∀ seen' r M' av' a' w' listed', Inv P T ops bars hs K a0 seen' r M' pd av' a' w' listed' → listed' = listed.setIfInBounds x true → wpAny P .any ops (RegQ ops a0 K) n listed' a' w') :
    wpOp P ops (RegQ ops a0 K) x (wpAny P .any ops (RegQ ops a0 K) n (listed.setIfInBounds x true)) a w := by
  obtain ⟨env, pend, hf, hv, hpend⟩ := inv.can
  obtain ⟨o, r, ho, hb, hst, hgo, hv⟩ := bar_of hx inv.go hv
  have hdeps := ready_deps hr ho
  have hxs : x ∉ seen := stepOk_new hst
  have hxlt : x < listed.size := by rw [inv.lsize]; exact (Array.getElem?_eq_some_iff.1 ho).1
  -- those that wait are not needed by it
  have hwait : ∀ p ∈ pd, ∀ op, ops[p.1]? = some op → dstIn op.dst (o.looksAt ops) = false ∧ dstEq op.dst o.dst = false ∧ dstIn o.dst (op.looksAt ops) = false ∧ (depMask M (deps o)).testBit p.1 = false := by
    intro p hp op hop
    obtain ⟨hpS, op', hop', hbp, _⟩ := inv.pds p hp
    rw [hop] at hop'; cases hop'
    have hbit : (depMask M (deps o)).testBit p.1 = false := by
      cases hbq : (depMask M (deps o)).testBit p.1
      · rfl
      · have hl := ready_listed inv.closed inv.seenOk (stepOk_deps hst) hdeps hbq
        exact absurd rfl ((inv.lseen p.1 hpS).1 hl p hp)
    rcases pairOk_NB (stepOk_pair hst hpS) hop hbp hb with h | h
    · rw [hbit] at h; cases h
    · exact ⟨h.1, h.2.1, h.2.2, hbit⟩
  have hlook : ∀ t ∈ o.looksAt ops, a.tmps[t]? = av.tmps[t]? := fun t ht =>
    inv.agree.2.2 t fun p hp op hop e => dstIn_spec (hwait p hp op hop).1 t ht e
  obtain ⟨hex, hwant⟩ := looks_same (stepOk_notSel hst) hlook
  obtain ⟨env', hf', hv⟩ := guarded_elim hf hv
  -- behind it
  have next : ∀ (v : Value) (w' : World) (pend' : Pend), vcT T P ops hs r (put env' o.dst v) w' pend' ((x, depMask M (deps o)) :: M) K → (∀ p ∈ pd, (p.1, p.2.2) ∈ pend') → (∀ p ∈ pd, stp p.2.2 w') →
      wpAny P .any ops (RegQ ops a0 K) n (listed.setIfInBounds x true) (a.put o.dst v) w' := by
    intro v w' pend' hv' hpend' hstp'
    refine ih (x :: seen) r ((x, depMask M (deps o)) :: M) (av.put o.dst v) _ _ _ ⟨⟨rfl, ⟨o, ho, rfl, hst⟩, inv.seenOk⟩, hgo, by simp [inv.lsize], ?_, ?_, ?_, inv.nodup, ?_, ?_, inv.off.put fun y hy => mem_dsts ho hy, _, pend', hf'.put o.dst v, hv', hpend'⟩ rfl
    · intro j hj
      rw [getD_set _ _ _ hxlt]
      by_cases hxj : x = j
      · rw [if_pos hxj]
        exact ⟨fun _ p hp e => hxs (hxj ▸ e ▸ (inv.pds p hp).1), fun _ => rfl⟩
      · rw [if_neg hxj]
        rcases List.mem_cons.1 hj with rfl | hj
        · exact absurd rfl hxj
        · exact inv.lseen j hj
    · intro j hj
      rw [getD_set _ _ _ hxlt] at hj
      by_cases hxj : x = j
      · exact hxj ▸ List.mem_cons_self
      · rw [if_neg hxj] at hj
        exact List.mem_cons_of_mem _ (inv.llt j hj)
    · intro y oy hoy hly z hz
      simp only [getD_set _ _ _ hxlt] at hly ⊢
      by_cases hxz : x = z
      · rw [if_pos hxz]
      · rw [if_neg hxz]
        by_cases hxy : x = y
        · subst hxy
          rw [ho] at hoy; cases hoy
          exact hdeps z hz
        · rw [if_neg hxy] at hly
          exact inv.closed y oy hoy hly z hz
    · intro p hp
      obtain ⟨h1, op, h2, h3, h4, h5, h6⟩ := inv.pds p hp
      obtain ⟨q1, q2, q3, q4⟩ := hwait p hp op h2
      obtain ⟨op', _, _, hop', _, _, hst', _⟩ := seen_op inv.seenOk p.1 h1
      rw [h2] at hop'; cases hop'
      refine ⟨List.mem_cons_of_mem _ h1, op, h2, h3, h4.put (stepOk_notSel hst') v q3, hstp' p hp, ?_⟩
      rw [Act.put_comm av v p.2.1 (fun s e e' => dstEq_spec q2 s e' e), h6]
    · refine ⟨by rw [put_defers, put_defers]; exact inv.agree.1, by rw [put_size, put_size]; exact inv.agree.2.1, fun s hss => ?_⟩
      exact put_get_eq inv.agree.2.1 o.dst v fun _ => inv.agree.2.2 s hss
  unfold wpOp
  simp only [ho]
  rcases hv with ⟨hw, hv⟩ | ⟨hw, hv⟩
  · rw [hwant, if_pos hw]
    refine .inl ?_
    have hres := opB_sound hT hf' hv
    rw [← hex] at hres
    refine hres.wp fun v w' hk => next v w' pend (stays_elim hk) hpend fun p hp => ?_
    obtain ⟨h1, op, h2, _⟩ := inv.pds p hp
    have hq4 := (hwait p hp op h2).2.2.2
    cases hst2 : p.2.2 with
    | none => trivial
    | some f =>
      have hm := hpend p hp
      rw [hst2] at hm
      exact stays_holds hk p.1 f hm hq4
  · rw [hwant, if_neg (by simp [hw])]
    exact next undef w pend hv hpend fun p hp => by
      obtain ⟨_, _, _, _, _, h5, _⟩ := inv.pds p hp
      exact h5

theorem ready_of {i : Nat} {o : Oper} (hsz : listed.size = ops.size) (ho : ops[i]? = some o) (hu : listed.getD i false = false) (hd : ∀ z ∈ deps o, listed.getD z false = true) : i ∈ Region.ready .any ops listed := by
  have hlt : i < listed.size := by rw [hsz]; exact (Array.getElem?_eq_some_iff.1 ho).1
  refine mem_ready.2 ⟨?_, o, ho, fun e he hb => hd e.on (mem_deps.2 ⟨e, he, hb, rfl⟩)⟩
  simp only [Array.getD_eq_getD_getElem?] at hu ⊢
  simp [hlt] at hu ⊢
  exact hu

theorem some_ready (hsz : listed.size = ops.size) : ∀ {s : List Nat} {M : Masks}, SeenOk T ops bars s M → (∃ j ∈ s, listed.getD j false = false) → ∃ i, i ∈ Region.ready .any ops listed
  | [], _, _, ⟨j, hj, _⟩ => by cases hj
  | i :: s, [], h, _ => h.elim
  | i :: s, (k, m) :: M, ⟨hik, ⟨o, ho, _, hst⟩, hs⟩, ⟨j, hj, hu⟩ => by
    by_cases hex : ∃ j ∈ s, listed.getD j false = false
    · exact some_ready hsz hs hex
    · have hall : ∀ z ∈ s, listed.getD z false = true := fun z hz => by
        cases hz' : listed.getD z false
        · exact absurd ⟨z, hz, hz'⟩ hex
        · rfl
      have hji : j = i := by
        rcases List.mem_cons.1 hj with h | h
        · exact h
        · exact absurd ⟨j, h, hu⟩ hex
      subst hji
      exact ⟨j, ready_of hsz ho hu fun z hz => hall z (stepOk_deps hst z hz)⟩

theorem ready_un {i : Nat} (hr : i ∈ Region.ready .any ops listed) : listed.getD i false = false ∧ i < ops.size := by
  obtain ⟨h0, o, ho, _⟩ := mem_ready.1 hr
  refine ⟨?_, (Array.getElem?_eq_some_iff.1 ho).1⟩
  simp only [Array.getD_eq_getD_getElem?] at h0 ⊢
  cases h : listed[i]? with
  | none => rfl
  | some b => rw [h] at h0; simpa using h0

theorem barOk_elim {sn hd : List Nat} {i : Nat} (h : barOk ops sn hd = true) (hi : i < ops.size) (hs : i ∉ sn) (hr : i ∈ Region.ready .any ops listed) (hl : ∀ j, listed.getD j false = true → j ∈ sn) : i ∈ hd := by
  have := List.all_eq_true.1 h i (List.mem_range.2 hi)
  obtain ⟨_, o, ho, _⟩ := mem_ready.1 hr
  simp only [ho, Bool.or_eq_true] at this
  rcases this with (h1 | h1) | h1
  · exact absurd (by simpa using h1) hs
  · simpa using h1
  · obtain ⟨z, hz, hzs⟩ := List.any_eq_true.1 h1
    have := hl z (ready_deps hr ho z hz)
    simp at hzs
    exact absurd this hzs

theorem regGo_bar {i m : Nat} {r alt : OT} (h : regGo T ops bars (.bar i m r alt) seen M [] = true) : ∃ o, ops[i]? = some o ∧ stepOk T ops bars i o m seen = true ∧ barOk ops seen (heads (.bar i m r alt)) = true := by
  unfold regGo at h
  split at h
  · cases h
  · rename_i o ho
    simp only [Bool.and_eq_true] at h
    have h1 := h.2.1.1.1.2
    rw [List.nil_append] at h1
    exact ⟨o, ho, h.2.1.1.2, h1⟩

theorem reach (hT : TabOk P T) {n i : Nat} (ihn : ∀ seen rest M pd av a w listed', Inv P T ops bars hs K a0 seen rest M pd av a w listed' → listed' = listed.setIfInBounds i true → wpAny P .any ops (RegQ ops a0 K) n listed' a w)
    (hr : i ∈ Region.ready .any ops listed) : ∀ (rest : OT) (seen : List Nat) (M : Masks) (pd : Pd) (av : Act), Inv P T ops bars hs K a0 seen rest M pd av a w listed →
      wpOp P ops (RegQ ops a0 K) i (wpAny P .any ops (RegQ ops a0 K) n (listed.setIfInBounds i true)) a w := by
  obtain ⟨hun, hlt⟩ := ready_un hr
  have fire : ∀ (rest : OT) (seen : List Nat) (M : Masks) (pd : Pd) (av : Act), Inv P T ops bars hs K a0 seen rest M pd av a w listed → i ∈ seen →
      wpOp P ops (RegQ ops a0 K) i (wpAny P .any ops (RegQ ops a0 K) n (listed.setIfInBounds i true)) a w := by
    intro rest seen M pd av inv hi
    have hex : ∃ p ∈ pd, p.1 = i := by
      rcases Classical.em (∃ p ∈ pd, p.1 = i) with h | h
      · exact h
      · have := (inv.lseen i hi).2 fun p hp e => h ⟨p, hp, e⟩
        rw [hun] at this
        cases this
    obtain ⟨⟨j, v, st⟩, hp, rfl⟩ := hex
    exact inv.fire hr hp fun pd' a' listed' inv' hl => ihn _ _ _ _ _ _ _ _ inv' hl
  intro rest
  induction rest with
  | done =>
    intro seen M pd av inv
    have hg := inv.go
    simp only [regGo] at hg
    have := List.all_eq_true.1 hg i (List.mem_range.2 hlt)
    exact fire _ _ _ _ _ inv (by simpa using this)
  | none =>
    intro seen M pd av inv
    have hg := inv.go
    simp [regGo] at hg
  | nop x m r ih =>
    intro seen M pd av inv
    by_cases his : i ∈ seen
    · exact fire _ _ _ _ _ inv his
    · obtain ⟨o, v, st, inv'⟩ := inv.adv hT
      exact ih _ _ _ _ inv'
  | bar x m r alt _ _ =>
    intro seen M pd av inv
    by_cases his : i ∈ seen
    · exact fire _ _ _ _ _ inv his
    · obtain ⟨_, _, _, hbo⟩ := regGo_bar inv.go
      have hih := barOk_elim hbo hlt his hr inv.llt
      exact inv.bar hT hih hr fun seen' r' M' av' a' w' listed' inv' hl => ihn _ _ _ _ _ _ _ _ inv' hl

theorem count_set {i n : Nat} (hi : i < listed.size) (hu : listed.getD i false = false) (hc : listed.toList.count false = n + 1) : (listed.setIfInBounds i true).toList.count false = n := by
  have hlt : i < listed.toList.length := by simpa using hi
  have h1 : listed.toList[i] = false := by
    simp only [Array.getD_eq_getD_getElem?] at hu
    simp [hi] at hu
    simpa using hu
  rw [Array.toList_setIfInBounds, List.count_set hlt, h1, hc]
  simp

theorem all_listed (hc : listed.toList.count false = 0) {j : Nat} (hj : j < listed.size) : listed.getD j false = true := by
  have h0 : false ∉ listed.toList := List.count_eq_zero.1 hc
  simp only [Array.getD_eq_getD_getElem?]
  simp only [hj, Array.getElem?_eq_getElem, Option.getD_some]
  cases h : listed[j] with
  | true => rfl
  | false => exact absurd (by rw [← h]; simp) h0

theorem sim (hT : TabOk P T) : ∀ (n : Nat) seen rest M pd av a w listed, Inv P T ops bars hs K a0 seen rest M pd av a w listed → listed.toList.count false = n → wpAny P .any ops (RegQ ops a0 K) n listed a w := by
  intro n
  induction n with
  | zero =>
    intro seen rest M pd av a w listed inv hlen
    have hall : ∀ j, j < ops.size → listed.getD j false = true := fun j hj => all_listed hlen (by rw [inv.lsize]; exact hj)
    have hpd : pd = [] := by
      cases hpd : pd with
      | nil => rfl
      | cons p r =>
        have hp : p ∈ pd := by rw [hpd]; simp
        obtain ⟨h1, o, ho, _⟩ := inv.pds p hp
        exact absurd rfl ((inv.lseen p.1 h1).1 (hall p.1 (Array.getElem?_eq_some_iff.1 ho).1) p hp)
    subst hpd
    have hdone : rest = .done := by
      cases hrest : rest with
      | done => rfl
      | none => have hg := inv.go; rw [hrest] at hg; simp [regGo] at hg
      | nop x m r =>
        have hg := inv.go; rw [hrest] at hg
        obtain ⟨o, ho, _, _, hst, _⟩ := regGo_nop hg
        exact absurd (inv.llt x (hall x (Array.getElem?_eq_some_iff.1 ho).1)) (stepOk_new hst)
      | bar x m r alt =>
        have hg := inv.go; rw [hrest] at hg
        obtain ⟨o, ho, hst, _⟩ := regGo_bar hg
        exact absurd (inv.llt x (hall x (Array.getElem?_eq_some_iff.1 ho).1)) (stepOk_new hst)
    subst hdone
    refine ⟨?_, inv.off, ?_⟩
    · cases hr : Region.ready .any ops listed with
      | nil => rfl
      | cons i l =>
        have hi : i ∈ Region.ready .any ops listed := by rw [hr]; simp
        obtain ⟨hun, hlt⟩ := ready_un hi
        rw [hall i hlt] at hun
        cases hun
    · obtain ⟨env, pend, hf, hv, _⟩ := inv.can
      refine ⟨env, ⟨inv.agree.1.trans hf.1, inv.agree.2.1.trans hf.2.1, fun i v hi => ?_⟩, hv⟩
      rw [inv.agree.2.2 i (by simp)]
      exact hf.2.2 i v hi
  | succ n ihn =>
    intro seen rest M pd av a w listed inv hlen
    refine ⟨fun hnil => ?_, fun i hi => reach hT (fun seen rest M pd av a w listed' inv' hl => ?_) hi rest seen M pd av inv⟩
    · have hex : ∃ i, i ∈ Region.ready .any ops listed := by
        by_cases hun : ∃ j ∈ seen, listed.getD j false = false
        · exact some_ready inv.lsize inv.seenOk hun
        · have hall : ∀ z ∈ seen, listed.getD z false = true := fun z hz => by
            cases hz' : listed.getD z false
            · exact absurd ⟨z, hz, hz'⟩ hun
            · rfl
          have un : ∀ {x : Nat}, x ∉ seen → listed.getD x false = false := fun {x} hx => by
            cases hq : listed.getD x false
            · rfl
            · exact absurd (inv.llt x hq) hx
          cases hrest : rest with
          | done =>
            exfalso
            have hg := inv.go; rw [hrest] at hg
            simp only [regGo] at hg
            have hmem : false ∈ listed.toList := by
              refine Classical.byContradiction fun hno => ?_
              rw [List.count_eq_zero.2 hno] at hlen
              cases hlen
            obtain ⟨j, hj, hjf⟩ := List.getElem_of_mem hmem
            have hjl : j < listed.size := by simpa using hj
            have hjs : j ∈ seen := by
              have := List.all_eq_true.1 hg j (List.mem_range.2 (by rw [← inv.lsize]; exact hjl))
              simpa using this
            have h1 := hall j hjs
            simp only [Array.getD_eq_getD_getElem?] at h1
            simp [hjl] at h1
            simp at hjf
            rw [h1] at hjf
            cases hjf
          | none => have hg := inv.go; rw [hrest] at hg; simp [regGo] at hg
          | nop x m r =>
            have hg := inv.go; rw [hrest] at hg
            obtain ⟨o, ho, _, _, hst, _⟩ := regGo_nop hg
            exact ⟨x, ready_of inv.lsize ho (un (stepOk_new hst)) fun z hz => hall z (stepOk_deps hst z hz)⟩
          | bar x m r alt =>
            have hg := inv.go; rw [hrest] at hg
            obtain ⟨o, ho, hst, _⟩ := regGo_bar hg
            exact ⟨x, ready_of inv.lsize ho (un (stepOk_new hst)) fun z hz => hall z (stepOk_deps hst z hz)⟩
      obtain ⟨i, hi⟩ := hex
      rw [hnil] at hi
      cases hi
    · obtain ⟨hun, hlt⟩ := ready_un hi
      subst hl
      exact ihn _ _ _ _ _ _ _ _ inv' (count_set (by rw [inv.lsize]; exact hlt) hun hlen)

theorem getD_replicate_false' (m j : Nat) : (Array.replicate m false).getD j false = false := by
  rcases Nat.lt_or_ge j m with h | h
  · simp [h]
  · simp [h]

theorem vcReg_drawn (hT : TabOk P T) {l : OT} {env : Env} (hM : regOk T ops l bars = true)
    (hf : Fits env a) (h : vcT T P ops hs l env w.drew [] [] K) : wpAny P .any ops (RegQ ops a K) ops.size (Array.replicate ops.size false) a { w with drawn := w.drawn + 1 } := by
  have hfalse : ∀ j, (Array.replicate ops.size false).getD j false = false := fun j => getD_replicate_false' ops.size j
  refine sim hT ops.size [] l [] [] a a w.drew _ ⟨trivial, hM, by simp, (by intro j hj; cases hj), (by intro j hj; rw [hfalse] at hj; cases hj), (by intro y o _ hy; simp only [hfalse] at hy; cases hy), by simp, (by intro p hp; cases hp),
    ⟨rfl, rfl, fun _ _ => rfl⟩, .refl _ _, env, [], hf, h, (by intro p hp; cases hp)⟩ (by simp)

end
end Go.Vc
