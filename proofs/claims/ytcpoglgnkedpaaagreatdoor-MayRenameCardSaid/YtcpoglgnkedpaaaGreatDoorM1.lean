/-
  May: the values of an entry.
-/
import Derived.Test.YtcpoglgnkedpaaaGreatDoorVY
import Derived.Test.YtcpoglgnkedpaaaGreatDoorFX
import Derived.Test.YtcpoglgnkedpaaaGreatDoorTS
import Derived.Test.YtcpoglgnkedpaaaGreatDoorFY
import Derived.Laws.Externs
namespace Go.Proofs.YtcpoglgnkedpaaaGreatDoor
open Go Go.Vc Go.Proofs

/-- The last one of some; 0. -/
def lastI (xs : List Int) : Int := xs.getLastD 0

theorem value_spec {w : World} {l : Sl} {xs : List Int} {K : Int → World → Prop} (h : RowAt w 3 1 l (xs.map kInt)) (hl : xs.length ≤ 4611686018427387904) (k : K (lastI xs) w) : may_value_149 l w K := by
  refine may_value_149_of l w K ?_
  have hlen : l.len = xs.length := by simpa using h.len1
  unfold F149
  refine cnd_intro (fun h0 => ?_) (fun h0 => ?_)
  · have : xs = [] := List.eq_nil_of_length_eq_zero (by rw [← hlen]; simpa using h0)
    subst this
    exact k
  · have hne : xs.length ≠ 0 := by rw [← hlen]; simpa using h0
    have e : w64 ((l.len : Int) - 1) = ((xs.length - 1 : Nat) : Int) := by
      rw [w64_id (by omega) (by omega), hlen]; omega
    rw [e]
    refine ⟨by omega, by rw [hlen]; omega, ldP_row (lastI xs) h ?_ k⟩
    rw [Int.toNat_natCast, List.getElem?_map, lastI, List.getLastD_eq_getLast?, List.getLast?_eq_getElem?]
    have hlt : xs.length - 1 < xs.length := by omega
    simp [hlt, kInt, Leaf.mk]

end Go.Proofs.YtcpoglgnkedpaaaGreatDoor

/-
  The tree: what its blocks hold.
-/
namespace Go.Proofs.YtcpoglgnkedpaaaGreatDoor
open Go Go.Vc Go.Proofs

abbrev Str := ByteArray
abbrev iT : Ty := .one (.int .i64)
abbrev sT : Ty := .one .str
abbrev pT : Ty := .one .ptr
def kB (x : Int) : Value := .int .u8 x
def kBool (b : Bool) : Value := .bool b

theorem keyI : KeyT Tryz.prog 3 iT.mk := KeyT.int (by kernel_rfl)
theorem keyS : KeyT Tryz.prog 9 sT.mk := KeyT.str (by kernel_rfl)
theorem und65 : Tryz.prog.underlying 65 = some (.map 3 3) := by kernel_rfl
theorem und66 : Tryz.prog.underlying 66 = some (.map 9 3) := by kernel_rfl
theorem und127 : Tryz.prog.underlying 127 = some (.map 3 124) := by kernel_rfl

theorem MapO.int1 {α : Type} [DecidableEq α] {kf : α → Value} {t kt : TypeId} {w : World} {m : Option Nat} {l : List (α × Int)} (K : KeyT Tryz.prog kt kf) (ht : Tryz.prog.underlying t = some (.map kt 3)) (h : MapO kf iT.mk w m l) (a : α) :
    (Instr.lookup t (.map m) (kf a) false).run Tryz.prog w = .ok (Tup.res [iT] ((aget l a).getD 0)) w := by
  rw [h.look1 K ht a (run_zero ti3_ok w)]
  cases aget l a <;> rfl

theorem MapO.int2 {α : Type} [DecidableEq α] {kf : α → Value} {t kt : TypeId} {w : World} {m : Option Nat} {l : List (α × Int)} (K : KeyT Tryz.prog kt kf) (ht : Tryz.prog.underlying t = some (.map kt 3)) (h : MapO kf iT.mk w m l) (a : α) :
    (Instr.lookup t (.map m) (kf a) true).run Tryz.prog w = .ok (Tup.res [iT, .one .bool] ((aget l a).getD 0, (aget l a).isSome)) w := by
  rw [h.look2 K ht a (run_zero ti3_ok w)]
  cases aget l a <;> rfl

/-- A node of a tree. -/
structure NodeV where
  kind : Int
  data : List Int
  written : List Bool
  names : List (Str × Int)
  most : Int
  links : Int
  above : Int

/-- A descriptor: its node, where it stands, its flags; whether it is open. -/
abbrev SlotV := Int × Int × Int × Bool

structure TreeV where
  nodes : List (Int × NodeV)
  last : Int
  fds : List SlotV

/-- What a block is for. -/
inductive TTag where
  | top | map | fds | node (n : Int) | data (n : Int) | writ (n : Int) | names (n : Int)
  deriving DecidableEq

def TTag.num : TTag → Option Int
  | .node n | .data n | .writ n | .names n => some n
  | _ => none

abbrev Owner := Nat → Option TTag

def slotCells (s : SlotV) : List Value := [.int .i64 s.1, .int .i64 s.2.1, .int .i64 s.2.2.1, .bool s.2.2.2]
def fdCells (l : List SlotV) : List Value := l.flatMap slotCells

structure NodeAt (w : World) (own : Owner) (n : Int) (nb : Nat) (ds ws : Sl) (m : Option Nat) (v : NodeV) : Prop where
  cells : At w nb (.cells #[.int .i64 v.kind, ds.v, ws.v, .map m, .int .i64 v.most, .int .i64 v.links, .int .i64 v.above] 126 (0, 0))
  o : own nb = some (.node n)
  row : RowAt w 5 1 ds (v.data.map kB)
  rowO : ∀ b, ds.blk = some b → own b = some (.data n)
  wrow : RowAt w 4 1 ws (v.written.map kBool)
  wrowO : ∀ b, ws.blk = some b → own b = some (.writ n)
  nm : MapO sT.mk iT.mk w m v.names
  nmO : ∀ b, m = some b → own b = some (.names n)
  dir : v.kind = 2 → ∃ b, m = some b
  dl : v.data.length ≤ 1000000 ∧ v.written.length ≤ 1000000

structure TreeX where
  mb : Nat
  fb : Nat
  lp : List (Int × Option Addr)

structure TreeAt (w : World) (own : Owner) (tb : Nat) (X : TreeX) (T : TreeV) : Prop where
  lt : ∀ b t, own b = some t → b < w.heap.size
  top : At w tb (.cells #[.map (some X.mb), .int .i64 T.last, .pointer (some ⟨X.fb, 0, none⟩)] 131 (0, 0))
  topO : own tb = some .top
  map : MapAt iT.mk pT.mk w X.mb X.lp
  mapO : own X.mb = some .map
  fds : At w X.fb (.cells (fdCells T.fds).toArray 145 (0, 0))
  fdsO : own X.fb = some .fds
  fdsL : T.fds.length = 16
  nd : (T.nodes.map (·.1)).Nodup
  non : ∀ k, aget T.nodes k = none → aget X.lp k = none
  som : ∀ k v, aget T.nodes k = some v → ∃ nb ds ws m, aget X.lp k = some (some ⟨nb, 0, none⟩) ∧ NodeAt w own k nb ds ws m v

section
variable {w w' : World} {own own' : Owner} {n : Int} {nb tb : Nat} {ds ws : Sl} {m : Option Nat} {v v' : NodeV} {X : TreeX} {T : TreeV} {S : Nat → Prop}

theorem NodeAt.kept (h : NodeAt w own n nb ds ws m v) (hE : Eff S w w') (ho : ∀ b, b < w.heap.size → own' b = own b) (hd : ∀ b t, own b = some t → t.num = some n → ¬ S b) : NodeAt w' own' n nb ds ws m v where
  cells := hE.at h.cells (hd _ _ h.o rfl)
  o := (ho _ h.cells.lt).trans h.o
  row := h.row.kept hE fun b hb => hd _ _ (h.rowO b hb) rfl
  rowO b hb := (ho _ (h.row.lt hb)).trans (h.rowO b hb)
  wrow := h.wrow.kept hE fun b hb => hd _ _ (h.wrowO b hb) rfl
  wrowO b hb := (ho _ (h.wrow.lt hb)).trans (h.wrowO b hb)
  nm := h.nm.kept hE fun b hb => hd _ _ (h.nmO b hb) rfl
  nmO b hb := (ho _ (h.nm.lt hb)).trans (h.nmO b hb)
  dir := h.dir
  dl := h.dl

theorem TreeAt.keptO (h : TreeAt w own tb X T) (hE : Eff S w w') (ho : ∀ b, b < w.heap.size → own' b = own b) (hlt : ∀ b t, own' b = some t → b < w'.heap.size) (hd : ∀ b t, own b = some t → ¬ S b) : TreeAt w' own' tb X T where
  lt := hlt
  top := hE.at h.top (hd _ _ h.topO)
  topO := (ho _ h.top.lt).trans h.topO
  map := h.map.kept hE (hd _ _ h.mapO)
  mapO := (ho _ h.map.lt).trans h.mapO
  fds := hE.at h.fds (hd _ _ h.fdsO)
  fdsO := (ho _ h.fds.lt).trans h.fdsO
  fdsL := h.fdsL
  nd := h.nd
  non := h.non
  som k v hv := by
    obtain ⟨nb, ds, ws, m, h1, h2⟩ := h.som k v hv
    exact ⟨nb, ds, ws, m, h1, h2.kept hE ho fun b t hb _ => hd b t hb⟩

theorem TreeAt.kept (h : TreeAt w own tb X T) (hE : Eff S w w') (hd : ∀ b t, own b = some t → ¬ S b) : TreeAt w' own tb X T :=
  h.keptO hE (fun _ _ => rfl) (fun b t hb => Nat.lt_of_lt_of_le (h.lt b t hb) hE.size) hd

theorem TreeAt.kept0 (h : TreeAt w own tb X T) (hE : Eff No w w') : TreeAt w' own tb X T := h.kept hE fun _ _ _ h => h

/-- A node is changed. -/
theorem TreeAt.setNode (h : TreeAt w own tb X T) (hl : aget X.lp n = some (some ⟨nb, 0, none⟩)) (hE : Eff S w w') (hS : ∀ b t, own b = some t → S b → t.num = some n)
    (ho : ∀ b, b < w.heap.size → own' b = own b) (hlt : ∀ b t, own' b = some t → b < w'.heap.size) (hv : NodeAt w' own' n nb ds ws m v') : TreeAt w' own' tb X { T with nodes := aset T.nodes n v' } where
  lt := hlt
  top := hE.at h.top fun hs => by have := hS _ _ h.topO hs; cases this
  topO := (ho _ h.top.lt).trans h.topO
  map := h.map.kept hE fun hs => by have := hS _ _ h.mapO hs; cases this
  mapO := (ho _ h.map.lt).trans h.mapO
  fds := hE.at h.fds fun hs => by have := hS _ _ h.fdsO hs; cases this
  fdsO := (ho _ h.fds.lt).trans h.fdsO
  fdsL := h.fdsL
  nd := nodup_aset h.nd _ _
  non k hk := by
    rw [aget_aset] at hk
    split at hk
    · cases hk
    · exact h.non k hk
  som k v1 hv1 := by
    rw [aget_aset] at hv1
    split at hv1
    · rename_i e
      subst e
      cases hv1
      exact ⟨nb, ds, ws, m, hl, hv⟩
    · rename_i e
      obtain ⟨nb1, ds1, ws1, m1, h1, h2⟩ := h.som k v1 hv1
      exact ⟨nb1, ds1, ws1, m1, h1, h2.kept hE ho fun b t hb hk hs => e (Option.some.inj (hk.symm.trans (hS b t hb hs)))⟩

/-- The map of nodes is changed: a node is there, or is not. -/
theorem TreeAt.setMap {lp' : List (Int × Option Addr)} {o' : Option NodeV} (h : TreeAt w own tb X T) (hE : Eff S w w') (hS : ∀ b t, own b = some t → S b → t = .map) (hm : MapAt iT.mk pT.mk w' X.mb lp')
    (ho : ∀ b, b < w.heap.size → own' b = own b) (hlt : ∀ b t, own' b = some t → b < w'.heap.size) {nodes' : List (Int × NodeV)} (hnd : (nodes'.map (·.1)).Nodup)
    (hl : ∀ k, k ≠ n → aget lp' k = aget X.lp k) (hn : ∀ k, aget nodes' k = if k = n then o' else aget T.nodes k)
    (hv : (o' = none ∧ aget lp' n = none) ∨ ∃ v' nb ds ws m, o' = some v' ∧ aget lp' n = some (some ⟨nb, 0, none⟩) ∧ NodeAt w' own' n nb ds ws m v') : TreeAt w' own' tb { X with lp := lp' } { T with nodes := nodes' } where
  lt := hlt
  top := hE.at h.top fun hs => by have := hS _ _ h.topO hs; cases this
  topO := (ho _ h.top.lt).trans h.topO
  map := hm
  mapO := (ho _ h.map.lt).trans h.mapO
  fds := hE.at h.fds fun hs => by have := hS _ _ h.fdsO hs; cases this
  fdsO := (ho _ h.fds.lt).trans h.fdsO
  fdsL := h.fdsL
  nd := hnd
  non k hk := by
    rw [hn] at hk
    show aget lp' k = none
    split at hk
    · rename_i e
      subst e
      rcases hv with ⟨_, h2⟩ | ⟨v', nb, ds, ws, m, h1, _⟩
      · exact h2
      · rw [hk] at h1; cases h1
    · rename_i e
      rw [hl k e]
      exact h.non k hk
  som k v1 hv1 := by
    rw [hn] at hv1
    show ∃ nb ds ws m, aget lp' k = _ ∧ _
    split at hv1
    · rename_i e
      subst e
      rcases hv with ⟨h1, _⟩ | ⟨v', nb, ds, ws, m, h1, h2, h3⟩
      · rw [h1] at hv1; cases hv1
      · rw [h1] at hv1; cases hv1
        exact ⟨nb, ds, ws, m, h2, h3⟩
    · rename_i e
      obtain ⟨nb1, ds1, ws1, m1, h1, h2⟩ := h.som k v1 hv1
      refine ⟨nb1, ds1, ws1, m1, (hl k e).trans h1, h2.kept hE ho fun b t hb hk hs => ?_⟩
      have := hS b t hb hs
      subst this
      cases hk

/-- The tree's own cells, and its descriptors, are changed. -/
theorem TreeAt.setTop {last' : Int} (h : TreeAt w own tb X T) (hE : Eff (fun b => b = tb) w w') (ht : At w' tb (.cells #[.map (some X.mb), .int .i64 last', .pointer (some ⟨X.fb, 0, none⟩)] 131 (0, 0))) : TreeAt w' own tb X { T with last := last' } where
  lt b t hb := Nat.lt_of_lt_of_le (h.lt b t hb) hE.size
  top := ht
  topO := h.topO
  map := h.map.kept hE fun e => by have := h.mapO; rw [e, h.topO] at this; cases this
  mapO := h.mapO
  fds := hE.at h.fds fun e => by have := h.fdsO; rw [e, h.topO] at this; cases this
  fdsO := h.fdsO
  fdsL := h.fdsL
  nd := h.nd
  non := h.non
  som k v hv := by
    obtain ⟨nb, ds, ws, m, h1, h2⟩ := h.som k v hv
    refine ⟨nb, ds, ws, m, h1, h2.kept hE (fun _ _ => rfl) fun b t hb hk e => ?_⟩
    rw [e, h.topO] at hb
    cases hb
    cases hk

theorem TreeAt.setFds {fds' : List SlotV} (h : TreeAt w own tb X T) (hE : Eff (fun b => b = X.fb) w w') (ht : At w' X.fb (.cells (fdCells fds').toArray 145 (0, 0))) (hL : fds'.length = 16) : TreeAt w' own tb X { T with fds := fds' } where
  lt b t hb := Nat.lt_of_lt_of_le (h.lt b t hb) hE.size
  top := hE.at h.top fun e => by have := h.topO; rw [e, h.fdsO] at this; cases this
  topO := h.topO
  map := h.map.kept hE fun e => by have := h.mapO; rw [e, h.fdsO] at this; cases this
  mapO := h.mapO
  fds := ht
  fdsO := h.fdsO
  fdsL := hL
  nd := h.nd
  non := h.non
  som k v hv := by
    obtain ⟨nb, ds, ws, m, h1, h2⟩ := h.som k v hv
    refine ⟨nb, ds, ws, m, h1, h2.kept hE (fun _ _ => rfl) fun b t hb hk e => ?_⟩
    rw [e, h.fdsO] at hb
    cases hb
    cases hk

theorem TreeAt.perm {nodes' : List (Int × NodeV)} (h : TreeAt w own tb X T) (hp : ∀ k, aget nodes' k = aget T.nodes k) (hn : (nodes'.map (·.1)).Nodup) : TreeAt w own tb X { T with nodes := nodes' } where
  lt := h.lt
  top := h.top
  topO := h.topO
  map := h.map
  mapO := h.mapO
  fds := h.fds
  fdsO := h.fdsO
  fdsL := h.fdsL
  nd := hn
  non k hk := h.non k ((hp k).symm.trans hk)
  som k v hv := h.som k v ((hp k).symm.trans hv)

/-- A node is looked up. -/
theorem TreeAt.look (h : TreeAt w own tb X T) {k : Int} (hv : aget T.nodes k = some v) :
    ∃ nb ds ws m, (Instr.lookup 127 (.map (some X.mb)) (.int .i64 k) false).run Tryz.prog w = .ok (Tup.res [.one .ptr] (some ⟨nb, 0, none⟩)) w ∧ NodeAt w own k nb ds ws m v ∧ aget X.lp k = some (some ⟨nb, 0, none⟩) := by
  obtain ⟨nb, ds, ws, m, h1, h2⟩ := h.som k v hv
  refine ⟨nb, ds, ws, m, ?_, h2, h1⟩
  have := lookup1 keyI und127 h.map k (.pointer none) (run_zero ti124_ok w)
  rw [h1] at this
  exact this

theorem TreeAt.lookNone (h : TreeAt w own tb X T) {k : Int} (hv : aget T.nodes k = none) :
    (Instr.lookup 127 (.map (some X.mb)) (.int .i64 k) false).run Tryz.prog w = .ok (Tup.res [.one .ptr] none) w := by
  have := lookup1 keyI und127 h.map k (.pointer none) (run_zero ti124_ok w)
  rw [h.non k hv] at this
  exact this

end
end Go.Proofs.YtcpoglgnkedpaaaGreatDoor

/-
  A history: what its blocks hold.
-/
namespace Go.Proofs.YtcpoglgnkedpaaaGreatDoor
open Go Go.Vc Go.Proofs

abbrev Ent := Int × ByteArray
abbrev kE : Ty := .agg [.int .i64, .str]
abbrev vS : Ty := .one .slice
abbrev mT : Ty := .agg [.bool, .bool, .bool]

/-- Is that type a struct of an int and a string? -/
def isPair (P : Program) (k : TypeId) : Bool :=
  match P.underlying k with
  | some (.struct fs) => (match fs.toList with
    | [f1, f2] => !(f1.name == "_") && !(f2.name == "_") && Nat.beq f1.offset 0 && Nat.beq f2.offset 1 &&
      (match P.underlying f1.type with | some (.int .i64) => true | _ => false) && (match P.underlying f2.type with | some .string => true | _ => false) && !(P.stoodInHeld k)
    | _ => false)
  | _ => false

theorem keyT_pair {P : Program} {k : TypeId} (h : isPair P k = true) : KeyT P k kE.mk := by
  unfold isPair at h
  split at h
  · rename_i fs hk
    split at h
    · rename_i f1 f2 hfs
      simp only [Bool.and_eq_true, Bool.not_eq_true'] at h
      obtain ⟨⟨⟨⟨⟨⟨n1, n2⟩, o1⟩, o2⟩, u1⟩, u2⟩, hs⟩ := h
      have efs : fs = #[f1, f2] := by rw [← Array.toArray_toList (xs := fs), hfs]
      refine KeyT.pair (hk.trans (by rw [efs])) ?_ ?_ n1 n2 (Nat.eq_of_beq_eq_true o1) (Nat.eq_of_beq_eq_true o2) hs
      · split at u1
        · assumption
        · cases u1
      · split at u2
        · assumption
        · cases u2
    · cases h
  · cases h

theorem keyE : KeyT Tryz.prog 77 kE.mk := keyT_pair (by kernel_rfl)
theorem und70 : Tryz.prog.underlying 70 = some (.map 3 132) := by kernel_rfl
theorem und71 : Tryz.prog.underlying 71 = some (.map 3 82) := by kernel_rfl
theorem und72 : Tryz.prog.underlying 72 = some (.map 77 53) := by kernel_rfl
theorem und73 : Tryz.prog.underlying 73 = some (.map 3 77) := by kernel_rfl
theorem und133 : Tryz.prog.underlying 133 = some (.map 3 194) := by kernel_rfl
theorem und158 : Tryz.prog.underlying 158 = some (.map 77 3) := by kernel_rfl

/-- What is kept of a file. -/
structure FileV where
  kind : Int
  target : Str
  sizes : List Int
  blocks : List (Int × List (List Int))

abbrev Mark := Bool × Bool × Bool

structure HistV where
  numbers : List (Int × Int)
  files : List (Int × FileV)
  marks : List (Int × Mark)
  entries : List (Ent × List Int)
  opened : List (Int × Ent)

/-- What a block of a history is for. -/
inductive HTag where
  | top | numbers | files | marks | entries | opened | file (n : Int) | sizes (n : Int) | blocks (n : Int) | brow (n k : Int) | bytes | erow (e : Ent)
  deriving DecidableEq

abbrev HOwner := Nat → Option HTag

/-- A map, over which somebody iterates perhaps. -/
def MapI (kty vty : Ty) (it : Option (Nat × List kty.C)) (w : World) (b : Nat) (l : List (kty.C × vty.C)) : Prop :=
  match it with
  | none => MapAt kty.mk vty.mk w b l
  | some (r, seen) => IterAt kty vty w r b l seen

section
variable {kty vty : Ty} {it : Option (Nat × List kty.C)} {w w' : World} {b : Nat} {l : List (kty.C × vty.C)} {S : Nat → Prop}

theorem MapI.map (h : MapI kty vty it w b l) : MapAt kty.mk vty.mk w b l := by
  cases it with
  | none => exact h
  | some p => exact IterAt.map h

theorem MapI.kept (h : MapI kty vty it w b l) (e : Eff S w w') (hb : ¬ S b) (hr : ∀ p, it = some p → ¬ S p.1) : MapI kty vty it w' b l := by
  cases it with
  | none => exact MapAt.kept h e hb
  | some p => exact IterAt.kept h e (hr p rfl) hb

theorem MapI.itlt {p : Nat × List kty.C} (h : MapI kty vty it w b l) (hp : it = some p) : p.1 < w.heap.size := by
  subst hp
  exact (IterAt.lt h).1

theorem MapI.lt (h : MapI kty vty it w b l) : b < w.heap.size := h.map.lt

/-- A value is written: of any key, if nobody iterates; of one that is there. -/
theorem MapI.put {P : Program} [DecidableEq kty.C] {t kt et : TypeId} (K : KeyT P kt kty.mk) (ht : P.underlying t = some (.map kt et)) (h : MapI kty vty it w b l) (a : kty.C) (v : vty.C) (ha : it = none ∨ a ∈ l.map (·.1)) :
    ∃ w', (Instr.mapUpdate t (.map (some b)) (kty.mk a) (vty.mk v)).run P w = .ok () w' ∧ MapI kty vty it w' b (aset l a v) ∧ Eff (fun x => x = b) w w' := by
  cases it with
  | none => exact update K ht h a v
  | some p => exact IterAt.update K ht h a v (ha.resolve_left (by simp))

end

/-! ### the parts of a history -/

/-- The rows of the entries. -/
structure EntC (w : World) (own : HOwner) (it : Option (Nat × List Ent)) (eb : Nat) (le : List (Ent × Sl)) (E : List (Ent × List Int)) : Prop where
  o : own eb = some .entries
  map : MapI kE vS it w eb le
  nd : (E.map (·.1)).Nodup
  non : ∀ k, aget E k = none → aget le k = none
  som : ∀ k xs, aget E k = some xs → ∃ s, aget le k = some s ∧ RowAt w 3 1 s (xs.map kInt) ∧ xs ≠ [] ∧ xs.length ≤ 1000000 ∧ ∃ c, s.blk = some c ∧ own c = some (.erow k)

/-- A file. -/
structure FileAt (w : World) (own : HOwner) (n : Int) (fb : Nat) (ss : Sl) (bb : Nat) (lb : List (Int × Sl)) (f : FileV) : Prop where
  cells : At w fb (.cells #[.int .i64 f.kind, .string f.target, ss.v, .map (some bb)] 135 (0, 0))
  o : own fb = some (.file n)
  row : RowAt w 3 1 ss (f.sizes.map kInt)
  rowO : ∃ c, ss.blk = some c ∧ own c = some (.sizes n)
  ne : f.sizes ≠ [] ∧ f.sizes.length ≤ 1000000
  map : MapAt iT.mk vS.mk w bb lb
  mapO : own bb = some (.blocks n)
  nd : (f.blocks.map (·.1)).Nodup
  non : ∀ k, aget f.blocks k = none → aget lb k = none
  som : ∀ k xs, aget f.blocks k = some xs → ∃ (s : Sl) (is : List Sl), aget lb k = some s ∧ RowAt w 22 1 s (is.map Sl.v) ∧ xs ≠ [] ∧ xs.length ≤ 1000000 ∧ (∃ c, s.blk = some c ∧ own c = some (.brow n k)) ∧
    is.length = xs.length ∧ ∀ (i : Nat) (s' : Sl) (bs : List Int), is[i]? = some s' → xs[i]? = some bs → RowAt w 5 1 s' (bs.map kB) ∧ bs.length = 128 ∧ ∃ c, s'.blk = some c ∧ own c = some .bytes

structure FilC (w : World) (own : HOwner) (fb : Nat) (lf : List (Int × Option Addr)) (F : List (Int × FileV)) : Prop where
  o : own fb = some .files
  map : MapAt iT.mk pT.mk w fb lf
  nd : (F.map (·.1)).Nodup
  non : ∀ k, aget F k = none → aget lf k = none
  som : ∀ k f, aget F k = some f → ∃ b ss bb lb, aget lf k = some (some ⟨b, 0, none⟩) ∧ FileAt w own k b ss bb lb f

structure MarC (w : World) (own : HOwner) (it : Option (Nat × List Int)) (mb : Nat) (lm : List (Int × Mark)) (M : List (Int × Mark)) : Prop where
  o : own mb = some .marks
  map : MapI iT mT it w mb lm
  nd : (M.map (·.1)).Nodup
  eq : ∀ k, aget lm k = aget M k

structure HistX where
  nb : Nat
  fb : Nat
  mb : Nat
  eb : Nat
  ob : Nat

/-- Who iterates. -/
structure Its where
  e : Option (Nat × List Ent) := none
  m : Option (Nat × List Int) := none

structure HistAt (w : World) (own : HOwner) (it : Its) (hb : Nat) (tp : Option Addr) (X : HistX) (le : List (Ent × Sl)) (lf : List (Int × Option Addr)) (lm : List (Int × Mark)) (H : HistV) : Prop where
  lt : ∀ b t, own b = some t → b < w.heap.size
  top : At w hb (.cells #[.pointer tp, .map (some X.nb), .map (some X.fb), .map (some X.mb), .map (some X.eb), .map (some X.ob)] 75 (0, 0))
  topO : own hb = some .top
  num : MapF iT.mk iT.mk w X.nb H.numbers
  numO : own X.nb = some .numbers
  fil : FilC w own X.fb lf H.files
  mar : MarC w own it.m X.mb lm H.marks
  ent : EntC w own it.e X.eb le H.entries
  ope : MapF iT.mk kE.mk w X.ob H.opened
  opeO : own X.ob = some .opened
  itE : ∀ p, it.e = some p → own p.1 = none
  itM : ∀ p, it.m = some p → own p.1 = none

section
variable {w w' : World} {own own' : HOwner} {S : Nat → Prop}

def HTag.isEnt : HTag → Bool
  | .entries | .erow _ => true
  | _ => false
def HTag.isFil : HTag → Bool
  | .files | .file _ | .sizes _ | .blocks _ | .brow _ _ | .bytes => true
  | _ => false
def HTag.ofFile (n : Int) : HTag → Bool
  | .file k | .sizes k | .blocks k | .brow k _ => k == n
  | .bytes => true
  | _ => false

theorem EntC.kept {it : Option (Nat × List Ent)} {eb : Nat} {le : List (Ent × Sl)} {E : List (Ent × List Int)} (h : EntC w own it eb le E) (hE : Eff S w w') (ho : ∀ b, b < w.heap.size → own' b = own b)
    (hd : ∀ b t, own b = some t → t.isEnt = true → ¬ S b) (hr : ∀ p, it = some p → ¬ S p.1) : EntC w' own' it eb le E where
  o := (ho _ h.map.lt).trans h.o
  map := h.map.kept hE (hd _ _ h.o rfl) hr
  nd := h.nd
  non := h.non
  som k xs hk := by
    obtain ⟨s, h1, h2, h3, h4, c, h5, h6⟩ := h.som k xs hk
    exact ⟨s, h1, h2.kept hE fun b hb => by rw [h5] at hb; cases hb; exact hd _ _ h6 rfl, h3, h4, c, h5, (ho _ (h2.lt h5)).trans h6⟩

theorem FileAt.kept {n : Int} {fb : Nat} {ss : Sl} {bb : Nat} {lb : List (Int × Sl)} {f : FileV} (h : FileAt w own n fb ss bb lb f) (hE : Eff S w w') (ho : ∀ b, b < w.heap.size → own' b = own b)
    (hd : ∀ b t, own b = some t → t.ofFile n = true → ¬ S b) : FileAt w' own' n fb ss bb lb f where
  cells := hE.at h.cells (hd _ _ h.o (by simp [HTag.ofFile]))
  o := (ho _ h.cells.lt).trans h.o
  row := h.row.kept hE fun b hb => by
    obtain ⟨c, h5, h6⟩ := h.rowO
    rw [h5] at hb; cases hb; exact hd _ _ h6 (by simp [HTag.ofFile])
  rowO := by
    obtain ⟨c, h5, h6⟩ := h.rowO
    exact ⟨c, h5, (ho _ (h.row.lt h5)).trans h6⟩
  ne := h.ne
  map := h.map.kept hE (hd _ _ h.mapO (by simp [HTag.ofFile]))
  mapO := (ho _ h.map.lt).trans h.mapO
  nd := h.nd
  non := h.non
  som k xs hk := by
    obtain ⟨s, is, h1, h2, h3, h4, ⟨c, h5, h6⟩, h7, h8⟩ := h.som k xs hk
    refine ⟨s, is, h1, h2.kept hE fun b hb => by rw [h5] at hb; cases hb; exact hd _ _ h6 (by simp [HTag.ofFile]), h3, h4, ⟨c, h5, (ho _ (h2.lt h5)).trans h6⟩, h7, fun i s' bs hi hx => ?_⟩
    obtain ⟨q1, q2, c', q3, q4⟩ := h8 i s' bs hi hx
    exact ⟨q1.kept hE fun b hb => by rw [q3] at hb; cases hb; exact hd _ _ q4 rfl, q2, c', q3, (ho _ (q1.lt q3)).trans q4⟩

theorem FilC.kept {fb : Nat} {lf : List (Int × Option Addr)} {F : List (Int × FileV)} (h : FilC w own fb lf F) (hE : Eff S w w') (ho : ∀ b, b < w.heap.size → own' b = own b)
    (hd : ∀ b t, own b = some t → t.isFil = true → ¬ S b) : FilC w' own' fb lf F where
  o := (ho _ h.map.lt).trans h.o
  map := h.map.kept hE (hd _ _ h.o rfl)
  nd := h.nd
  non := h.non
  som k f hk := by
    obtain ⟨b, ss, bb, lb, h1, h2⟩ := h.som k f hk
    exact ⟨b, ss, bb, lb, h1, h2.kept hE ho fun c t hc ht => hd c t hc (by cases t <;> simp_all [HTag.ofFile, HTag.isFil])⟩

theorem MarC.kept {it : Option (Nat × List Int)} {mb : Nat} {lm M : List (Int × Mark)} (h : MarC w own it mb lm M) (hE : Eff S w w') (ho : ∀ b, b < w.heap.size → own' b = own b) (hd : ∀ b, own b = some .marks → ¬ S b) (hr : ∀ p, it = some p → ¬ S p.1) : MarC w' own' it mb lm M where
  o := (ho _ h.map.lt).trans h.o
  map := h.map.kept hE (hd _ h.o) hr
  nd := h.nd
  eq := h.eq

variable {it : Its} {hb : Nat} {tp : Option Addr} {X : HistX} {le : List (Ent × Sl)} {lf : List (Int × Option Addr)} {lm : List (Int × Mark)} {H : HistV}

theorem HistAt.kept (h : HistAt w own it hb tp X le lf lm H) (hE : Eff S w w') (hd : ∀ b t, own b = some t → ¬ S b) (hr1 : ∀ p, it.e = some p → ¬ S p.1) (hr2 : ∀ p, it.m = some p → ¬ S p.1) : HistAt w' own it hb tp X le lf lm H where
  lt b t hb := Nat.lt_of_lt_of_le (h.lt b t hb) hE.size
  top := hE.at h.top (hd _ _ h.topO)
  topO := h.topO
  num := h.num.kept hE (hd _ _ h.numO)
  numO := h.numO
  fil := h.fil.kept hE (fun _ _ => rfl) fun b t hb _ => hd b t hb
  mar := h.mar.kept hE (fun _ _ => rfl) (fun b hb => hd b _ hb) hr2
  ent := h.ent.kept hE (fun _ _ => rfl) (fun b t hb _ => hd b t hb) hr1
  ope := h.ope.kept hE (hd _ _ h.opeO)
  opeO := h.opeO
  itE := h.itE
  itM := h.itM

theorem HistAt.kept0 (h : HistAt w own it hb tp X le lf lm H) (hE : Eff No w w') : HistAt w' own it hb tp X le lf lm H := h.kept hE (fun _ _ _ h => h) (fun _ _ h => h) (fun _ _ h => h)

end
end Go.Proofs.YtcpoglgnkedpaaaGreatDoor

/-
  The entries and the marks of a history: what is read, what is written.
-/
namespace Go.Proofs.YtcpoglgnkedpaaaGreatDoor
open Go Go.Vc Go.Proofs

def lastE (E : List (Ent × List Int)) (e : Ent) : Int := lastI ((aget E e).getD [])
def setL (l : List Int) (n : Int) : List Int := if lastI l = n then l else l ++ [n]
/-- How many entries have a node. -/
def linksE (E : List (Ent × List Int)) (n : Int) : Int := w64 ((E.countP fun p => lastI p.2 == n : Nat) : Int)

section
variable {w w1 w' : World} {own own' : HOwner} {it : Its} {hb : Nat} {tp : Option Addr} {X : HistX} {le : List (Ent × Sl)} {lf : List (Int × Option Addr)} {lm : List (Int × Mark)} {H : HistV} {S : Nat → Prop}

theorem EntC.get {ie : Option (Nat × List Ent)} {eb : Nat} {E : List (Ent × List Int)} (h : EntC w own ie eb le E) (e : Ent) :
    ∃ s : Sl, (Instr.lookup 72 (.map (some eb)) (kE.mk e) false).run Tryz.prog w = .ok (Tup.res [vS] s) w ∧ (Instr.lookup 72 (.map (some eb)) (kE.mk e) true).run Tryz.prog w = .ok (Tup.res [vS, .one .bool] (s, (aget E e).isSome)) w ∧
      RowAt w 3 1 s (((aget E e).getD []).map kInt) ∧ ((aget E e).getD []).length ≤ 1000000 ∧ (∀ xs, aget E e = some xs → ∃ c, s.blk = some c ∧ own c = some (.erow e)) := by
  have hz := run_zero ti53_ok w
  have l1 := lookup1 keyE und72 h.map.map e _ hz
  have l2 := lookup2 keyE und72 h.map.map e _ hz
  cases hE : aget E e with
  | none =>
    rw [h.non e hE] at l1 l2
    exact ⟨⟨none, 0, 0⟩, l1, l2, RowAt.nil, by simp, fun _ h => by cases h⟩
  | some xs =>
    obtain ⟨s, q0, q1, q2, q3, q4⟩ := h.som e xs hE
    rw [q0] at l1 l2
    exact ⟨s, l1, l2, q1, q3, fun xs' _ => q4⟩

theorem EntC.keys_perm {ie : Option (Nat × List Ent)} {eb : Nat} {E : List (Ent × List Int)} (h : EntC w own ie eb le E) : (le.map (·.1)).Perm (E.map (·.1)) := by
  refine perm_of_nodup (h.map.map.nodup keyE) h.nd fun k => ⟨fun hk => ?_, fun hk => ?_⟩
  · obtain ⟨s, hs⟩ := aget_key hk
    cases hE : aget E k with
    | none => rw [h.non k hE] at hs; cases hs
    | some xs => exact key_of_aget hE
  · obtain ⟨xs, hx⟩ := aget_key hk
    obtain ⟨s, hs, _⟩ := h.som k xs hx
    exact key_of_aget hs

/-- The entries' rows, one written anew. -/
theorem HistAt.putEntry (h : HistAt w own it hb tp X le lf lm H) {e : Ent} (hE : Eff (fun b => own b = some (.erow e)) w w1) (he : it.e = none ∨ e ∈ H.entries.map (·.1))
    {s : Sl} {xs : List Int} (hr : RowAt w1 3 1 s (xs.map kInt)) (hx : xs ≠ []) (hl : xs.length ≤ 1000000) (hs : ∃ c, s.blk = some c ∧ (own c = some (.erow e) ∨ w.heap.size ≤ c)) :
    ∃ w2 own' le', (Instr.mapUpdate 72 (.map (some X.eb)) (kE.mk e) (vS.mk s)).run Tryz.prog w1 = .ok () w2 ∧ Eff (fun b => own b = some .entries ∨ own b = some (.erow e)) w w2 ∧ (∀ b, b < w.heap.size → own' b = own b) ∧
      (e ∈ le.map (·.1) → le'.map (·.1) = le.map (·.1)) ∧ HistAt w2 own' it hb tp X le' lf lm { H with entries := aset H.entries e xs } := by
  obtain ⟨c, hc, hc'⟩ := hs
  have hek : it.e = none ∨ e ∈ le.map (·.1) := he.imp id fun h' => (h.ent.keys_perm.mem_iff).2 h'
  have m1 : MapI kE vS it.e w1 X.eb le := h.ent.map.kept hE (by rw [h.ent.o]; simp) fun p hp => by rw [h.itE p hp]; simp
  obtain ⟨w2, r1, r2, r3⟩ := MapI.put keyE und72 m1 e s hek
  have E2 : Eff (fun b => own b = some .entries ∨ own b = some (.erow e)) w w2 := (hE.mono fun b _ hb => .inr hb).comp r3 fun b _ hb => .inl (by rw [hb]; exact h.ent.o)
  let own' : HOwner := fun b => if s.blk = some b then some (.erow e) else own b
  have ho : ∀ b, b < w.heap.size → own' b = own b := by
    intro b hb
    simp only [own']
    split
    · rename_i hb'
      rw [hc] at hb'
      cases hb'
      rcases hc' with hc' | hc'
      · exact hc'.symm
      · omega
    · rfl
  refine ⟨w2, own', aset le e s, r1, E2, ho, fun hk => aset_keys s hk, ?_⟩
  have hsz := hE.size
  have hsz2 := E2.size
  constructor
  case lt =>
    intro b t hbt
    simp only [own'] at hbt
    split at hbt
    · rename_i hb'
      exact Nat.lt_of_lt_of_le (hr.lt hb') r3.size
    · exact Nat.lt_of_lt_of_le (h.lt b t hbt) hsz2
  case top => exact E2.at h.top (by rw [h.topO]; simp)
  case topO => exact (ho _ h.top.lt).trans h.topO
  case num => exact h.num.kept E2 (by rw [h.numO]; simp)
  case numO => exact (ho _ h.num.lt).trans h.numO
  case fil =>
    exact h.fil.kept E2 ho fun b t hb ht hs => by
      rcases hs with hs | hs <;> rw [hs] at hb <;> cases hb <;> cases ht
  case mar =>
    refine h.mar.kept E2 ho (fun b hb hs => ?_) fun p hp hs => ?_
    · rcases hs with hs | hs <;> rw [hs] at hb <;> cases hb
    · rw [h.itM p hp] at hs; simp at hs
  case ope => exact h.ope.kept E2 (by rw [h.opeO]; simp)
  case opeO => exact (ho _ h.ope.lt).trans h.opeO
  case itE => exact fun p hp => (ho _ (h.ent.map.itlt hp)).trans (h.itE p hp)
  case itM => exact fun p hp => (ho _ (h.mar.map.itlt hp)).trans (h.itM p hp)
  case ent =>
    refine ⟨(ho _ h.ent.map.lt).trans h.ent.o, r2, nodup_aset h.ent.nd _ _, fun k hk => ?_, fun k ys hk => ?_⟩
    · have hk' : aget (aset H.entries e xs) k = none := hk
      rw [aget_aset] at hk' ⊢
      split at hk'
      · cases hk'
      · rename_i hne
        rw [if_neg hne]
        exact h.ent.non k hk'
    · have hk' : aget (aset H.entries e xs) k = some ys := hk
      rw [aget_aset] at hk' ⊢
      split at hk'
      · rename_i hke
        subst hke
        cases hk'
        rw [if_pos rfl]
        exact ⟨s, rfl, hr.kept r3 fun b hb e' => by
          subst e'
          rw [hc] at hb
          cases hb
          rcases hc' with hc' | hc'
          · rw [h.ent.o] at hc'; cases hc'
          · exact absurd h.ent.map.lt (Nat.not_lt.2 hc'), hx, hl, c, hc, by simp [own', hc]⟩
      · rename_i hne
        rw [if_neg hne]
        obtain ⟨s1, q1, q2, q3, q4, c1, q5, q6⟩ := h.ent.som k ys hk'
        exact ⟨s1, q1, q2.kept E2 fun b hb hs => by
          rw [q5] at hb
          cases hb
          rw [q6] at hs
          rcases hs with hs | hs
          · cases hs
          · cases hs; exact hne rfl, q3, q4, c1, q5, (ho _ (q2.lt q5)).trans q6⟩

/-- A mark is written. -/
theorem HistAt.putMark (h : HistAt w own it hb tp X le lf lm H) {n : Int} (mk : Mark) (hm : it.m = none ∨ n ∈ lm.map (·.1)) :
    ∃ w2, (Instr.mapUpdate 71 (.map (some X.mb)) (.int .i64 n) (mT.mk mk)).run Tryz.prog w = .ok () w2 ∧ Eff (fun b => own b = some .marks) w w2 ∧ HistAt w2 own it hb tp X le lf (aset lm n mk) { H with marks := aset H.marks n mk } := by
  obtain ⟨w2, r1, r2, r3⟩ := MapI.put keyI und71 h.mar.map n mk hm
  have E2 : Eff (fun b => own b = some .marks) w w2 := r3.mono fun b _ hb => by rw [hb]; exact h.mar.o
  refine ⟨w2, r1, E2, ?_⟩
  constructor
  case lt => exact fun b t hbt => Nat.lt_of_lt_of_le (h.lt b t hbt) E2.size
  case top => exact E2.at h.top (by rw [h.topO]; simp)
  case topO => exact h.topO
  case num => exact h.num.kept E2 (by rw [h.numO]; simp)
  case numO => exact h.numO
  case fil => exact h.fil.kept E2 (fun _ _ => rfl) fun b t hb ht hs => by rw [hs] at hb; cases hb; cases ht
  case ent => exact h.ent.kept E2 (fun _ _ => rfl) (fun b t hb ht hs => by rw [hs] at hb; cases hb; cases ht) fun p hp hs => by rw [h.itE p hp] at hs; cases hs
  case ope => exact h.ope.kept E2 (by rw [h.opeO]; simp)
  case opeO => exact h.opeO
  case itE => exact h.itE
  case itM => exact h.itM
  case mar =>
    exact ⟨h.mar.o, r2, nodup_aset h.mar.nd _ _, fun k => by
      show _ = aget (aset H.marks n mk) k
      rw [aget_aset, aget_aset, h.mar.eq]⟩

end
end Go.Proofs.YtcpoglgnkedpaaaGreatDoor

/-
  may: now, values, set, links, last.
-/
namespace Go.Proofs.YtcpoglgnkedpaaaGreatDoor
open Go Go.Vc Go.Proofs

section
variable {w : World} {own : HOwner} {it : Its} {hb : Nat} {tp : Option Addr} {X : HistX} {le : List (Ent × Sl)} {lf : List (Int × Option Addr)} {lm : List (Int × Mark)} {H : HistV}

theorem now_spec {e : Ent} {K : Int → World → Prop} (h : HistAt w own it hb tp X le lf lm H) (k : ∀ w', Eff No w w' → K (lastE H.entries e) w') : may_History_now_94 (some ⟨hb, 0, none⟩) e w K := by
  refine may_History_now_94_of _ _ w K ?_
  unfold F94
  refine newP_at fun b1 w2 e1 a1 E1 => ?_
  have E2 : Eff No w w2.drew := E1.thenDrew
  have h2 := h.kept0 E2
  refine ldP_at (some X.eb) h2.top rfl ?_
  refine ldA_all e a1.drew ?_
  obtain ⟨s, l1, _, q1, q2, _⟩ := h2.ent.get e
  refine ⟨s, l1, ?_⟩
  exact value_spec q1 (by omega) (k _ E2)

/-- What an entry may have. -/
theorem values_spec {e : Ent} {K : Sl → World → Prop} (h : HistAt w own it hb tp X le lf lm H)
    (k : ∀ s w', Eff No w w' → RowAt w' 3 1 s (((aget H.entries e).getD [0]).map kInt) → K s w') : may_History_values_63 (some ⟨hb, 0, none⟩) e w K := by
  refine may_History_values_63_of _ _ w K ?_
  unfold F63
  refine newP_at fun b1 w2 e1 a1 E1 => ?_
  have E2 : Eff No w w2.drew := E1.thenDrew
  have h2 := h.kept0 E2
  refine ldP_at (some X.eb) h2.top rfl ?_
  refine ldA_all e a1.drew ?_
  obtain ⟨s, _, l2, q1, q2, _⟩ := h2.ent.get e
  refine ⟨(s, (aget H.entries e).isSome), l2, cnd_intro (fun hn => ?_) (fun hn => ?_)⟩
  · have hE : aget H.entries e = none := by simpa using hn
    refine newP_at fun b7 w8 _ a7 E7 => k _ _ (E2.trans E7) ?_
    rw [hE]
    exact RowAt.new (vs := [kInt 0]) a7 rfl
  · cases hE : aget H.entries e with
    | none => rw [hE] at hn; cases hn
    | some xs =>
      rw [hE] at q1
      refine k _ _ E2 ?_
      rw [hE]
      exact q1

theorem slInts : SlT Tryz.prog 53 3 1 8 where
  und := by kernel_rfl
  info := by
    obtain ⟨i, h1, h2, h3, h4⟩ := ti3_ok.info
    exact ⟨i, _, h1, h4, h2, h3, rfl⟩

theorem set_spec {e : Ent} {n : Int} {K : Tup [] → World → Prop} (h : HistAt w own it hb tp X le lf lm H) (he : it.e = none ∨ e ∈ H.entries.map (·.1)) (hl : ((aget H.entries e).getD [0]).length < 1000000)
    (k : ∀ own' le' w', Eff (fun b => own b = some .entries ∨ own b = some (.erow e)) w w' → (∀ b, b < w.heap.size → own' b = own b) → (e ∈ le.map (·.1) → le'.map (·.1) = le.map (·.1)) →
      HistAt w' own' it hb tp X le' lf lm { H with entries := aset H.entries e (setL ((aget H.entries e).getD [0]) n) } → K () w') : may_History_set_90 (some ⟨hb, 0, none⟩) e n w K := by
  refine may_History_set_90_of _ _ _ w K ?_
  unfold F90
  refine newP_at fun b1 w2 e1 a1 E1 => ?_
  have E2 : Eff No w w2.drew := E1.thenDrew
  have h2 := h.kept0 E2
  have a1' := a1.drew
  have hb1 : own b1 = none := by
    cases hh : own b1 with
    | none => rfl
    | some t => have := h.lt _ _ hh; omega
  refine ldP_at (some X.eb) h2.top rfl ?_
  refine ldA_all e a1' ?_
  obtain ⟨s, _, l2, q1, q2, q3⟩ := h2.ent.get e
  refine ⟨(s, (aget H.entries e).isSome), l2, ?_⟩
  generalize hxs : (aget H.entries e).getD [0] = xs at hl k
  have hne : xs ≠ [] := by
    cases hh : aget H.entries e with
    | none => rw [hh] at hxs; subst hxs; simp
    | some ys =>
      obtain ⟨_, _, _, h3, _⟩ := h2.ent.som e ys hh
      rw [hh] at hxs; subst hxs; exact h3
  refine ⟨fun s8 w9 => Eff No w2.drew w9 ∧ RowAt w9 3 1 s8 (xs.map kInt) ∧ ∃ c, s8.blk = some c ∧ (own c = some (.erow e) ∨ w2.heap.size ≤ c), ?_, ?_⟩
  · refine cnd_intro (fun hn => ?_) (fun hn => ?_)
    · have hE : aget H.entries e = none := by simpa using hn
      rw [hE] at hxs
      subst hxs
      exact newP_at fun b10 w11 e10 a10 E10 => ⟨E10, RowAt.new (vs := [kInt 0]) a10 rfl, b10, rfl, .inr (by rw [e10]; exact Nat.le_refl _)⟩
    · cases hE : aget H.entries e with
      | none => rw [hE] at hn; cases hn
      | some ys =>
        rw [hE] at hxs q1
        subst hxs
        obtain ⟨c, c1, c2⟩ := q3 ys hE
        exact ⟨Eff.refl _ _, q1, c, c1, .inl c2⟩
  rintro s8 w9 ⟨E9, r9, c, c1, c2⟩
  have E29 := E2.trans E9
  have h9 := h.kept0 E29
  have hsz := E29.size
  have c2' : own c = some (.erow e) ∨ w.heap.size ≤ c := c2.imp id fun hc => by have := E1.size; omega
  refine value_spec r9 (by omega) ?_
  refine cnd_intro (fun hn => ?_) (fun hn => ?_)
  · have hn' : ¬ lastI xs = n := by simpa using hn
    refine newP_at fun b14 w15 e14 a14 E14 => ?_
    have r15 := r9.kept0 E14
    have rn : RowAt w15 3 1 ⟨some ⟨b14, 0, none⟩, 1, 1⟩ ([n].map kInt) := RowAt.new (vs := [kInt n]) a14 rfl
    have hlen : s8.len = xs.length := by simpa using r9.len1
    obtain ⟨s', w17, r1, r2, r3, r4, r5⟩ := append_row (ty := 53) slInts r15 rn (by simp [kInt, Value.oneCell']) (by simp [hlen, maxLen]; omega) (by simp [hlen]; omega)
    refine ⟨s', w17, r1, ?_⟩
    have E17 : Eff (fun b => own b = some (.erow e)) w w17 := (E29.trans E14).up.comp r4 fun b hb hs => by
      rw [c1] at hs
      cases hs
      rcases c2' with h' | h'
      · exact h'
      · omega
    have E17' : Eff (fun b => own b = some (.erow e)) w w17.drew := E17.thenDrew
    refine ldP_at (some X.eb) (E17'.at h.top (by rw [h.topO]; simp)) rfl ?_
    have ho1 : ¬ s8.blk = some b1 := by
      rw [c1]
      rintro h'
      cases h'
      rcases c2 with h' | h'
      · rw [hb1] at h'; cases h'
      · have := a1.lt; omega
    refine ldA_all e ((Eff.drew w17).at0 (r4.at (E14.at0 (E9.at0 a1')) ho1)) ?_
    have hr17 : RowAt w17.drew 3 1 s' ((xs ++ [n]).map kInt) := by
      have := r2.kept0 (Eff.drew w17)
      simpa using this
    have hc' : ∃ c', s'.blk = some c' ∧ (own c' = some (.erow e) ∨ w.heap.size ≤ c') := by
      rcases r5 with h' | h'
      · exact ⟨c, h'.trans c1, c2'⟩
      · exact ⟨_, h', .inr (by have := (E29.trans E14).size; omega)⟩
    obtain ⟨w21, own', le', p1, p2, p3, p4, p5⟩ := h.putEntry E17' he hr17 (by simp) (by simp; omega) hc'
    refine ⟨w21, p1, k own' le' w21 p2 p3 p4 ?_⟩
    rw [setL, if_neg hn']
    exact p5
  · have hn' : lastI xs = n := by simpa using hn
    have E9' : Eff (fun b => own b = some (.erow e)) w w9.drew := E29.thenDrew.up
    refine ldP_at (some X.eb) (E29.thenDrew.at0 h.top) rfl ?_
    refine ldA_all e ((Eff.drew w9).at0 (E9.at0 a1')) ?_
    obtain ⟨w21, own', le', p1, p2, p3, p4, p5⟩ := h.putEntry E9' he (r9.kept0 (Eff.drew w9)) hne (by omega) ⟨c, c1, c2'⟩
    refine ⟨w21, p1, k own' le' w21 p2 p3 p4 ?_⟩
    rw [setL, if_pos hn']
    exact p5

theorem w64_step (a : Int) : w64 (w64 a + 1) = w64 (a + 1) := by
  unfold w64 IntKind.wrap
  simp [IntKind.signed, IntKind.bits]
  repeat' split
  all_goals omega

theorem countP_eq {α : Type} {l : List α} {p q : α → Bool} (h : ∀ x ∈ l, p x = q x) : l.countP p = l.countP q := by
  induction l with
  | nil => rfl
  | cons x r ih => simp only [List.countP_cons, h x (by simp), ih fun y hy => h y (by simp [hy])]

theorem EntC.count {ie : Option (Nat × List Ent)} {eb : Nat} {E : List (Ent × List Int)} (h : EntC w own ie eb le E) (n : Int) : (le.countP fun p => lastE E p.1 == n) = E.countP fun p => lastI p.2 == n := by
  have h1 : (le.countP fun p => lastE E p.1 == n) = (le.map (·.1)).countP fun k => lastE E k == n := by rw [List.countP_map]; rfl
  have h2 : (E.countP fun p => lastI p.2 == n) = (E.map (·.1)).countP fun k => lastE E k == n := by
    rw [List.countP_map]
    refine countP_eq fun p hp => ?_
    have := aget_of_mem (k := p.1) (v := p.2) h.nd hp
    simp [lastE, this]
  rw [h1, h2]
  exact h.keys_perm.countP_eq _

theorem links_spec {n : Int} {K : Int → World → Prop} (h : HistAt w own it hb tp X le lf lm H) (k : ∀ w', Eff No w w' → K (linksE H.entries n) w') : may_History_links_120 (some ⟨hb, 0, none⟩) n w K := by
  refine may_History_links_120_of _ _ w K ?_
  unfold F120
  refine ldP_at (some X.eb) h.top rfl ?_
  have hm : MapO kE.mk vS.mk w (some X.eb) le := .inr ⟨_, rfl, h.ent.map.map.nodup keyE, le, h.ent.map.map, fun _ => rfl⟩
  refine range_ro und72 keyE hm (fun ps s w1 => Eff No w w1 ∧ s = w64 ((ps.countP fun p => lastE H.entries p.1 == n : Nat) : Int)) (fun w1 E => ⟨E, rfl⟩) ?_ ?_ ?_
  · rintro ps s w1 w2 ⟨E, hs⟩ E'
    exact ⟨E.fresh E' (Nat.le_refl _), hs⟩
  · rintro ps s w1 ⟨E, hs⟩ hp
    rw [hs, hp.countP_eq, h.ent.count n]
    exact k w1 E
  · rintro ps s w1 p again ⟨E, hs⟩ _ _ _ _ hag
    refine newP_at fun b12 w13 e12 a12 E12 => ?_
    refine stN_all a12 rfl rfl fun w14 a14 E14 => ?_
    refine ldA_all p.1 a14 ?_
    have E14' : Eff No w w14 := (E.trans E12).fresh E14 (by have := E.size; omega)
    refine now_spec (h.kept0 E14') fun w17 E17 => ?_
    have E1 : Eff No w1 w17 := (E12.fresh E14 (by omega)).trans E17
    refine cnd_intro (fun hn => ?_) (fun hn => ?_)
    · refine hag No _ w17 E1 (fun h => h) (fun _ _ h => h) ⟨E.trans E1, ?_⟩
      rw [hs, w64_step, List.countP_cons, if_pos (by simpa [lastE] using hn)]
      rfl
    · refine hag No _ w17 E1 (fun h => h) (fun _ _ h => h) ⟨E.trans E1, ?_⟩
      rw [hs, List.countP_cons, if_neg (by simpa [lastE] using hn)]
      rfl

/-- What it is to let an entry last. -/
def lastH (H : HistV) (e : Ent) : HistV :=
  if lastE H.entries e = 0 then { H with entries := aset H.entries e [lastE H.entries e] }
  else { H with entries := aset H.entries e [lastE H.entries e], marks := aset H.marks (lastE H.entries e) (true, true, linksE (aset H.entries e [lastE H.entries e]) (lastE H.entries e) == 1) }

theorem last_spec {e : Ent} {K : Tup [] → World → Prop} (h : HistAt w own it hb tp X le lf lm H) (he : it.e = none ∨ e ∈ H.entries.map (·.1)) (hm : it.m = none)
    (k : ∀ own' le' lm' w', Eff (fun b => own b = some .entries ∨ own b = some (.erow e) ∨ own b = some .marks) w w' → (∀ b, b < w.heap.size → own' b = own b) → (e ∈ le.map (·.1) → le'.map (·.1) = le.map (·.1)) →
      HistAt w' own' it hb tp X le' lf lm' (lastH H e) → K () w') : may_History_last_59 (some ⟨hb, 0, none⟩) e w K := by
  refine may_History_last_59_of _ _ w K ?_
  unfold F59
  refine newP_at fun b1 w2 e1 a1 E1 => ?_
  refine ldA_all e a1 ?_
  refine now_spec (h.kept0 E1) fun w5 E5 => ?_
  have E5' := (E1.trans E5).thenDrew
  refine ldP_at (some X.eb) (E5'.at0 h.top) rfl ?_
  have a5 := (E5.thenDrew).at0 a1
  refine ldA_all e a5 ?_
  refine newP_at fun b9 w10 e9 a9 E9 => ?_
  have E10 := E5'.trans E9
  refine ⟨cellsAt_all (vs := [.int .i64 e.1, .string e.2]) (E9.at0 a5), ((E10.at0 h.top).cell).trans rfl, ?_⟩
  have r9 : RowAt w10 3 1 ⟨some ⟨b9, 0, none⟩, 1, 1⟩ ([lastE H.entries e].map kInt) := RowAt.new (vs := [kInt _]) a9 rfl
  obtain ⟨w11, own', le', p1, p2, p3, p4, p5⟩ := h.putEntry E10.up he r9 (by simp) (by simp) ⟨b9, rfl, .inr (by have := E5'.size; omega)⟩
  refine ⟨w11, p1, ?_⟩
  have E11 : Eff (fun b => own b = some .entries ∨ own b = some (.erow e) ∨ own b = some .marks) w w11 := p2.mono fun b _ hb => hb.elim .inl fun h => .inr (.inl h)
  refine cnd_intro (fun hn => ?_) (fun hn => ?_)
  · have hn' : ¬ lastE H.entries e = 0 := by simpa using hn
    have p6 := p5.kept0 (Eff.drew w11)
    refine ldP_at (some X.mb) p6.top rfl ?_
    refine links_spec p6 fun w15 E15 => ?_
    have p7 := p6.kept0 E15
    refine ⟨p7.top.cell.trans rfl, ?_⟩
    obtain ⟨w16, q1, q2, q3⟩ := p7.putMark (n := lastE H.entries e) (true, true, linksE (aset H.entries e [lastE H.entries e]) (lastE H.entries e) == 1) (.inl hm)
    have q4 : HistAt w16 own' it hb tp X le' lf (aset lm (lastE H.entries e) (true, true, linksE (aset H.entries e [lastE H.entries e]) (lastE H.entries e) == 1)) (lastH H e) := by
      rw [lastH, if_neg hn']
      exact q3
    refine ⟨w16, q1, k own' le' _ w16 ?_ p3 p4 q4⟩
    refine (E11.thenNo ((Eff.drew w11).trans E15)).comp q2 fun b hb hs => ?_
    have hs' : own' b = some .marks := hs
    rw [p3 b hb] at hs'
    exact .inr (.inr hs')
  · have hn' : lastE H.entries e = 0 := by simpa using hn
    refine k own' le' lm w11 E11 p3 p4 ?_
    rw [lastH, if_pos hn']
    exact p5

end
end Go.Proofs.YtcpoglgnkedpaaaGreatDoor

/-
  may: firm.
-/
namespace Go.Proofs.YtcpoglgnkedpaaaGreatDoor
open Go Go.Vc Go.Proofs

/-- The tags of what a step may change of a file. -/
def HTag.fileW (n : Int) : HTag → Bool
  | .file k | .sizes k | .blocks k | .brow k _ => k == n
  | _ => false

def firmF (f : FileV) : FileV := { f with sizes := [lastI f.sizes], blocks := f.blocks.map fun p => (p.1, [p.2.getLastD []]) }

section
variable {w w' : World} {own own' : HOwner} {it : Its} {hb : Nat} {tp : Option Addr} {X : HistX} {le : List (Ent × Sl)} {lf : List (Int × Option Addr)} {lm : List (Int × Mark)} {H : HistV} {S : Nat → Prop}

/-- A file is changed. -/
theorem HistAt.setFile (h : HistAt w own it hb tp X le lf lm H) {n : Int} {b : Nat} {ss : Sl} {bb : Nat} {lb : List (Int × Sl)} {f' : FileV} (hl : aget lf n = some (some ⟨b, 0, none⟩)) (hE : Eff S w w')
    (hS : ∀ b, b < w.heap.size → S b → ∃ t, own b = some t ∧ t.fileW n = true) (ho : ∀ b, b < w.heap.size → own' b = own b) (hlt : ∀ b t, own' b = some t → b < w'.heap.size) (hf : FileAt w' own' n b ss bb lb f') :
    HistAt w' own' it hb tp X le lf lm { H with files := aset H.files n f' } where
  lt := hlt
  top := hE.at h.top fun hs => by
    obtain ⟨t, h1, h2⟩ := hS _ h.top.lt hs
    rw [h.topO] at h1; cases h1; cases h2
  topO := (ho _ h.top.lt).trans h.topO
  num := h.num.kept hE fun hs => by
    obtain ⟨t, h1, h2⟩ := hS _ h.num.lt hs
    rw [h.numO] at h1; cases h1; cases h2
  numO := (ho _ h.num.lt).trans h.numO
  mar := h.mar.kept hE ho (fun c hc hs => by
    obtain ⟨t, h1, h2⟩ := hS _ (h.lt _ _ hc) hs
    rw [hc] at h1; cases h1; cases h2) fun p hp hs => by
      obtain ⟨t, h1, h2⟩ := hS _ (h.mar.map.itlt hp) hs
      rw [h.itM p hp] at h1; cases h1
  ent := h.ent.kept hE ho (fun c t0 hc ht hs => by
    obtain ⟨t, h1, h2⟩ := hS _ (h.lt _ _ hc) hs
    rw [hc] at h1; cases h1
    cases t0 <;> first | cases h2 | cases ht) fun p hp hs => by
      obtain ⟨t, h1, h2⟩ := hS _ (h.ent.map.itlt hp) hs
      rw [h.itE p hp] at h1; cases h1
  ope := h.ope.kept hE fun hs => by
    obtain ⟨t, h1, h2⟩ := hS _ h.ope.lt hs
    rw [h.opeO] at h1; cases h1; cases h2
  opeO := (ho _ h.ope.lt).trans h.opeO
  itE p hp := (ho _ (h.ent.map.itlt hp)).trans (h.itE p hp)
  itM p hp := (ho _ (h.mar.map.itlt hp)).trans (h.itM p hp)
  fil :=
    { o := (ho _ h.fil.map.lt).trans h.fil.o
      map := h.fil.map.kept hE fun hs => by
        obtain ⟨t, h1, h2⟩ := hS _ h.fil.map.lt hs
        rw [h.fil.o] at h1; cases h1; cases h2
      nd := nodup_aset h.fil.nd _ _
      non := fun k hk => by
        have hk' : aget (aset H.files n f') k = none := hk
        rw [aget_aset] at hk'
        split at hk'
        · cases hk'
        · exact h.fil.non k hk'
      som := fun k f hk => by
        have hk' : aget (aset H.files n f') k = some f := hk
        rw [aget_aset] at hk'
        split at hk'
        · rename_i e
          subst e
          cases hk'
          exact ⟨b, ss, bb, lb, hl, hf⟩
        · rename_i e
          obtain ⟨b1, ss1, bb1, lb1, h1, h2⟩ := h.fil.som k f hk'
          refine ⟨b1, ss1, bb1, lb1, h1, h2.kept hE ho fun c t hc ht hs => ?_⟩
          obtain ⟨t', q1, q2⟩ := hS _ (h.lt _ _ hc) hs
          rw [hc] at q1
          cases q1
          cases t <;> simp only [HTag.ofFile, HTag.fileW, beq_iff_eq, Bool.false_eq_true] at ht q2 <;> exact e (ht.symm.trans q2) }

theorem FilC.look {fb : Nat} {F : List (Int × FileV)} (h : FilC w own fb lf F) {n : Int} {f : FileV} (hf : aget F n = some f) :
    ∃ b ss bb lb, (Instr.lookup 70 (.map (some fb)) (.int .i64 n) false).run Tryz.prog w = .ok (Tup.res [.one .ptr] (some ⟨b, 0, none⟩)) w ∧ FileAt w own n b ss bb lb f ∧ aget lf n = some (some ⟨b, 0, none⟩) := by
  obtain ⟨b, ss, bb, lb, h1, h2⟩ := h.som n f hf
  refine ⟨b, ss, bb, lb, ?_, h2, h1⟩
  have := lookup1 keyI und70 h.map n (.pointer none) (run_zero ti132_ok w)
  rw [h1] at this
  exact this

theorem FilC.lookNone {fb : Nat} {F : List (Int × FileV)} (h : FilC w own fb lf F) {n : Int} (hf : aget F n = none) :
    (Instr.lookup 70 (.map (some fb)) (.int .i64 n) false).run Tryz.prog w = .ok (Tup.res [.one .ptr] none) w := by
  have := lookup1 keyI und70 h.map n (.pointer none) (run_zero ti132_ok w)
  rw [h.non n hf] at this
  exact this

def lastSl (s : Sl) : Sl := s.drop 1 (s.len - 1)

theorem row_last {e : TypeId} {s : Sl} {cs : List Value} {v : Value} (h : RowAt w e 1 s cs) (hv : cs.getLast? = some v) : RowAt w e 1 (lastSl s) [v] := by
  have hl := h.len1
  have hne : cs ≠ [] := by rintro rfl; cases hv
  have := h.drop (lo := s.len - 1) (by omega)
  rw [Nat.mul_one, hl] at this
  unfold lastSl
  rw [hl]
  have e1 : cs.drop (cs.length - 1) = [v] := by
    obtain ⟨ys, rfl⟩ := List.getLast?_eq_some_iff.1 hv
    simp
  rw [e1] at this
  exact this

theorem firm_spec {n : Int} {f : FileV} {K : Tup [] → World → Prop} (h : HistAt w own it hb tp X le lf lm H) (hf : aget H.files n = some f)
    (k : ∀ w', Eff (fun b => own b = some (.file n) ∨ own b = some (.blocks n)) w w' → HistAt w' own it hb tp X le lf lm { H with files := aset H.files n (firmF f) } → K () w') : may_History_firm_60 (some ⟨hb, 0, none⟩) n w K := by
  refine may_History_firm_60_of _ _ w K ?_
  unfold F60
  refine ldP_at (some X.fb) h.top rfl ?_
  obtain ⟨fb, ss, bb, lb, l1, fA, l2⟩ := h.fil.look hf
  refine ⟨_, l1, ?_⟩
  have c1 := fA.cells.drew
  refine ldP_at ss c1 rfl ?_
  refine ldP_at ss c1 rfl ?_
  have hne := fA.ne
  have hlen : ss.len = f.sizes.length := by simpa using fA.row.len1
  have hpos : 0 < f.sizes.length := List.length_pos_iff.2 hne.1
  have hw : w64 ((ss.len : Int) - 1) = ((ss.len - 1 : Nat) : Int) := by
    rw [w64_id (by omega) (by omega)]; omega
  rw [hw]
  refine slcP_drop (by omega) (by omega) ?_
  rw [Int.toNat_natCast]
  refine onSome_some ?_
  refine stP_at (i := 2) c1 (by simp) ?_ fun w10 a10 E10 => ?_
  · rfl
  have E10' : Eff (fun b => own b = some (.file n) ∨ own b = some (.blocks n)) w w10 := (Eff.drew w).up.comp E10 fun b _ e => .inl (by rw [e]; exact fA.o)
  refine ldP_at (some bb) a10 rfl ?_
  have hbb : bb ≠ fb := fun e => by have := fA.mapO; rw [e, fA.o] at this; cases this
  have m10 : MapAt iT.mk vS.mk w10 bb lb := (fA.map.kept0 (Eff.drew w)).kept E10 hbb
  have hnl := fA.map.nodup keyI
  have hlt : ∀ c t, own c = some t → c < w10.heap.size := fun c t hc => Nat.lt_of_lt_of_le (h.lt c t hc) E10'.size
  obtain ⟨w14, r1, r2, r3⟩ := range_start (P := Tryz.prog) (kty := iT) (vty := vS) und133 m10
  have lbs : ∀ k s, aget lb k = some s → ∃ (ys : List (List Int)) (is : List Sl), aget f.blocks k = some ys ∧ RowAt w 22 1 s (is.map Sl.v) ∧ ys ≠ [] ∧ (∃ c, s.blk = some c ∧ own c = some (.brow n k)) ∧
      is.length = ys.length ∧ ∀ (i : Nat) (s' : Sl) (bs : List Int), is[i]? = some s' → ys[i]? = some bs → RowAt w 5 1 s' (bs.map kB) ∧ bs.length = 128 ∧ ∃ c, s'.blk = some c ∧ own c = some .bytes := by
    intro k s hs
    cases hy : aget f.blocks k with
    | none => rw [fA.non k hy] at hs; cases hs
    | some ys =>
      obtain ⟨s1, is, q1, q2, q3, _, q4, q5, q6⟩ := fA.som k ys hy
      rw [q1] at hs
      cases hs
      exact ⟨ys, is, rfl, q2, q3, q4, q5, q6⟩
  refine ⟨_, w14, r1, ?_⟩
  refine range_loop (fun seen l s w1 => Eff (fun b => own b = some (.file n) ∨ own b = some (.blocks n)) w w1 ∧ At w1 fb (.cells #[.int .i64 f.kind, .string f.target, (lastSl ss).v, .map (some bb)] 135 (0, 0)) ∧
    l.map (·.1) = lb.map (·.1) ∧ ∀ k, aget l k = if k ∈ seen then (aget lb k).map lastSl else aget lb k) r2 ⟨E10'.thenNo r3, r3.at0 a10, rfl, fun k => by simp⟩ ?_ ?_
  · rintro seen l s w1 hi ⟨E1, a1, hk1, hg1⟩ hall
    refine k w1 E1 (h.setFile l2 E1 (fun c _ hs => ?_) (fun _ _ => rfl) (fun c t hc => Nat.lt_of_lt_of_le (h.lt c t hc) E1.size) (b := fb) (ss := lastSl ss) (bb := bb) (lb := l) ?_)
    · rcases hs with hs | hs <;> exact ⟨_, hs, by simp [HTag.fileW]⟩
    · obtain ⟨x0, hx0⟩ : ∃ x, f.sizes.getLast? = some x := by
        cases hh : f.sizes.getLast? with
        | none => exact absurd (List.getLast?_eq_none_iff.1 hh) hne.1
        | some x => exact ⟨x, rfl⟩
      obtain ⟨cs, hcs, hco⟩ := fA.rowO
      refine { cells := a1, o := fA.o, row := ?_, rowO := ⟨cs, by unfold lastSl; rw [Sl.drop_blk]; exact hcs, hco⟩, ne := ⟨by simp [firmF], by simp [firmF]⟩, map := hi.map, mapO := fA.mapO, nd := by simp only [firmF]; rw [keys_map f.blocks fun xs => [xs.getLastD []]]; exact fA.nd, non := ?_, som := ?_ }
      · have r0 := row_last fA.row (v := kInt x0) (by rw [List.getLast?_map, hx0]; rfl)
        have e1 : lastI f.sizes = x0 := by simp [lastI, List.getLastD_eq_getLast?, hx0]
        show RowAt w1 3 1 (lastSl ss) [kInt (lastI f.sizes)]
        rw [e1]
        refine r0.kept E1 fun c hc hs => ?_
        unfold lastSl at hc
        rw [Sl.drop_blk, hcs] at hc
        cases hc
        rw [hco] at hs
        rcases hs with hs | hs <;> cases hs
      · intro k' hk'
        have hk2 : (aget f.blocks k').map (fun xs => [xs.getLastD []]) = none := by rw [← aget_map]; exact hk'
        rw [hg1, fA.non k' (by simpa using hk2)]
        simp
      · intro k' xs hk'
        have hk2 : (aget f.blocks k').map (fun xs => [xs.getLastD []]) = some xs := by rw [← aget_map]; exact hk'
        cases hy : aget f.blocks k' with
        | none => rw [hy] at hk2; cases hk2
        | some ys =>
          rw [hy] at hk2
          cases hk2
          obtain ⟨s1, is, q1, q2, q3, _, ⟨c, q4, q4'⟩, q5, q6⟩ := fA.som k' ys hy
          have hmem : k' ∈ l.map (·.1) := by rw [hk1]; exact key_of_aget q1
          obtain ⟨p, hp, rfl⟩ := List.mem_map.1 hmem
          have hsn := hall p hp
          obtain ⟨ys0, y, rfl⟩ : ∃ a b, ys = a ++ [b] := ⟨_, _, (List.dropLast_concat_getLast q3).symm⟩
          have hisne : is ≠ [] := by rintro rfl; simp at q5
          obtain ⟨is0, x, rfl⟩ : ∃ a b, is = a ++ [b] := ⟨_, _, (List.dropLast_concat_getLast hisne).symm⟩
          have hl0 : is0.length = ys0.length := by simpa using q5
          refine ⟨lastSl s1, [x], by rw [hg1, if_pos hsn, q1]; rfl, ?_, by simp, by simp, ⟨c, by unfold lastSl; rw [Sl.drop_blk]; exact q4, q4'⟩, rfl, ?_⟩
          · refine (row_last q2 (v := x.v) (by simp)).kept E1 fun c' hc' hs => ?_
            unfold lastSl at hc'
            rw [Sl.drop_blk, q4] at hc'
            cases hc'
            rw [q4'] at hs
            rcases hs with hs | hs <;> cases hs
          · intro i s' bs hi1 hi2
            obtain ⟨t1, t2, c', t3, t4⟩ := q6 is0.length x y (by simp) (by simp [hl0])
            cases i with
            | zero =>
              simp at hi1 hi2
              subst hi1 hi2
              refine ⟨t1.kept E1 fun c'' hc'' hs => ?_, t2, c', t3, t4⟩
              rw [t3] at hc''
              cases hc''
              rw [t4] at hs
              rcases hs with hs | hs <;> cases hs
            | succ i => simp at hi1
  · rintro seen l s w1 p w2 again hi ⟨E1, a1, hk1, hg1⟩ hp hs hi' hE2 hag
    have hrs : w.heap.size ≤ w10.heap.size := E10'.size
    have E2 := E1.fresh hE2 hrs
    have a2 : At w2 fb _ := hE2.at a1 (fun e => absurd (hlt _ _ fA.o) (by rw [e]; exact Nat.lt_irrefl _))
    refine ldP_at (some bb) a2.drew rfl ?_
    have hg := aget_of_mem (k := p.1) (v := p.2) (by rw [hk1]; exact hnl) hp
    rw [hg1, if_neg hs] at hg
    obtain ⟨ys, is, q1, q2, q3, _, q5, _⟩ := lbs _ _ hg
    have hl1 : p.2.len = ys.length := by rw [← q5]; simpa using q2.len1
    have hyp : 0 < ys.length := List.length_pos_iff.2 q3
    obtain ⟨_, _, _, _, _, _, hcap, _⟩ := fA.som _ _ q1
    have hw2 : w64 ((p.2.len : Int) - 1) = ((p.2.len - 1 : Nat) : Int) := by
      rw [w64_id (by omega) (by omega)]; omega
    rw [hw2]
    refine slcP_drop (by omega) (by omega) ?_
    rw [Int.toNat_natCast]
    obtain ⟨w25, u1, u2, u3⟩ := IterAt.update keyI und133 (hi'.kept0 (Eff.drew w2)) p.1 (lastSl p.2) (List.mem_map.2 ⟨p, hp, rfl⟩)
    have ks := aset_keys (lastSl p.2) (List.mem_map.2 ⟨p, hp, rfl⟩ : p.1 ∈ l.map (·.1))
    refine ⟨w25, u1, hag _ () w25 ks u2 ⟨E2.thenDrew.comp u3 fun c _ e => .inr (by rw [e]; exact fA.mapO), u3.at a2.drew hbb.symm, ks.trans hk1, fun k' => ?_⟩⟩
    rw [aget_aset]
    by_cases e : k' = p.1
    · subst e
      rw [if_pos rfl, if_pos (by simp), hg]
      rfl
    · rw [if_neg e, hg1]
      simp [e]

end
end Go.Proofs.YtcpoglgnkedpaaaGreatDoor

/-
  may: loops over the entries, and over the marks; lasts of Sync; write of nothing.
-/
namespace Go.Proofs.YtcpoglgnkedpaaaGreatDoor
open Go Go.Vc Go.Proofs

section
variable {w w' : World} {own : HOwner} {it : Its} {hb : Nat} {tp : Option Addr} {X : HistX} {le : List (Ent × Sl)} {lf : List (Int × Option Addr)} {lm : List (Int × Mark)} {H : HistV} {r : Nat}

/-- Somebody begins to go through the entries. -/
theorem HistAt.iterE (h : HistAt w own { it with e := none } hb tp X le lf lm H) (hE : Eff No w w') (hr : w.heap.size ≤ r) (hi : IterAt kE vS w' r X.eb le []) : HistAt w' own { it with e := some (r, []) } hb tp X le lf lm H :=
  let h' := h.kept0 hE
  { lt := h'.lt, top := h'.top, topO := h'.topO, num := h'.num, numO := h'.numO, fil := h'.fil, mar := h'.mar
    ent := { o := h'.ent.o, map := hi, nd := h'.ent.nd, non := h'.ent.non, som := h'.ent.som }
    ope := h'.ope, opeO := h'.opeO
    itE := fun p hp => by
      cases hp
      cases hh : own r with
      | none => rfl
      | some t => have := h.lt _ _ hh; omega
    itM := h'.itM }

theorem HistAt.stepE {seen seen' : List Ent} (h : HistAt w own { e := some (r, seen), m := none } hb tp X le lf lm H) (hE : Eff (fun b => b = r) w w') (hi : IterAt kE vS w' r X.eb le seen') : HistAt w' own { e := some (r, seen'), m := none } hb tp X le lf lm H := by
  have hr : own r = none := h.itE _ rfl
  have hd : ∀ b t, own b = some t → ¬ b = r := fun b t hb e => by rw [e, hr] at hb; cases hb
  have he : EntC w' own (some (r, seen')) X.eb le H.entries := by
    refine { o := h.ent.o, map := hi, nd := h.ent.nd, non := h.ent.non, som := fun k xs hk => ?_ }
    obtain ⟨s, h1, h2, h3, h4, c, h5, h6⟩ := h.ent.som k xs hk
    exact ⟨s, h1, h2.kept hE fun b hb => by rw [h5] at hb; cases hb; exact hd _ _ h6, h3, h4, c, h5, h6⟩
  exact
  { lt := fun b t hb => Nat.lt_of_lt_of_le (h.lt b t hb) hE.size
    top := hE.at h.top (hd _ _ h.topO)
    topO := h.topO
    num := h.num.kept hE (hd _ _ h.numO)
    numO := h.numO
    fil := h.fil.kept hE (fun _ _ => rfl) fun b t hb _ => hd b t hb
    mar := h.mar.kept hE (fun _ _ => rfl) (fun b hb => hd b _ hb) fun p hp => by cases hp
    ent := he
    ope := h.ope.kept hE (hd _ _ h.opeO)
    opeO := h.opeO
    itE := fun p hp => by cases hp; exact hr
    itM := fun p hp => by cases hp }

theorem HistAt.doneE {p : Option (Nat × List Ent)} (h : HistAt w own { it with e := p } hb tp X le lf lm H) : HistAt w own { it with e := none } hb tp X le lf lm H :=
  { lt := h.lt, top := h.top, topO := h.topO, num := h.num, numO := h.numO, fil := h.fil, mar := h.mar
    ent := { o := h.ent.o, map := h.ent.map.map, nd := h.ent.nd, non := h.ent.non, som := h.ent.som }
    ope := h.ope, opeO := h.opeO, itE := (fun p hp => by cases hp), itM := h.itM }

theorem HistAt.iterM (h : HistAt w own { it with m := none } hb tp X le lf lm H) (hE : Eff No w w') (hr : w.heap.size ≤ r) (hi : IterAt iT mT w' r X.mb lm []) : HistAt w' own { it with m := some (r, []) } hb tp X le lf lm H :=
  let h' := h.kept0 hE
  { lt := h'.lt, top := h'.top, topO := h'.topO, num := h'.num, numO := h'.numO, fil := h'.fil
    mar := { o := h'.mar.o, map := hi, nd := h'.mar.nd, eq := h'.mar.eq }
    ent := h'.ent, ope := h'.ope, opeO := h'.opeO, itE := h'.itE
    itM := fun p hp => by
      cases hp
      cases hh : own r with
      | none => rfl
      | some t => have := h.lt _ _ hh; omega }

theorem HistAt.stepM {seen seen' : List Int} (h : HistAt w own { e := none, m := some (r, seen) } hb tp X le lf lm H) (hE : Eff (fun b => b = r) w w') (hi : IterAt iT mT w' r X.mb lm seen') : HistAt w' own { e := none, m := some (r, seen') } hb tp X le lf lm H := by
  have hr : own r = none := h.itM _ rfl
  have hd : ∀ b t, own b = some t → ¬ b = r := fun b t hb e => by rw [e, hr] at hb; cases hb
  exact
  { lt := fun b t hb => Nat.lt_of_lt_of_le (h.lt b t hb) hE.size
    top := hE.at h.top (hd _ _ h.topO)
    topO := h.topO
    num := h.num.kept hE (hd _ _ h.numO)
    numO := h.numO
    fil := h.fil.kept hE (fun _ _ => rfl) fun b t hb _ => hd b t hb
    mar := { o := h.mar.o, map := hi, nd := h.mar.nd, eq := h.mar.eq }
    ent := h.ent.kept hE (fun _ _ => rfl) (fun b t hb _ => hd b t hb) fun p hp => by cases hp
    ope := h.ope.kept hE (hd _ _ h.opeO)
    opeO := h.opeO
    itE := fun p hp => by cases hp
    itM := fun p hp => by cases hp; exact hr }

theorem HistAt.doneM {p : Option (Nat × List Int)} (h : HistAt w own { it with m := p } hb tp X le lf lm H) : HistAt w own { it with m := none } hb tp X le lf lm H :=
  { lt := h.lt, top := h.top, topO := h.topO, num := h.num, numO := h.numO, fil := h.fil
    mar := { o := h.mar.o, map := h.mar.map.map, nd := h.mar.nd, eq := h.mar.eq }
    ent := h.ent, ope := h.ope, opeO := h.opeO, itE := h.itE, itM := (fun p hp => by cases hp) }

/-- A history is told by what its lists give. -/
theorem HistAt.cong {F' : List (Int × FileV)} {M' : List (Int × Mark)} {E' : List (Ent × List Int)} (h : HistAt w own it hb tp X le lf lm H)
    (hF : ∀ k, aget F' k = aget H.files k) (nF : (F'.map (·.1)).Nodup) (hM : ∀ k, aget M' k = aget H.marks k) (nM : (M'.map (·.1)).Nodup) (hEe : ∀ k, aget E' k = aget H.entries k) (nE : (E'.map (·.1)).Nodup) :
    HistAt w own it hb tp X le lf lm { H with files := F', marks := M', entries := E' } :=
  { lt := h.lt, top := h.top, topO := h.topO, num := h.num, numO := h.numO
    fil := { o := h.fil.o, map := h.fil.map, nd := nF, non := (fun k hk => h.fil.non k ((hF k).symm.trans hk)), som := (fun k f hk => h.fil.som k f ((hF k).symm.trans hk)) }
    mar := { o := h.mar.o, map := h.mar.map, nd := nM, eq := (fun k => (h.mar.eq k).trans (hM k).symm) }
    ent := { o := h.ent.o, map := h.ent.map, nd := nE, non := (fun k hk => h.ent.non k ((hEe k).symm.trans hk)), som := (fun k xs hk => h.ent.som k xs ((hEe k).symm.trans hk)) }
    ope := h.ope, opeO := h.opeO, itE := h.itE, itM := h.itM }

/-! ### all lasts -/

theorem linksE_cong {E E' : List (Ent × List Int)} (nE : (E.map (·.1)).Nodup) (nE' : (E'.map (·.1)).Nodup) (h : ∀ k, (aget E' k).map lastI = (aget E k).map lastI) (n : Int) : linksE E' n = linksE E n := by
  unfold linksE
  have h1 : ∀ {E : List (Ent × List Int)}, (E.map (·.1)).Nodup → (E.countP fun p => lastI p.2 == n) = (E.map (·.1)).countP fun k => ((aget E k).map lastI).getD 0 == n := by
    intro E nE
    rw [List.countP_map]
    refine countP_eq fun p hp => ?_
    have := aget_of_mem (k := p.1) (v := p.2) nE hp
    simp [this]
  rw [h1 nE, h1 nE']
  have hp : (E'.map (·.1)).Perm (E.map (·.1)) := by
    refine perm_of_nodup nE' nE fun k => ⟨fun hk => ?_, fun hk => ?_⟩
    · obtain ⟨v, hv⟩ := aget_key hk
      have := h k
      rw [hv] at this
      cases hE : aget E k with
      | none => rw [hE] at this; cases this
      | some u => exact key_of_aget hE
    · obtain ⟨v, hv⟩ := aget_key hk
      have := h k
      rw [hv] at this
      cases hE : aget E' k with
      | none => rw [hE] at this; cases this
      | some u => exact key_of_aget hE
  rw [hp.countP_eq]
  congr 2
  refine countP_eq fun k _ => ?_
  rw [h k]

/-- All entries last. -/
def lastAllE (E : List (Ent × List Int)) : List (Ent × List Int) := E.map fun p => (p.1, [lastI p.2])
def lastAllM (E : List (Ent × List Int)) (M : List (Int × Mark)) : List (Int × Mark) := E.foldl (fun M p => if lastI p.2 = 0 then M else aset M (lastI p.2) (true, true, linksE E (lastI p.2) == 1)) M

theorem lastAllM_nd (E0 : List (Ent × List Int)) : ∀ (E : List (Ent × List Int)) (M : List (Int × Mark)), (M.map (·.1)).Nodup → ((E.foldl (fun M p => if lastI p.2 = 0 then M else aset M (lastI p.2) (true, true, linksE E0 (lastI p.2) == 1)) M).map (·.1)).Nodup
  | [], _, h => h
  | p :: E, M, h => by
    rw [List.foldl_cons]
    refine lastAllM_nd E0 E _ ?_
    split
    · exact h
    · exact nodup_aset h _ _

theorem lastAllM_get (E0 : List (Ent × List Int)) (n : Int) : ∀ (E : List (Ent × List Int)) (M : List (Int × Mark)), aget (E.foldl (fun M p => if lastI p.2 = 0 then M else aset M (lastI p.2) (true, true, linksE E0 (lastI p.2) == 1)) M) n =
    if n ≠ 0 ∧ ∃ p ∈ E, lastI p.2 = n then some (true, true, linksE E0 n == 1) else aget M n
  | [], M => by simp
  | p :: E, M => by
    rw [List.foldl_cons, lastAllM_get E0 n E]
    by_cases h : n ≠ 0 ∧ ∃ p ∈ E, lastI p.2 = n
    · rw [if_pos h, if_pos ⟨h.1, by obtain ⟨q, hq, e⟩ := h.2; exact ⟨q, List.mem_cons_of_mem _ hq, e⟩⟩]
    · rw [if_neg h]
      by_cases h0 : lastI p.2 = 0
      · rw [if_pos h0, if_neg]
        rintro ⟨q1, q, hq, e⟩
        rcases List.mem_cons.1 hq with rfl | hq
        · exact q1 (e ▸ h0)
        · exact h ⟨q1, q, hq, e⟩
      · rw [if_neg h0, aget_aset]
        by_cases hn : n = lastI p.2
        · subst hn
          rw [if_pos rfl, if_pos ⟨h0, p, by simp, rfl⟩]
        · rw [if_neg hn, if_neg]
          rintro ⟨q1, q, hq, e⟩
          rcases List.mem_cons.1 hq with rfl | hq
          · exact hn e.symm
          · exact h ⟨q1, q, hq, e⟩

/-- What an entry has when some last. -/
noncomputable def afterE (E : List (Ent × List Int)) (seen : List Ent) (k : Ent) : Option (List Int) := @ite _ (k ∈ seen) (Classical.propDecidable _) ((aget E k).map (fun xs => [lastI xs])) (aget E k)

theorem afterE_in {E : List (Ent × List Int)} {seen : List Ent} {k : Ent} (h : k ∈ seen) : afterE E seen k = (aget E k).map fun xs => [lastI xs] := if_pos h
theorem afterE_out {E : List (Ent × List Int)} {seen : List Ent} {k : Ent} (h : k ∉ seen) : afterE E seen k = aget E k := if_neg h
theorem afterE_last (E : List (Ent × List Int)) (seen : List Ent) (k : Ent) : (afterE E seen k).map lastI = (aget E k).map lastI := by
  unfold afterE
  split
  · cases aget E k <;> simp [lastI]
  · rfl

/-- The loop 'for e := range h.entries { h.last(e) }', whatever stands behind it. -/
theorem lastAll_loop {ty : TypeId} {D : World → Prop} (h : HistAt w own {} hb tp X le lf lm H)
    (fin : ∀ own' le' lm' w1, Eff (fun b => ∃ t, own b = some t) w w1 → (∀ b, b < w.heap.size → own' b = own b) → HistAt w1 own' {} hb tp X le' lf lm' { H with entries := lastAllE H.entries, marks := lastAllM H.entries H.marks } → D w1) :
    runP Tryz.prog (Instr.range 72 (.map (some X.eb))) [.one .ptr] w fun c w1 => loopP (σ := Tup []) (fun again _ w => nextP Tryz.prog (Instr.next (.pointer c) false ty) [kE, vS] w (fun w => D w) (fun _ w => rdP Tryz.prog (Instr.entry (.pointer c)) [kE, vS] w fun c =>
      newP (.cells #[(.int .i64 0), (.string (⟨#[]⟩ : ByteArray))] 77) w fun b w' => stN ⟨b, 0, none⟩ [(.int .i64 c.1.1), (.string c.1.2)] w' fun w'' => ldA [.int .i64, .str] ⟨b, 0, none⟩ w'' fun c1 => may_History_last_59 (some ⟨hb, 0, none⟩) (c1.1, c1.2) w'' fun _ w3 => again () w3)) () w1 := by
  obtain ⟨w1, r1, r2, r3⟩ := range_start (P := Tryz.prog) (kty := kE) (vty := vS) und72 h.ent.map.map
  refine ⟨_, w1, r1, ?_⟩
  have hs1 := r3.size
  have inv0 : HistAt w1 own { e := some (w.heap.size, []) } hb tp X le lf lm H := HistAt.iterE (it := {}) h r3 (Nat.le_refl _) r2
  refine range_loop (fun (seen : List Ent) l _ w2 => Eff (fun b => ∃ t, own b = some t) w w2 ∧ ∃ (own' : HOwner) (lm' : List (Int × Mark)) (E' : List (Ent × List Int)) (M' : List (Int × Mark)), (∀ b, b < w1.heap.size → own' b = own b) ∧ HistAt w2 own' { e := some (w.heap.size, seen) } hb tp X l lf lm' { H with entries := E', marks := M' } ∧ w1.heap.size ≤ w2.heap.size ∧
      (∀ k : Ent, aget E' k = afterE H.entries seen k) ∧
      (∀ n, aget M' n = if n ≠ 0 ∧ ∃ e ∈ seen, lastE H.entries e = n then some (true, true, linksE H.entries n == 1) else aget H.marks n)) r2
    ⟨r3.up, own, lm, H.entries, H.marks, fun _ _ => rfl, inv0, Nat.le_refl _, fun k => (afterE_out (by simp)).symm, fun n => by simp⟩ ?_ ?_
  · rintro seen l _ w2 hi ⟨E2, own', lm', E', M', ho, hH, hs2, hE', hM'⟩ hall
    have hkeys : ∀ k, k ∈ H.entries.map (·.1) → k ∈ seen := fun k hk => by
      have : k ∈ E'.map (·.1) := by
        obtain ⟨v, hv⟩ := aget_key hk
        have h1 := congrArg (Option.map lastI) (hE' k)
        rw [afterE_last, hv] at h1
        cases hk' : aget E' k with
        | none => rw [hk'] at h1; cases h1
        | some u => exact key_of_aget hk'
      obtain ⟨p, hp, rfl⟩ := List.mem_map.1 ((hH.ent.keys_perm.mem_iff).2 this)
      exact hall p hp
    refine fin own' l lm' w2 E2 (fun b hb => ho b (by omega)) ?_
    have := HistAt.doneE (it := {}) hH
    have h2 := this.cong (F' := H.files) (M' := lastAllM H.entries H.marks) (E' := lastAllE H.entries) (fun _ => rfl) hH.fil.nd (fun n => ?_) (lastAllM_nd _ _ _ h.mar.nd) (fun k => ?_) ?_
    · exact h2
    · show aget (lastAllM H.entries H.marks) n = aget M' n
      rw [lastAllM, lastAllM_get, hM']
      have : (n ≠ 0 ∧ ∃ p ∈ H.entries, lastI p.2 = n) ↔ (n ≠ 0 ∧ ∃ e ∈ seen, lastE H.entries e = n) := by
        refine and_congr_right fun hn0 => ⟨fun ⟨p, hp, e⟩ => ⟨p.1, hkeys _ (List.mem_map.2 ⟨p, hp, rfl⟩), ?_⟩, fun ⟨e, _, he2⟩ => ?_⟩
        · have := aget_of_mem (k := p.1) (v := p.2) h.ent.nd hp
          simp [lastE, this, e]
        · cases hx : aget H.entries e with
          | none =>
            simp only [lastE, hx, Option.getD_none, lastI, List.getLastD_nil] at he2
            exact absurd he2.symm hn0
          | some xs => exact ⟨(e, xs), aget_mem hx, by simpa [lastE, hx] using he2⟩
      simp only [this]
    · show aget (lastAllE H.entries) k = aget E' k
      rw [lastAllE, aget_map H.entries fun xs => [lastI xs], hE']
      by_cases hk : k ∈ seen
      · rw [afterE_in hk]
      · rw [afterE_out hk]
        have : aget H.entries k = none := aget_eq_none.2 fun h' => hk (hkeys k h')
        rw [this]; rfl
    · rw [lastAllE, keys_map H.entries fun xs => [lastI xs]]; exact h.ent.nd
  · rintro seen l _ w2 p w3 again hi ⟨E2, own', lm', E', M', ho, hH, hs2, hE', hM'⟩ hp hns hi' hEr hag
    have h3 : HistAt w3 own' { e := some (w.heap.size, p.1 :: seen) } hb tp X l lf lm' { H with entries := E', marks := M' } := HistAt.stepE hH hEr hi'
    have E3 : Eff (fun b => ∃ t, own b = some t) w w3 := E2.fresh hEr (Nat.le_refl _)
    have s3 := hEr.size
    refine newP_at fun b w4 e4 a4 E4 => ?_
    refine stN_all a4 rfl rfl fun w5 a5 E5 => ?_
    have E35 : Eff No w3 w5 := E4.fresh E5 (by omega)
    refine ldA_all p.1 a5 ?_
    have hpe : p.1 ∈ E'.map (·.1) := (hH.ent.keys_perm.mem_iff).1 (List.mem_map.2 ⟨p, hp, rfl⟩)
    have hlink : ∀ n, linksE (aset E' p.1 [lastE E' p.1]) n = linksE H.entries n := fun n => linksE_cong h.ent.nd (nodup_aset hH.ent.nd _ _) (fun k => by
      rw [aget_aset]
      split
      · rename_i e
        subst e
        obtain ⟨v, hv⟩ := aget_key hpe
        have hv' := hE' p.1
        rw [afterE_out hns] at hv'
        rw [← hv', hv]
        simp [lastE, hv, lastI]
      · rw [hE', afterE_last]) n
    have hlast : lastE E' p.1 = lastE H.entries p.1 := by
      have hv' := hE' p.1
      rw [afterE_out hns] at hv'
      simp only [lastE, hv']
    refine last_spec (h3.kept0 E35) (.inr hpe) rfl fun own2 le2 lm2 w6 E6 ho2 hk2 h6 => ?_
    have hkk := hk2 (List.mem_map.2 ⟨p, hp, rfl⟩)
    have s35 := E35.size
    have s6 := E6.size
    have he' : ∀ k, aget (aset E' p.1 [lastE E' p.1]) k = afterE H.entries (p.1 :: seen) k := fun k => by
      rw [aget_aset]
      by_cases e : k = p.1
      · subst e
        rw [if_pos rfl, afterE_in (by simp)]
        obtain ⟨v, hv⟩ := aget_key hpe
        have hv' := hE' p.1
        rw [afterE_out hns, hv] at hv'
        rw [← hv', hlast]
        simp [lastE, ← hv']
      · rw [if_neg e, hE']
        by_cases hk : k ∈ seen
        · rw [afterE_in hk, afterE_in (List.mem_cons_of_mem _ hk)]
        · rw [afterE_out hk, afterE_out fun h => (List.mem_cons.1 h).elim e hk]
    have E06 : Eff (fun b => ∃ t, own b = some t) w w6 := (E3.thenNo E35).comp E6 fun b hb hs => by
      have hob : own' b = own b := ho b (by omega)
      rw [hob] at hs
      rcases hs with hs | hs | hs <;> exact ⟨_, hs⟩
    have hown : ∀ b, b < w1.heap.size → own2 b = own b := fun b hb => (ho2 b (by omega)).trans (ho b hb)
    by_cases hz : lastE E' p.1 = 0
    · have hL : lastH { H with entries := E', marks := M' } p.1 = { H with entries := aset E' p.1 [lastE E' p.1], marks := M' } := by
        rw [lastH, if_pos hz]
      rw [hL] at h6
      refine hag le2 () w6 hkk h6.ent.map ⟨E06, own2, lm2, _, M', hown, h6, by omega, he', fun n => ?_⟩
      rw [hM']
      have : (n ≠ 0 ∧ ∃ e ∈ seen, lastE H.entries e = n) ↔ (n ≠ 0 ∧ ∃ e ∈ p.1 :: seen, lastE H.entries e = n) := by
        refine and_congr_right fun hn0 => ⟨fun ⟨e, he, h'⟩ => ⟨e, List.mem_cons_of_mem _ he, h'⟩, fun ⟨e, he, h'⟩ => ?_⟩
        rcases List.mem_cons.1 he with rfl | he
        · rw [← hlast, hz] at h'; exact absurd h'.symm hn0
        · exact ⟨e, he, h'⟩
      simp only [this]
    · have hL : lastH { H with entries := E', marks := M' } p.1 = { H with entries := aset E' p.1 [lastE E' p.1], marks := aset M' (lastE E' p.1) (true, true, linksE (aset E' p.1 [lastE E' p.1]) (lastE E' p.1) == 1) } := by
        rw [lastH, if_neg hz]
      rw [hL] at h6
      refine hag le2 () w6 hkk h6.ent.map ⟨E06, own2, lm2, _, _, hown, h6, by omega, he', fun n => ?_⟩
      rw [aget_aset, hlink]
      by_cases hn : n = lastE E' p.1
      · subst hn
        rw [if_pos rfl, if_pos ⟨hz, p.1, by simp, hlast.symm⟩]
      · rw [if_neg hn, hM']
        have : (n ≠ 0 ∧ ∃ e ∈ seen, lastE H.entries e = n) ↔ (n ≠ 0 ∧ ∃ e ∈ p.1 :: seen, lastE H.entries e = n) := by
          refine and_congr_right fun hn0 => ⟨fun ⟨e, he, h'⟩ => ⟨e, List.mem_cons_of_mem _ he, h'⟩, fun ⟨e, he, h'⟩ => ?_⟩
          rcases List.mem_cons.1 he with rfl | he
          · rw [← hlast] at h'; exact absurd h'.symm hn
          · exact ⟨e, he, h'⟩
        simp only [this]

end
end Go.Proofs.YtcpoglgnkedpaaaGreatDoor

/-
  table: at, Get; tree: Open, code, walk.
-/
namespace Go.Proofs.YtcpoglgnkedpaaaGreatDoor
open Go Go.Vc Go.Proofs

theorem fd_cell : ∀ (l : List SlotV) (i j : Nat), j < 4 → (fdCells l)[i * 4 + j]? = (l[i]?).bind fun s => (slotCells s)[j]?
  | [], i, j, _ => by simp [fdCells]
  | s :: l, 0, j, hj => by
    simp only [fdCells, List.flatMap_cons, Nat.zero_mul, Nat.zero_add, List.getElem?_cons_zero, Option.bind_some]
    rw [List.getElem?_append_left (by simpa [slotCells] using hj)]
  | s :: l, i + 1, j, hj => by
    simp only [fdCells, List.flatMap_cons, List.getElem?_cons_succ]
    rw [List.getElem?_append_right (by simp [slotCells]; omega)]
    have e : (i + 1) * 4 + j - (slotCells s).length = i * 4 + j := by simp [slotCells]; omega
    rw [e]
    exact fd_cell l i j hj

/-- An open descriptor. -/
def slotOf (fds : List SlotV) (fd : Int) : Option SlotV :=
  if fd < 0 ∨ fd ≥ 16 then none else match fds[fd.toNat]? with
    | some s => if s.2.2.2 = true then some s else none
    | none => none

section
variable {w : World} {own : Owner} {tb : Nat} {X : TreeX} {T : TreeV}

theorem at_spec {fb : Nat} {fds : List SlotV} {fd : Int} {K : Tup [.one .ptr, .one (.int .i64)] → World → Prop} (h : At w fb (.cells (fdCells fds).toArray 145 (0, 0))) (hL : fds.length = 16)
    (k1 : slotOf fds fd = none → K (none, 10) w) (k2 : ∀ s, slotOf fds fd = some s → 0 ≤ fd → fd < 16 → fds[fd.toNat]? = some s → s.2.2.2 = true → K (some ⟨fb, fd.toNat * 4, none⟩, 0) w) : table_Table_at_173 (some ⟨fb, 0, none⟩) fd w K := by
  refine table_Table_at_173_of _ _ w K ?_
  unfold F173
  refine cnd_f rfl ?_
  refine ⟨fun b w' => w' = w ∧ b = (slotOf fds fd).isNone, ?_, ?_⟩
  · refine cnd_intro (fun h1 => ?_) (fun h1 => ?_)
    · refine ⟨rfl, ?_⟩
      rw [slotOf, if_pos (.inl (of_decide_eq_true h1))]; rfl
    · refine cnd_intro (fun h2 => ?_) (fun h2 => ?_)
      · refine ⟨rfl, ?_⟩
        rw [slotOf, if_pos (.inr (of_decide_eq_true h2))]; rfl
      · have h1' := of_decide_eq_false h1
        have h2' := of_decide_eq_false h2
        obtain ⟨s, hs⟩ : ∃ s, fds[fd.toNat]? = some s := ⟨fds[fd.toNat]'(by omega), by simp⟩
        show idxP fd 16 _
        refine ⟨by omega, by omega, ?_⟩
        rw [addr_add, addr_add]
        refine ldP_at s.2.2.2 h ?_ ?_
        · rw [Nat.zero_add]
          simp only [List.getElem?_toArray]
          rw [fd_cell _ _ _ (by omega), hs]
          rfl
        · refine ⟨rfl, ?_⟩
          rw [slotOf, if_neg (by omega), hs]
          cases h3 : s.2.2.2 <;> simp [h3]
  · rintro b w' ⟨rfl, rfl⟩
    cases hs : slotOf fds fd with
    | none => exact cnd_t rfl (k1 hs)
    | some s =>
      refine cnd_f rfl ?_
      have hs' := hs
      unfold slotOf at hs'
      split at hs'
      · cases hs'
      · rename_i hc
        split at hs'
        · rename_i s0 h0
          split at hs'
          · rename_i h3
            cases hs'
            show idxP fd 16 _
            refine ⟨by omega, by omega, ?_⟩
            rw [addr_add, Nat.zero_add]
            exact k2 s hs (by omega) (by omega) h0 h3
          · cases hs'
        · cases hs'

theorem Get_spec {fb : Nat} {fds : List SlotV} {fd : Int} {K : Tup [.agg [.int .i64, .int .i64, .int .i64], .one (.int .i64)] → World → Prop} (h : At w fb (.cells (fdCells fds).toArray 145 (0, 0))) (hL : fds.length = 16)
    (k1 : slotOf fds fd = none → ∀ w', Eff No w w' → K ((0, 0, 0), 10) w') (k2 : ∀ s, slotOf fds fd = some s → ∀ w', Eff No w w' → K ((s.1, s.2.1, s.2.2.1), 0) w') : table_Table_Get_146 (some ⟨fb, 0, none⟩) fd w K := by
  refine table_Table_Get_146_of _ _ w K ?_
  unfold F146
  refine newP_at fun b1 w2 e1 a1 E1 => ?_
  have h2 := E1.at0 h
  refine at_spec h2 hL (fun hn => ?_) (fun s hs h0 h16 hg ho => ?_)
  · refine cnd_t rfl ?_
    refine stN_all a1 rfl rfl fun w5 a5 E5 => ?_
    refine ldA_all (0, 0, 0) a5 ?_
    exact k1 hn _ (E1.fresh E5 (by omega))
  · refine cnd_f rfl ?_
    refine ldA_at (s.1, s.2.1, s.2.2.1) h2 (fun i v hv => ?_) ?_
    · rw [List.getElem?_toArray, fd_cell _ _ _ (by
        have := (List.getElem?_eq_some_iff.1 hv).1
        simp [Carr.cells] at this; omega), hg]
      match i, hv with
      | 0, hv => exact hv
      | 1, hv => exact hv
      | 2, hv => exact hv
      | i + 3, hv => simp [Carr.cells] at hv
    refine stN_all a1 rfl rfl fun w5 a5 E5 => ?_
    refine ldA_all (s.1, s.2.1, s.2.2.1) a5 ?_
    exact k2 s hs _ (E1.fresh E5 (by omega))

/-- What 'Open' tells. -/
def openV (T : TreeV) (fd : Int) : Int × Int × Bool :=
  match slotOf T.fds fd with
  | some s => (s.1, s.2.2.1, true)
  | none => (0, 0, false)

theorem Open_spec {fd : Int} {K : Tup [.one (.int .i64), .one (.int .i64), .one .bool] → World → Prop} (h : TreeAt w own tb X T) (k : ∀ w', Eff No w w' → K (openV T fd) w') : tree_Tree_Open_92 (some ⟨tb, 0, none⟩) fd w K := by
  refine tree_Tree_Open_92_of _ _ w K ?_
  unfold F92
  refine cnd_f rfl ?_
  refine ldP_at (some ⟨X.fb, 0, none⟩) h.top rfl ?_
  have fin : ∀ (s : Int × Int × Int) (c : Int) w4, Eff No w w4 → (s.1, s.2.2, c == 0) = openV T fd → newP (.cells #[.int .i64 0, .int .i64 0, .int .i64 0] 140) w4 fun b5 w6 =>
      stN ⟨b5, 0, none⟩ [.int .i64 s.1, .int .i64 s.2.1, .int .i64 s.2.2] w6 fun w7 =>
      ldP (.int .i64) ⟨b5, 0, none⟩ w7.drew fun x8 =>
      ldP (.int .i64) ⟨b5, 2, none⟩ w7.drew fun x9 =>
      K (x8, x9, (c == 0)) w7.drew := by
    intro s c w4 E4 hs
    refine newP_at fun b5 w6 e5 a5 E5 => ?_
    refine stN_all a5 rfl rfl fun w7 a7 E7 => ?_
    refine ldP_at s.1 a7.drew rfl ?_
    refine ldP_at s.2.2 a7.drew rfl ?_
    rw [hs]
    exact k _ ((E4.trans E5).fresh E7 (by have := E4.size; omega)).thenDrew
  refine Get_spec h.fds h.fdsL (fun hn w4 E4 => ?_) (fun s hs w4 E4 => ?_)
  · exact fin (0, 0, 0) 10 w4 E4 (by rw [openV, hn]; rfl)
  · exact fin (s.1, s.2.1, s.2.2.1) 0 w4 E4 (by rw [openV, hs]; rfl)

theorem code_spec {e : Int} {K : Tup [.agg [.int .i64, .int .i64, .int .i64, .int .i64, .slice, .slice]] → World → Prop} (k : ∀ w', Eff No w w' → K (e, 0, 0, 0, ⟨none, 0, 0⟩, ⟨none, 0, 0⟩) w') : tree_code_70 e w K := by
  refine tree_code_70_of _ w K ?_
  unfold F70
  refine newP_at fun b1 w2 e1 a1 E1 => ?_
  refine stN_all a1 rfl rfl fun w3 a3 E3 => ?_
  refine ldA_all (e, 0, 0, 0, ⟨none, 0, 0⟩, ⟨none, 0, 0⟩) a3 ?_
  exact k _ (E1.fresh E3 (by omega))

/-! ### walk -/

abbrev Spot := Int × Int × Str
def noSpot : Spot := (0, 0, ⟨#[]⟩)
def dotdot : Str := ⟨#[46, 46]⟩

/-- Where parts lead: over directories, no '..', no link. -/
def walkV (T : TreeV) : Spot → List Str → Option (Spot × Int)
  | s, [] => some (s, 0)
  | s, p :: ps => match aget T.nodes s.1 with
    | none => none
    | some x => if x.kind ≠ 2 then some (noSpot, 7) else if p = dotdot then none else match aget x.names p with
      | none => some (noSpot, 5)
      | some c => match aget T.nodes c with
        | none => none
        | some y => if y.kind = 3 then none else walkV T (c, s.1, p) ps

theorem bytes_beq (a b : ByteArray) : (a.toList == b.toList) = decide (a = b) := by
  rw [Bool.eq_iff_iff]
  simp only [beq_iff_eq, decide_eq_true_eq]
  rw [ByteArray.toList_eq, ByteArray.toList_eq]
  constructor
  · intro h
    exact ByteArray.ext (Array.ext' h)
  · intro h; rw [h]

end
end Go.Proofs.YtcpoglgnkedpaaaGreatDoor

/-
  may: all files firm; lasts.
-/
namespace Go.Proofs.YtcpoglgnkedpaaaGreatDoor
open Go Go.Vc Go.Proofs

def firmAllF (F : List (Int × FileV)) : List (Int × FileV) := F.map fun p => (p.1, firmF p.2)

noncomputable def afterF (F : List (Int × FileV)) (seen : List Int) (k : Int) : Option FileV := @ite _ (k ∈ seen) (Classical.propDecidable _) ((aget F k).map firmF) (aget F k)
theorem afterF_in {F : List (Int × FileV)} {seen : List Int} {k : Int} (h : k ∈ seen) : afterF F seen k = (aget F k).map firmF := if_pos h
theorem afterF_out {F : List (Int × FileV)} {seen : List Int} {k : Int} (h : k ∉ seen) : afterF F seen k = aget F k := if_neg h

section
variable {w : World} {own : HOwner} {hb : Nat} {tp : Option Addr} {X : HistX} {le : List (Ent × Sl)} {lf : List (Int × Option Addr)} {lm : List (Int × Mark)} {H : HistV}

/-- The loop 'for n := range h.files { h.firm(n) }', whatever stands behind it. -/
theorem firmAll_loop {ty : TypeId} {D : World → Prop} (h : HistAt w own {} hb tp X le lf lm H)
    (fin : ∀ w1, Eff (fun b => ∃ t, own b = some t) w w1 → HistAt w1 own {} hb tp X le lf lm { H with files := firmAllF H.files } → D w1) :
    runP Tryz.prog (Instr.range 70 (.map (some X.fb))) [.one .ptr] w fun c w1 => loopP (σ := Tup []) (fun again _ w => nextP Tryz.prog (Instr.next (.pointer c) false ty) [iT, pT] w (fun w => D w) (fun _ w => rdP Tryz.prog (Instr.entry (.pointer c)) [iT, pT] w fun c =>
      may_History_firm_60 (some ⟨hb, 0, none⟩) c.1 w fun _ w3 => again () w3)) () w1 := by
  obtain ⟨w1, r1, r2, r3⟩ := range_start (P := Tryz.prog) (kty := iT) (vty := pT) und70 h.fil.map
  refine ⟨_, w1, r1, ?_⟩
  have hown : own w.heap.size = none := by
    cases hh : own w.heap.size with
    | none => rfl
    | some t => have := h.lt _ _ hh; omega
  refine range_loop (fun (seen : List Int) l _ w2 => l = lf ∧ Eff (fun b => ∃ t, own b = some t) w w2 ∧ ∃ F' : List (Int × FileV), HistAt w2 own {} hb tp X le lf lm { H with files := F' } ∧ ∀ k : Int, aget F' k = afterF H.files seen k) r2
    ⟨rfl, r3.up, H.files, h.kept0 r3, fun k => (afterF_out (by simp)).symm⟩ ?_ ?_
  · rintro seen l _ w2 hi ⟨rfl, E2, F', hH, hF⟩ hall
    refine fin w2 E2 ?_
    have hk : ∀ k, k ∈ H.files.map (·.1) → k ∈ seen := fun k hk => by
      obtain ⟨f, hf⟩ := aget_key hk
      obtain ⟨_, _, _, _, hl, _⟩ := h.fil.som k f hf
      exact hall (k, _) (aget_mem hl)
    refine hH.cong (F' := firmAllF H.files) (M' := H.marks) (E' := H.entries) (fun k => ?_) (by rw [firmAllF, keys_map H.files firmF]; exact h.fil.nd) (fun _ => rfl) h.mar.nd (fun _ => rfl) h.ent.nd
    show aget (firmAllF H.files) k = aget F' k
    rw [firmAllF, aget_map H.files firmF, hF]
    by_cases hks : k ∈ seen
    · rw [afterF_in hks]
    · rw [afterF_out hks, aget_eq_none.2 fun h' => hks (hk k h')]; rfl
  · rintro seen l _ w2 p w3 again hi ⟨rfl, E2, F', hH, hF⟩ hp hns hi' hEr hag
    have h3 : HistAt w3 own {} hb tp X le l lm { H with files := F' } := hH.kept hEr (fun b t hb' e => by have e' : b = w.heap.size := e; rw [e', hown] at hb'; cases hb') (fun p hp => by cases hp) (fun p hp => by cases hp)
    have E3 := E2.fresh hEr (Nat.le_refl _)
    have hlp := aget_of_mem (k := p.1) (v := p.2) (h.fil.map.nodup keyI) hp
    obtain ⟨f, hf⟩ : ∃ f, aget H.files p.1 = some f := by
      cases hh : aget H.files p.1 with
      | none => rw [h.fil.non p.1 hh] at hlp; cases hlp
      | some f => exact ⟨f, rfl⟩
    have hf' : aget F' p.1 = some f := by rw [hF, afterF_out hns]; exact hf
    refine firm_spec h3 hf' fun w4 E4 h4 => ?_
    have hS : ¬ (own w.heap.size = some (.file p.1) ∨ own w.heap.size = some (.blocks p.1)) := by rw [hown]; simp
    refine hag l () w4 rfl (IterAt.kept hi' E4 hS ?_) ⟨rfl, E3.comp E4 fun b _ hs => ?_, _, h4, fun k => ?_⟩
    · rw [h.fil.o]; simp
    · rcases hs with hs | hs <;> exact ⟨_, hs⟩
    · rw [aget_aset]
      by_cases e : k = p.1
      · subst e
        rw [if_pos rfl, afterF_in (by simp), hf]; rfl
      · rw [if_neg e, hF]
        by_cases hk : k ∈ seen
        · rw [afterF_in hk, afterF_in (List.mem_cons_of_mem _ hk)]
        · rw [afterF_out hk, afterF_out fun h => (List.mem_cons.1 h).elim e hk]

/-- Behind a sync. -/
def syncH (H : HistV) : HistV := { H with files := firmAllF H.files, marks := lastAllM H.entries H.marks, entries := lastAllE H.entries }

abbrev OpC' := Carr [.int .i64, .int .i64, .int .i64, .int .i64, .int .i64, .str, .str, .slice]

theorem lasts_sync_spec {ownT : Owner} {tb : Nat} {XT : TreeX} {T : TreeV} {o : OpC'} {K : Tup [] → World → Prop} (h : HistAt w own {} hb (some ⟨tb, 0, none⟩) X le lf lm H) (hT : TreeAt w ownT tb XT T) (ho : o.1 = 21)
    (k : ∀ own' le' lm' w', Eff (fun b => ∃ t, own b = some t) w w' → (∀ b, b < w.heap.size → own' b = own b) → HistAt w' own' {} hb (some ⟨tb, 0, none⟩) X le' lf lm' (syncH H) → K () w') : may_History_lasts_36 (some ⟨hb, 0, none⟩) o w K := by
  refine may_History_lasts_36_of _ _ w K ?_
  unfold F36
  refine newP_at fun b1 w2 e1 a1 E1 => ?_
  have E2 := E1.thenDrew
  refine onSome_some ?_
  refine ldP_at (some ⟨tb, 0, none⟩) (h.kept0 E2).top rfl ?_
  refine ldP_at o.2.1 a1.drew rfl ?_
  refine Open_spec (hT.kept0 E2) fun w7 E7 => ?_
  refine ldP_at o.1 (E7.at0 a1.drew) rfl ?_
  refine cnd_t (by rw [ho]; rfl) ?_
  have E07 := E2.trans E7
  have h7 := h.kept0 E07
  refine onSome_some ?_
  refine ldP_at (some X.eb) h7.top rfl ?_
  refine lastAll_loop h7 fun own' le' lm' w1 E1' ho' h1 => ?_
  refine onSome_some ?_
  refine ldP_at (some X.fb) h1.top rfl ?_
  refine firmAll_loop h1 fun w3 E3 h3 => ?_
  have s7 := E07.size
  refine k own' le' lm' w3 ((E07.up.trans E1').comp E3 fun b hb' hs => ?_) (fun b hb' => ho' b (by omega)) h3
  obtain ⟨t, ht⟩ := hs
  rw [ho' b (by omega)] at ht
  exact ⟨t, ht⟩

/-- What makes nothing last. -/
theorem lasts_none_spec {ownT : Owner} {tb : Nat} {XT : TreeX} {T : TreeV} {o : OpC'} {K : Tup [] → World → Prop} (h : HistAt w own {} hb (some ⟨tb, 0, none⟩) X le lf lm H) (hT : TreeAt w ownT tb XT T) (h21 : o.1 ≠ 21) (h4 : o.1 ≠ 4) (h6 : o.1 ≠ 6) (h20 : o.1 ≠ 20) (h19 : o.1 ≠ 19)
    (k : ∀ w', Eff No w w' → K () w') : may_History_lasts_36 (some ⟨hb, 0, none⟩) o w K := by
  refine may_History_lasts_36_of _ _ w K ?_
  unfold F36
  refine newP_at fun b1 w2 e1 a1 E1 => ?_
  have E2 := E1.thenDrew
  refine onSome_some ?_
  refine ldP_at (some ⟨tb, 0, none⟩) (h.kept0 E2).top rfl ?_
  refine ldP_at o.2.1 a1.drew rfl ?_
  refine Open_spec (hT.kept0 E2) fun w7 E7 => ?_
  refine ldP_at o.1 (E7.at0 a1.drew) rfl ?_
  refine cnd_f (by simpa using h21) ?_
  refine ⟨fun b w' => w7 = w' ∧ b = false, ?_, ?_⟩
  · exact cnd_f (by simpa using h4) ⟨rfl, by simpa using h6⟩
  · rintro b w' ⟨rfl, rfl⟩
    refine cnd_f rfl ?_
    refine cnd_f (by simpa using h20) ?_
    refine cnd_f (by simpa using h19) ?_
    exact k _ (E2.trans E7)

end
end Go.Proofs.YtcpoglgnkedpaaaGreatDoor

/-
  tree: add, make.
-/
namespace Go.Proofs.YtcpoglgnkedpaaaGreatDoor
open Go Go.Vc Go.Proofs

theorem lenMap {P : Program} {α β : Type} [DecidableEq α] {kf : α → Value} {vf : β → Value} {w : World} {b : Nat} {l : List (α × β)} {t kt et ty : TypeId} (K : KeyT P kt kf) (ht : P.underlying t = some (.map kt et)) (h : MapF kf vf w b l) :
    (Builtin.len_ #[t] ty #[.map (some b)]).run P w = .ok (.int .i64 (l.length : Int)) w := by
  obtain ⟨hn, l0, ⟨es, c, h1, h2, h3⟩, hl⟩ := h
  have hn0 := h3.nodup K h2.2.2
  have e1 : es.size = l.length := by
    have := congrArg List.length h3
    simp only [List.length_map, Array.length_toList] at this
    rw [this]
    exact (perm_of_aget hn0 hn hl).length_eq
  simp [Builtin.len_, run_underlying ht, MapKept.run_getObj_map h1, Result.andThen, e1]
  rfl

section
variable {w w' : World} {own : Owner} {n : Int} {nb tb : Nat} {ds ws : Sl} {m : Option Nat} {v v' : NodeV} {X : TreeX} {T : TreeV} {S : Nat → Prop}

theorem NodeAt.ne_tag {b c : Nat} {s t : TTag} (h1 : own b = some s) (h2 : own c = some t) (h : s ≠ t) : b ≠ c := fun e => h (Option.some.inj (h1.symm.trans ((congrArg own e).trans h2)))

/-- A node's numbers are written. -/
theorem NodeAt.reCells (h : NodeAt w own n nb ds ws m v) (most links above : Int) (hE : Eff (fun b => b = nb) w w')
    (hc : At w' nb (.cells #[.int .i64 v.kind, ds.v, ws.v, .map m, .int .i64 most, .int .i64 links, .int .i64 above] 126 (0, 0))) : NodeAt w' own n nb ds ws m { v with most := most, links := links, above := above } where
  cells := hc
  o := h.o
  row := h.row.kept hE fun b hb => NodeAt.ne_tag (h.rowO b hb) h.o (by simp)
  rowO := h.rowO
  wrow := h.wrow.kept hE fun b hb => NodeAt.ne_tag (h.wrowO b hb) h.o (by simp)
  wrowO := h.wrowO
  nm := h.nm.kept hE fun b hb => NodeAt.ne_tag (h.nmO b hb) h.o (by simp)
  nmO := h.nmO
  dir := h.dir
  dl := h.dl

/-- A node's names are written. -/
theorem NodeAt.reNames {b : Nat} (h : NodeAt w own n nb ds ws (some b) v) (hE : Eff (fun c => c = b) w w') {names' : List (Str × Int)} (hm : MapF sT.mk iT.mk w' b names') : NodeAt w' own n nb ds ws (some b) { v with names := names' } where
  cells := hE.at h.cells (NodeAt.ne_tag h.o (h.nmO b rfl) (by simp))
  o := h.o
  row := h.row.kept hE fun c hc => NodeAt.ne_tag (h.rowO c hc) (h.nmO b rfl) (by simp)
  rowO := h.rowO
  wrow := h.wrow.kept hE fun c hc => NodeAt.ne_tag (h.wrowO c hc) (h.nmO b rfl) (by simp)
  wrowO := h.wrowO
  nm := hm.o
  nmO := h.nmO
  dir := h.dir
  dl := h.dl

/-- What 'add' makes of the directory, and of the node. -/
def addDir (d : NodeV) (name : Str) (n : Int) : NodeV := { d with names := aset d.names name n, most := maxI d.most ((aset d.names name n).length : Int) }
def addNode (x : NodeV) (dir : Int) : NodeV := if x.kind = 2 then { x with above := dir, links := 1 } else { x with links := w64 (x.links + 1) }
def addV (T : TreeV) (dir : Int) (name : Str) (n : Int) (d x : NodeV) : TreeV := { T with nodes := aset (aset T.nodes dir (addDir d name n)) n (addNode x dir) }

theorem add_spec {dir : Int} {name : Str} {d x : NodeV} {K : Tup [] → World → Prop} (h : TreeAt w own tb X T) (hd : aget T.nodes dir = some d) (hk : d.kind = 2) (hx : aget T.nodes n = some x) (hne : dir ≠ n)
    (k : ∀ w', Eff (fun b => ∃ t, own b = some t) w w' → TreeAt w' own tb X (addV T dir name n d x) → K () w') : tree_Tree_add_137 (some ⟨tb, 0, none⟩) dir name n w K := by
  refine tree_Tree_add_137_of _ _ _ _ w K ?_
  unfold F137
  have hD := h.kept0 (Eff.drew w)
  refine ldP_at (some X.mb) hD.top rfl ?_
  obtain ⟨nb, ds, ws, m, l1, nA, l2⟩ := hD.look hd
  refine ⟨_, l1, ?_⟩
  refine ldP_at (some X.mb) hD.top rfl ?_
  obtain ⟨nb2, ds2, ws2, m2, l3, nA2, l4⟩ := hD.look hx
  refine ⟨_, l3, ?_⟩
  obtain ⟨b, rfl⟩ := nA.dir hk
  refine ldP_at (some b) nA.cells rfl ?_
  obtain ⟨w9, r1, r2, r3⟩ := MapF.put keyS und66 nA.nm.f name n
  refine ⟨w9, r1, ?_⟩
  have n9 := nA.reNames r3 r2
  refine ldP_at d.most n9.cells rfl ?_
  refine ldP_at (some b) n9.cells rfl ?_
  refine ⟨((aset d.names name n).length : Int), lenMap (ty := 3) keyS und66 (r2.kept0 (Eff.drew w9)), ?_⟩
  refine onSome_some ?_
  have n9' := n9.kept (own' := own) (Eff.drew w9) (fun _ _ => rfl) fun _ _ _ _ h => h
  refine stP_at (i := 4) n9'.cells (by simp) rfl fun w16 a16 E16 => ?_
  have n16 := n9'.reCells (maxI d.most ((aset d.names name n).length : Int)) d.links d.above E16 a16
  have E09 : Eff (fun c => c = b ∨ c = nb) w w16 := ((Eff.drew w).up.comp r3 fun c _ e => .inl e).thenDrew.comp E16 fun c _ e => .inr e
  have T16 : TreeAt w16 own tb X { T with nodes := aset T.nodes dir (addDir d name n) } := h.setNode l2 E09 (fun c t hc hs => by
    rcases hs with rfl | rfl
    · rw [nA.nmO c rfl] at hc; cases hc; rfl
    · rw [nA.o] at hc; cases hc; rfl) (fun _ _ => rfl) (fun c t hc => Nat.lt_of_lt_of_le (h.lt c t hc) E09.size) n16
  have hx16 : aget (aset T.nodes dir (addDir d name n)) n = some x := by rw [aget_aset, if_neg (Ne.symm hne)]; exact hx
  obtain ⟨nb3, ds3, ws3, m3, l5, nA3, l6⟩ := T16.look hx16
  have e3 : nb3 = nb2 := by
    rw [l4] at l6
    cases l6
    rfl
  subst e3
  refine ldP_at x.links nA3.cells rfl ?_
  refine onSome_some ?_
  refine stP_at (i := 5) nA3.cells (by simp) rfl fun w20 a20 E20 => ?_
  refine ldP_at x.kind a20 rfl ?_
  have hE1 : Eff (fun c => ∃ t, own c = some t) w w16 := E09.mono fun c _ hs => by
    rcases hs with rfl | rfl
    · exact ⟨_, nA.nmO c rfl⟩
    · exact ⟨_, nA.o⟩
  have fin : ∀ w', Eff (fun c => c = nb3) w16 w' → NodeAt w' own n nb3 ds3 ws3 m3 (addNode x dir) → K () w' := by
    intro w' E' n'
    refine k w' (hE1.comp E' fun c _ e => ⟨.node n, by rw [e]; exact nA3.o⟩) ?_
    exact T16.setNode l6 E' (fun c t hc e => by rw [e, nA3.o] at hc; cases hc; rfl) (fun _ _ => rfl) (fun c t hc => Nat.lt_of_lt_of_le (T16.lt c t hc) E'.size) n'
  refine cnd_intro (fun h2 => ?_) (fun h2 => ?_)
  · have h2' : x.kind = 2 := by simpa using h2
    refine onSome_some ?_
    refine stP_at (i := 6) a20 (by simp) rfl fun w24 a24 E24 => ?_
    refine onSome_some ?_
    refine stP_at (i := 5) a24 (by simp) rfl fun w26 a26 E26 => ?_
    have n26 := nA3.reCells x.most 1 dir ((E20.trans E24).trans E26) a26
    refine fin w26 ((E20.trans E24).trans E26) ?_
    rw [addNode, if_pos h2']
    exact n26
  · have h2' : ¬ x.kind = 2 := by simpa using h2
    have n20 := nA3.reCells x.most (w64 (x.links + 1)) x.above E20 a20
    refine fin w20 E20 ?_
    rw [addNode, if_neg h2']
    exact n20

end
end Go.Proofs.YtcpoglgnkedpaaaGreatDoor

/-
  slices.Clone, maps.Clone.
-/
namespace Go.Proofs.YtcpoglgnkedpaaaGreatDoor
open Go Go.Vc Go.Proofs

theorem slBytes : SlT Tryz.prog 22 5 1 1 where
  und := by kernel_rfl
  info := by
    obtain ⟨i, h1, h2, h3, h4⟩ := ti5_ok.info
    exact ⟨i, _, h1, h4, h2, h3, rfl⟩

theorem slBools : SlT Tryz.prog 84 4 1 1 where
  und := by kernel_rfl
  info := by
    obtain ⟨i, h1, h2, h3, h4⟩ := ti4_ok.info
    exact ⟨i, _, h1, h4, h2, h3, rfl⟩

section
variable {w : World}

theorem Clone67_spec {s : Sl} {cs : List Value} {K : Sl → World → Prop} (h : RowAt w 5 1 s cs) (h1 : ∀ u ∈ cs, u.oneCell' = true) (hl : cs.length ≤ 1000000)
    (k : ∀ r w', Eff No w w' → RowAt w' 5 1 r cs → (∀ b, r.blk = some b → w.heap.size ≤ b) → K r w') : slices_Clone_67 s w K := by
  refine slices_Clone_67_of _ w K ?_
  unfold F67
  have hlen := h.len1
  refine cnd_intro (fun hn => ?_) (fun hn => ?_)
  · have ha : s.a = none := by cases hh : s.a with
      | none => rfl
      | some a => rw [hh] at hn; cases hn
    have hcs : cs = [] := by
      rcases h.2.2 with ⟨_, h2, _⟩ | ⟨g, o, cur, h2, _⟩
      · exact List.eq_nil_of_length_eq_zero (by omega)
      · rw [ha] at h2; cases h2
    subst hcs
    exact k _ w (Eff.refl _ _) RowAt.nil fun b hb => by cases hb
  · refine newP_at fun b1 w2 e1 a1 E1 => ?_
    have r2 := h.kept0 E1
    have r1 : RowAt w2 5 1 ⟨some ⟨b1, 0, none⟩, 0, 0⟩ [] := RowAt.new (vs := []) a1 rfl
    obtain ⟨s', w4, q1, q2, q3, q4, q5⟩ := append_row (ty := 22) slBytes r1 r2 h1 (by simp [maxLen]; omega) (by simp; omega)
    refine ⟨s', w4, q1, k s' w4 (E1.comp q4 fun b hb e => ?_) (by simpa using q2) fun b hb => ?_⟩
    · simp [Sl.blk] at e
      omega
    · rcases q5 with q5 | q5
      · rw [q5] at hb; simp [Sl.blk] at hb; omega
      · rw [q5] at hb; cases hb; have := E1.size; omega

theorem Clone68_spec {s : Sl} {cs : List Value} {K : Sl → World → Prop} (h : RowAt w 4 1 s cs) (h1 : ∀ u ∈ cs, u.oneCell' = true) (hl : cs.length ≤ 1000000)
    (k : ∀ r w', Eff No w w' → RowAt w' 4 1 r cs → (∀ b, r.blk = some b → w.heap.size ≤ b) → K r w') : slices_Clone_68 s w K := by
  refine slices_Clone_68_of _ w K ?_
  unfold F68
  have hlen := h.len1
  refine cnd_intro (fun hn => ?_) (fun hn => ?_)
  · have ha : s.a = none := by cases hh : s.a with
      | none => rfl
      | some a => rw [hh] at hn; cases hn
    have hcs : cs = [] := by
      rcases h.2.2 with ⟨_, h2, _⟩ | ⟨g, o, cur, h2, _⟩
      · exact List.eq_nil_of_length_eq_zero (by omega)
      · rw [ha] at h2; cases h2
    subst hcs
    exact k _ w (Eff.refl _ _) RowAt.nil fun b hb => by cases hb
  · refine newP_at fun b1 w2 e1 a1 E1 => ?_
    have r2 := h.kept0 E1
    have r1 : RowAt w2 4 1 ⟨some ⟨b1, 0, none⟩, 0, 0⟩ [] := RowAt.new (vs := []) a1 rfl
    obtain ⟨s', w4, q1, q2, q3, q4, q5⟩ := append_row (ty := 84) slBools r1 r2 h1 (by simp [maxLen]; omega) (by simp; omega)
    refine ⟨s', w4, q1, k s' w4 (E1.comp q4 fun b hb e => ?_) (by simpa using q2) fun b hb => ?_⟩
    · simp [Sl.blk] at e
      omega
    · rcases q5 with q5 | q5
      · rw [q5] at hb; simp [Sl.blk] at hb; omega
      · rw [q5] at hb; cases hb; have := E1.size; omega

end

section
variable {P : Program} (w : World)
theorem run_equalIn_map_nil (d : Nat) (t k e : TypeId) (p : Option Nat) (h : P.underlying t = some (.map k e)) :
    (Op.equalIn (d + 1) t (.map p) (.map none)).run P w = .ok p.isNone w := by
  cases p <;> simp [Op.equalIn, run_underlying h]
theorem run_eql_map_nil (t k e : TypeId) (p : Option Nat) (h : P.underlying t = some (.map k e)) :
    (binOp .eql t (.map p) (.map none)).run P w = .ok (.bool p.isNone) w := by
  simp only [binOp]
  simp [show Op.equal t (.map p) (.map none) = Op.equalIn (9999 + 1) t (.map p) (.map none) from rfl, run_equalIn_map_nil w 9999 t k e p h]
theorem run_typeAssert_map (t xT k e : TypeId) (v : Value) (h : P.underlying t = some (.map k e)) : (Instr.typeAssert (.iface t v) xT t false).run P w = .ok v w := by
  simp [Instr.typeAssert, run_underlying h, Result.andThen]
theorem run_maps_clone {r : Nat} {es : Array MapEntry} {clock : Nat} (t : TypeId) (hb : w.heap[r]? = some (.map es clock)) :
    (Extern.MapsClone.clone #[.iface t (.map (some r))]).run P w = .ok (.iface t (.map (some w.heap.size))) (w.alloc (.map es clock)) := by
  have e : Extern.MapsClone.clone #[.iface t (.map (some r))] = (getObj r >>= fun o => match o with
      | .map entries clock => (newObj (.map entries clock) >>= fun n => pure (.iface t (.map (some n))))
      | _ => stuck "maps.clone: a map expected") := rfl
  rw [e]
  simp [MapKept.run_getObj_map hb, Result.andThen]
end

set_option maxRecDepth 100000 in
set_option maxHeartbeats 2000000 in
theorem maps_Clone69 (b : Nat) (es : Array MapEntry) (clock : Nat) (w : World) (hb : w.heap[b]? = some (.map es clock)) :
    Calls Tryz.prog 69 #[.map (some b)] w fun e w' => e = .returned (.map (some w.heap.size)) ∧ w' = w.alloc (.map es clock) := by
  have mixed := follows
  have hq := fun w => run_eql_map_nil (P := Tryz.prog) w 66 _ _ (some b) und66
  go_enter Tryz.func69, Tryz.ntmps69
  go_wp2
  rw [run_callFunc_extern Tryz.func128 (by kernel_rfl) (by kernel_rfl) (by kernel_rfl) (e := Extern.MapsClone.clone) (by kernel_rfl), run_maps_clone w 66 hb]
  simp only [Result.andThen]
  rw [Oper.upon_value]
  go_wp2
  rw [run_typeAssert_map _ 66 20 _ _ _ und66]
  simp only [Result.andThen]
  rw [Oper.upon_value]
  go_wp2
  go_ret
  exact ⟨rfl, rfl⟩

set_option maxRecDepth 100000 in
set_option maxHeartbeats 2000000 in
theorem maps_Clone69_nil (w : World) : Calls Tryz.prog 69 #[.map none] w fun e w' => e = .returned (.map none) ∧ w' = w := by
  have mixed := follows
  have hq := fun w => run_eql_map_nil (P := Tryz.prog) w 66 _ _ none und66
  go_enter Tryz.func69, Tryz.ntmps69
  go_wp2
  go_ret
  exact ⟨rfl, rfl⟩

theorem MapsClone_spec {w : World} {m : Option Nat} {l : List (Str × Int)} {K : Option Nat → World → Prop} (h : MapO sT.mk iT.mk w m l)
    (k : ∀ m' w', Eff No w w' → MapO sT.mk iT.mk w' m' l → (∀ b, m' = some b → w.heap.size ≤ b) → ((∃ b, m = some b) → ∃ b, m' = some b) → K m' w') : maps_Clone_69 m w K := by
  rcases h with ⟨rfl, rfl⟩ | ⟨b, rfl, hn, l0, ⟨es, c, h1, h2, h3⟩, hl⟩
  · refine .inl ⟨⟨_, Tryz.func69, by kernel_rfl, by kernel_rfl⟩, (maps_Clone69_nil w).mono fun e w' he => ⟨none, he.1, ?_⟩⟩
    rw [he.2]
    exact k none w (Eff.refl _ _) (.inl ⟨rfl, rfl⟩) (fun b hb => by cases hb) fun ⟨b, hb⟩ => by cases hb
  · refine .inl ⟨⟨_, Tryz.func69, by kernel_rfl, by kernel_rfl⟩, (maps_Clone69 b es c w h1).mono fun e w' he => ⟨some w.heap.size, he.1, ?_⟩⟩
    rw [he.2]
    refine k (some w.heap.size) _ (Eff.alloc w _) (.inr ⟨_, rfl, hn, l0, ⟨es, c, ?_, h2, h3⟩, hl⟩) (fun b hb => by cases hb; exact Nat.le_refl _) fun _ => ⟨_, rfl⟩
    show (w.heap.push _)[w.heap.size]? = _
    simp

end Go.Proofs.YtcpoglgnkedpaaaGreatDoor

/-
  tree: Copy.
-/
namespace Go.Proofs.YtcpoglgnkedpaaaGreatDoor
open Go Go.Vc Go.Proofs

theorem fdCells_length (l : List SlotV) : (fdCells l).length = 4 * l.length := by
  induction l with
  | nil => rfl
  | cons s l ih =>
    have : fdCells (s :: l) = slotCells s ++ fdCells l := by simp [fdCells]
    rw [this, List.length_append, ih]
    simp [slotCells]
    omega

theorem fdCells_one (l : List SlotV) : (fdCells l).all (·.oneCell') = true := by
  induction l with
  | nil => rfl
  | cons s l ih =>
    have : fdCells (s :: l) = slotCells s ++ fdCells l := by simp [fdCells]
    rw [this, List.all_append, ih]
    rfl

section
variable {w w' : World} {own : Owner} {tb : Nat} {X : TreeX} {T : TreeV}

theorem TreeAt.key (h : TreeAt w own tb X T) {k : Int} {p : Option Addr} (hp : aget X.lp k = some p) : ∃ v nb ds ws m, aget T.nodes k = some v ∧ p = some ⟨nb, 0, none⟩ ∧ NodeAt w own k nb ds ws m v := by
  cases hv : aget T.nodes k with
  | none => rw [h.non k hv] at hp; cases hp
  | some v =>
    obtain ⟨nb, ds, ws, m, h1, h2⟩ := h.som k v hv
    rw [hp] at h1
    cases h1
    exact ⟨v, nb, ds, ws, m, rfl, rfl, h2⟩

theorem Copy_spec {K : Option Addr → World → Prop} (h : TreeAt w own tb X T)
    (k : ∀ tb' own' X' w', Eff No w w' → TreeAt w' own' tb' X' T → (∀ b t, own' b = some t → w.heap.size ≤ b) → K (some ⟨tb', 0, none⟩) w') : tree_Tree_Copy_31 (some ⟨tb, 0, none⟩) w K := by
  refine tree_Tree_Copy_31_of _ w K ?_
  unfold F31
  refine cnd_f rfl ?_
  refine ldP_at (some ⟨X.fb, 0, none⟩) h.top rfl ?_
  refine onSome_some ?_
  have hfl : (fdCells T.fds).length = 64 := by rw [fdCells_length, h.fdsL]
  refine ⟨(fdCells T.fds).toArray, by simpa using hfl, cellsAt_all h.fds, ?_⟩
  refine newP_at fun b5 w6 e5 a5 E5 => ?_
  refine ⟨by simpa using hfl, ?_⟩
  refine stN_all a5 (by simp [hfl]) (fdCells_one _) fun w7 a7 E7 => ?_
  have E07 : Eff No w w7 := E5.fresh E7 (by omega)
  refine newP_at fun b8 w9 e8 a8 E8 => ?_
  have E09 := E07.trans E8
  refine onSome_some ?_
  refine ldP_at T.last (E09.at0 h.top) rfl ?_
  refine newP_at fun b12 w13 e12 a12 E12 => ?_
  have E013 := E09.trans E12
  have h13 := h.kept0 E013
  refine onSome_some ?_
  refine ldP_at (some X.mb) h13.top rfl ?_
  have s5 := E5.size
  have s7 := E7.size
  have s8 := E8.size
  have s12 := E12.size
  have l5 := a5.lt
  have l8 := a8.lt
  have l12 := a12.lt
  have hm : MapO iT.mk pT.mk w13 (some X.mb) X.lp := .inr ⟨_, rfl, h13.map.nodup keyI, X.lp, h13.map, fun _ => rfl⟩
  let own0 : Owner := fun b => if b = b12 then some .top else if b = b8 then some .map else if b = b5 then some .fds else none
  have h0 : TreeAt w13 own0 b12 ⟨b8, b5, []⟩ { T with nodes := [] } :=
    { lt := fun b t hb => by
        simp only [own0] at hb
        split at hb
        · omega
        · split at hb
          · omega
          · split at hb
            · omega
            · cases hb
      top := a12
      topO := by simp [own0]
      map := MapAt.new (E12.at0 a8)
      mapO := by simp only [own0]; rw [if_neg (by omega)]; simp
      fds := by have := E12.at0 (E8.at0 a7); simpa using this
      fdsO := by simp only [own0]; rw [if_neg (by omega), if_neg (by omega)]; simp
      fdsL := h.fdsL
      nd := .nil
      non := fun k hk => rfl
      som := fun k v hk => by cases hk }
  refine range_ro und127 keyI hm (fun ps _ w1 => (Eff No w w1 ∧ w13.heap.size ≤ w1.heap.size) ∧ ∃ own' lp' nodes', (∀ k, aget nodes' k = if k ∈ ps.map (·.1) then aget T.nodes k else none) ∧ (∀ b t, own' b = some t → w.heap.size ≤ b ∧ b ≠ w13.heap.size) ∧ TreeAt w1 own' b12 ⟨b8, b5, lp'⟩ { T with nodes := nodes' })
    (fun w1 E => ⟨⟨E013.trans E, E.size⟩, own0, [], [], fun k => by simp [aget], fun b t hb => ?_, h0.kept0 E⟩) ?_ ?_ ?_
  · have := h0.lt b t hb
    simp only [own0] at hb
    split at hb
    · omega
    · split at hb
      · omega
      · split at hb
        · omega
        · cases hb
  · rintro ps _ w1 w2 ⟨⟨E1, E1s⟩, own', lp', nodes', g1, g2, g3⟩ E2
    exact ⟨⟨E1.fresh E2 E013.size, Nat.le_trans E1s E2.size⟩, own', lp', nodes', g1, g2, g3.kept E2 fun b t hb e => (g2 b t hb).2 e⟩
  · rintro ps _ w1 ⟨⟨E1, E1s⟩, own', lp', nodes', g1, g2, g3⟩ hp
    refine k b12 own' _ w1 E1 (g3.perm (nodes' := T.nodes) (fun k' => ?_) h.nd) fun b t hb => (g2 b t hb).1
    show aget T.nodes k' = aget nodes' k'
    rw [g1]
    split
    · rfl
    · rename_i hk
      cases hv : aget T.nodes k' with
      | none => rfl
      | some v =>
        obtain ⟨nb, ds, ws, m, q1, _⟩ := h.som k' v hv
        exact absurd (((hp.map (·.1)).mem_iff).2 (key_of_aget q1)) hk
  · rintro ps _ w1 ⟨n, pv⟩ again ⟨⟨E01, E1s⟩, own', lp', nodes', g1, g2, g3⟩ hp hnp _ hr hag
    have hnl := h.map.nodup keyI
    obtain ⟨v, nb, ds, ws, m, hv, rfl, nA⟩ := h.key (aget_of_mem hnl hp)
    have nA1 : NodeAt w1 own n nb ds ws m v := nA.kept E01 (fun _ _ => rfl) fun _ _ _ _ h => h
    refine onSome_some ?_
    refine ldA_all (v.kind, ds, ws, m, v.most, v.links, v.above) nA1.cells ?_
    refine newP_at fun b27 w28 e27 a27 E27 => ?_
    refine stN_all a27 rfl rfl fun w29 a29 E29 => ?_
    have E129 : Eff No w1 w29 := E27.fresh E29 (by omega)
    have E29d := (E01.trans E129).thenDrew
    have nA2 : NodeAt w29.drew own n nb ds ws m v := nA.kept E29d (fun _ _ => rfl) fun _ _ _ _ h => h
    refine onSome_some ?_
    refine ldP_at ds nA2.cells rfl ?_
    refine onSome_some ?_
    refine ldP_at ws nA2.cells rfl ?_
    refine onSome_some ?_
    refine ldP_at m nA2.cells rfl ?_
    refine Clone67_spec nA2.row (fun u hu => by obtain ⟨x, _, rfl⟩ := List.mem_map.1 hu; rfl) (by simpa using nA2.dl.1) fun r36 w37 E37 q1 q2 => ?_
    have c37 := E37.at0 nA2.cells
    refine ⟨c37.cell.trans rfl, c37.cell.trans rfl, ?_⟩
    refine Clone68_spec (nA2.wrow.kept0 E37) (fun u hu => by obtain ⟨x, _, rfl⟩ := List.mem_map.1 hu; rfl) (by simpa using nA2.dl.2) fun r38 w39 E39 q3 q4 => ?_
    have c39 := E39.at0 c37
    refine ⟨c39.cell.trans rfl, ?_⟩
    refine MapsClone_spec (nA2.nm.kept0 (E37.trans E39)) fun r40 w41 E41 q5 q6 q7 => ?_
    have E2941 := (E37.trans E39).trans E41
    have a41 := E2941.at0 a29.drew
    have lb27 := a27.lt
    have s29 := E29.size
    refine stP_at (i := 1) a41 (by simp) rfl fun w42 a42 E42 => ?_
    refine stP_at (i := 2) a42 (by simp) rfl fun w43 a43 E43 => ?_
    refine stP_at (i := 3) a43 (by simp) rfl fun w44 a44 E44 => ?_
    have E4144 : Eff (fun b => b = b27) w41 w44 := (E42.trans E43).trans E44
    have E129d : Eff No w1 w41 := E129.thenDrew.trans E2941
    have E144 : Eff No w1 w44 := E129d.fresh E4144 (by omega)
    have g44 := g3.kept0 E144
    refine ldP_at (some b8) g44.top rfl ?_
    obtain ⟨w46, u1, u2, u3⟩ := update (vf := pT.mk) keyI und127 g44.map n (some ⟨b27, 0, none⟩)
    have E146 : Eff (fun c => c = b8) w1 w46 := E144.up.comp u3 fun _ _ e => e
    have s37 := E37.size
    have s39 := E39.size
    have s41 := E41.size
    have hd29 : w29.drew.heap.size = w29.heap.size := rfl
    let own2 : Owner := fun b => if b = b27 then some (.node n) else if r36.blk = some b then some (.data n) else if r38.blk = some b then some (.writ n) else if r40 = some b then some (.names n) else own' b
    have ho : ∀ b, b < w1.heap.size → own2 b = own' b := by
      intro b hb
      simp only [own2]
      rw [if_neg (by omega), if_neg fun e => by have := q2 b e; omega, if_neg fun e => by have := q4 b e; omega, if_neg fun e => by have := q6 b e; omega]
    have s46 := E146.size
    have s4146 : w41.heap.size ≤ w46.heap.size := Nat.le_trans E4144.size u3.size
    have Ex : Eff (fun b => b = b27 ∨ b = b8) w41 w46 := (E4144.mono fun b _ e => .inl e).comp u3 fun b _ e => .inr e
    have hb8 : w.heap.size ≤ b8 := by omega
    have h8 : b8 < w13.heap.size := by omega
    have lr36 : ∀ b, r36.blk = some b → w29.heap.size ≤ b ∧ b < w37.heap.size := fun b hb => ⟨q2 b hb, q1.lt hb⟩
    have lr38 : ∀ b, r38.blk = some b → w37.heap.size ≤ b ∧ b < w39.heap.size := fun b hb => ⟨q4 b hb, q3.lt hb⟩
    have lr40 : ∀ b, r40 = some b → w39.heap.size ≤ b ∧ b < w41.heap.size := fun b hb => ⟨q6 b hb, q5.lt hb⟩
    have Ew46 : Eff No w w46 := (E01.trans E144).fresh u3 hb8
    refine ⟨w46, u1, hag (fun c => c = b8) () w46 E146 (by omega) (fun b hb e => ?_) ⟨⟨Ew46, by omega⟩, own2, aset lp' n (some ⟨b27, 0, none⟩), aset nodes' n v, fun k' => ?_, fun b t hb => ?_, ?_⟩⟩
    · cases hb
      have := h.map.lt
      have e' : X.mb = b8 := e
      omega
    · rw [aget_aset, g1]
      by_cases e : k' = n
      · subst e; simp [hv]
      · rw [if_neg e]
        by_cases hk : k' ∈ ps.map (·.1)
        · have h2 : k' ∈ ((n, some (⟨nb, 0, none⟩ : Addr)) :: ps).map (·.1) := List.mem_cons_of_mem _ hk
          rw [if_pos hk, if_pos h2]
        · have h2 : k' ∉ ((n, some (⟨nb, 0, none⟩ : Addr)) :: ps).map (·.1) := fun h => (List.mem_cons.1 h).elim e hk
          rw [if_neg hk, if_neg h2]
    · simp only [own2] at hb
      split at hb
      · omega
      · split at hb
        · rename_i e; have := lr36 b e; omega
        · split at hb
          · rename_i e; have := lr38 b e; omega
          · split at hb
            · rename_i e; have := lr40 b e; omega
            · exact g2 b t hb
    · refine g3.setMap (n := n) (o' := some v) E146 (fun b t hb e => ?_) u2 ho (fun b t hb => ?_) (nodup_aset g3.nd _ _) (fun k' hk' => ?_) (fun k' => ?_) (.inr ⟨_, b27, r36, r38, r40, rfl, ?_, ?_⟩)
      · have e' : b = b8 := e
        rw [e', g3.mapO] at hb; cases hb; rfl
      · simp only [own2] at hb
        split at hb
        · omega
        · split at hb
          · rename_i e; have := lr36 b e; omega
          · split at hb
            · rename_i e; have := lr38 b e; omega
            · split at hb
              · rename_i e; have := lr40 b e; omega
              · have := g3.lt b t hb; omega
      · rw [aget_aset, if_neg hk']
      · show aget (aset nodes' n v) k' = _
        rw [aget_aset]
      · rw [aget_aset, if_pos rfl]
      · exact
          { cells := u3.at a44 (by show ¬ b27 = b8; omega)
            o := by simp [own2]
            row := (q1.kept0 (E39.trans E41)).kept Ex fun b hb e => by have := lr36 b hb; rcases e with e | e <;> omega
            rowO := fun b hb => by have := lr36 b hb; simp only [own2]; rw [if_neg (by omega), if_pos hb]
            wrow := (q3.kept0 E41).kept Ex fun b hb e => by have := lr38 b hb; rcases e with e | e <;> omega
            wrowO := fun b hb => by have := lr38 b hb; simp only [own2]; rw [if_neg (by omega), if_neg (fun e => by have := lr36 b e; omega), if_pos hb]
            nm := q5.kept Ex fun b hb e => by have := lr40 b hb; rcases e with e | e <;> omega
            nmO := fun b hb => by have := lr40 b hb; simp only [own2]; rw [if_neg (by omega), if_neg (fun e => by have := lr36 b e; omega), if_neg (fun e => by have := lr38 b e; omega), if_pos hb]
            dir := fun hk => q7 (nA.dir hk)
            dl := nA.dl }

end
end Go.Proofs.YtcpoglgnkedpaaaGreatDoor
