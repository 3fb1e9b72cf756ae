/-
  A part of a large array value.
-/
import Derived.Test.YtcpoglgnkedpaaaGreatDoorVY
import Derived.Test.YtcpoglgnkedpaaaGreatDoorTS
import Derived.Test.YtcpoglgnkedpaaaGreatDoorM1
import Derived.Test.YtcpoglgnkedpaaaGreatDoorFY
import Derived.Test.YtcpoglgnkedpaaaGreatDoorM3
import Derived.Test.YtcpoglgnkedpaaaGreatDoorFX
namespace Go.Vc

def sizeIs (n m : Nat) (p : Prop) : Prop := match Nat.beq n m with | true => p | false => False

theorem sizeIs_mk {n m : Nat} {p : Prop} (h : n = m) (hp : p) : sizeIs n m p := by
  subst h
  have e : Nat.beq n n = true := Nat.beq_refl n
  unfold sizeIs
  rw [e]
  exact hp

end Go.Vc

/-
  What table.List's body asks (printed by vcgen.py).
-/
namespace Go.Proofs.YtcpoglgnkedpaaaGreatDoor
open Go Go.Vc Go.Proofs

/-- (*purlin/table.Table).List -/
def F130 (t : Option Addr) (w : World) (K : Tup [.one .slice] → World → Prop) : Prop :=
  cnd (Option.isNone t) (
    K ⟨none, 0, 0⟩ w) (
    onSome t fun A1 =>
    ldB 64 A1 w fun c2 =>
    loopP (σ := Tup [.one .slice, .one (.int .i64)]) (fun again3 s4 w5 =>
      cnd (decide (s4.2 < 16)) (
        idxP s4.2 16 (
          newP (.cells #[(.int .i64 0), (.int .i64 0), (.int .i64 0), (.bool false)] 142) w5 fun b6 w7 =>
          sizeIs (c2.extract (Int.toNat s4.2 * 4) (Int.toNat s4.2 * 4 + 4)).size 4 (
            stN ⟨b6, 0, none⟩ (c2.extract (Int.toNat s4.2 * 4) (Int.toNat s4.2 * 4 + 4)).toList w7 fun w8 =>
          ldP (.bool) ⟨b6, 3, none⟩ w8 fun x9 =>
          cnd x9 (
            newP (.cells #[(.int .i64 s4.2)] 3) w8 fun b10 w11 =>
            runP Tryz.prog (Builtin.append_ #[53, 53] 53 #[(.slice s4.1.a s4.1.len s4.1.cap), (.slice (some ⟨b10, 0, none⟩) 1 1)]) [.one .slice] w11 fun c12 w13 =>
            again3 (c12, (w64 (s4.2 + 1))) w13) (
            again3 (s4.1, (w64 (s4.2 + 1))) w8)))) (
        K s4.1 w5)) (⟨none, 0, 0⟩, 0) w)
def an130 : List An := [
  .reg ⟨[], .done, []⟩,
  .reg ⟨[], .done, []⟩,
  .nop,
  .reg ⟨[], .done, []⟩,
  .reg ⟨[], .done, []⟩,
  .reg ⟨[], .done, []⟩,
  .nop,
  .nop,
  .loop [(3, .one .slice), (12, .one (.int .i64))] [4, 5, 13, 14, 15, 16, 17, 18, 19, 20, 21, 22],
  .reg ⟨[], .done, []⟩,
  .nop,
  .nop,
  .reg ⟨[], .done, []⟩,
  .reg ⟨[], .done, []⟩,
  .nop,
  .reg ⟨[(3, [.one .slice])], .done, []⟩,
  .reg ⟨[], .done, []⟩,
  .reg ⟨[], .done, []⟩]
theorem table_Table_List_130_of (t : Option Addr) (w : World) (K : Tup [.one .slice] → World → Prop) (hF_ : F130 t w K) : table_Table_List_130 t w K :=
  call_of_F (l := an130) (args := [Ty.mk (.one .ptr) t]) follows tabOk Tryz.func130 (by kernel_rfl) (by kernel_rfl) (by kernel_rfl) hF_

end Go.Proofs.YtcpoglgnkedpaaaGreatDoor

/-
  table: List (how many), IndexFunc, Open, Holds.
-/
namespace Go.Proofs.YtcpoglgnkedpaaaGreatDoor
open Go Go.Vc Go.Proofs

abbrev sLs : List Leaf := [.int .i64, .int .i64, .int .i64, .bool]

theorem fd_len (fds : List SlotV) : (fdCells fds).length = fds.length * 4 := by
  induction fds with
  | nil => rfl
  | cons s r ih => simp only [fdCells, List.flatMap_cons, List.length_append, List.length_cons] at ih ⊢; rw [ih]; simp [slotCells]; omega

section
variable {w : World} {fb : Nat} {fds : List SlotV}

theorem ld_slot {K : Carr sLs → Prop} {i : Nat} {s : SlotV} (h : At w fb (.cells (fdCells fds).toArray 145 (0, 0))) (hs : fds[i]? = some s) (k : K s) : ldA sLs ⟨fb, i * 4, none⟩ w K := by
  refine ldA_at s h (fun j v hv => ?_) k
  have hj : j < 4 := by
    have := (List.getElem?_eq_some_iff.1 hv).1
    simpa [Carr.cells] using this
  rw [List.getElem?_toArray, fd_cell _ _ _ hj, hs]
  exact hv

/-- The place of the first one that is as asked; -1: none is. -/
def idxV (q : SlotV → Bool) (fds : List SlotV) : Int :=
  match fds.findIdx? q with
  | some i => i
  | none => -1

theorem IndexFunc_spec {q : SlotV → Bool} {f : Value} {K : Int → World → Prop} (h : At w fb (.cells (fdCells fds).toArray 145 (0, 0))) (hL : fds.length = 16)
    (hq : ∀ (s : SlotV) (w1 : World) (K' : Bool → World → Prop), Eff No w w1 → (∀ w2, Eff No w1 w2 → K' (q s) w2) → callV Tryz.prog f #[(.agg #[(.int .i64 s.1), (.int .i64 s.2.1), (.int .i64 s.2.2.1), (.bool s.2.2.2)])] [.one .bool] w1 K')
    (k : ∀ w', Eff No w w' → K (idxV q fds) w') : slices_IndexFunc_171 ⟨some ⟨fb, 0, none⟩, 16, 16⟩ f w K := by
  refine slices_IndexFunc_171_of _ _ w K ?_
  unfold F171
  refine loopP_count (fun n s w1 => ∃ i : Nat, s = (i : Int) ∧ i ≤ 16 ∧ n = 16 - i ∧ Eff No w w1 ∧ ∀ j, j < i → ∀ t, fds[j]? = some t → q t = false) ⟨16, 0, rfl, by omega, rfl, Eff.refl _ _, fun j hj => by omega⟩ ?_
  rintro n s w1 ⟨i, rfl, hi, rfl, E1, hall⟩
  refine cnd_intro (fun hlt => ?_) (fun hge => ?_)
  · have hlt' : i < 16 := by have : (i : Int) < 16 := of_decide_eq_true hlt; omega
    obtain ⟨t, ht⟩ : ∃ t, fds[i]? = some t := ⟨fds[i]'(by omega), by simp⟩
    refine ⟨by omega, by show (i : Int) < 16; omega, ?_⟩
    refine onSome_some ?_
    rw [addr_add, Nat.zero_add, Int.toNat_natCast]
    refine ld_slot (E1.at0 h) ht ?_
    refine hq t w1 _ E1 fun w2 E2 => ?_
    cases hqt : q t with
    | true =>
      refine cnd_t rfl ?_
      have e : idxV q fds = (i : Int) := by
        have : fds.findIdx? q = some i := by
          rw [List.findIdx?_eq_some_iff_getElem]
          have hil : i < fds.length := by omega
          refine ⟨hil, ?_, fun j hj => ?_⟩
          · rw [List.getElem?_eq_getElem hil] at ht
            cases ht
            exact hqt
          · have hjl : j < fds.length := by omega
            have := hall j hj fds[j] (by simp)
            simp [this]
        simp [idxV, this]
      rw [← e]
      exact k w2 (E1.trans E2)
    | false =>
      refine cnd_f rfl ?_
      refine ⟨16 - (i + 1), by omega, i + 1, ?_, by omega, rfl, E1.trans E2, fun j hj t' ht' => ?_⟩
      · show w64 ((i : Int) + 1) = _
        rw [w64_id (by omega) (by omega)]
        simp
      · by_cases hji : j < i
        · exact hall j hji t' ht'
        · obtain rfl : j = i := by omega
          rw [ht] at ht'; cases ht'
          exact hqt
  · have hge' : 16 ≤ i := by have : ¬ (i : Int) < 16 := of_decide_eq_false hge; omega
    have e : idxV q fds = -1 := by
      have : fds.findIdx? q = none := by
        rw [List.findIdx?_eq_none_iff]
        intro x hx
        obtain ⟨j, hj⟩ := List.getElem?_of_mem hx
        have := (List.getElem?_eq_some_iff.1 hj).1
        exact hall j (by omega) x hj
      simp [idxV, this]
    rw [← e]
    exact k w1 E1

theorem List_spec {K : Sl → World → Prop} (h : At w fb (.cells (fdCells fds).toArray 145 (0, 0))) (hL : fds.length = 16) (hf : ∃ s ∈ fds, s.2.2.2 = false)
    (k : ∀ (s : Sl) w', Eff No w w' → s.len < 16 → K s w') : table_Table_List_130 (some ⟨fb, 0, none⟩) w K := by
  refine table_Table_List_130_of _ w K ?_
  unfold F130
  refine cnd_f rfl ?_
  refine onSome_some ?_
  refine ⟨(fdCells fds).toArray, by simp [fd_len, hL], cellsAt_all (by simpa using h), ?_⟩
  refine loopP_count (fun n s w1 => ∃ (i : Nat) (xs : List Value), s.2 = (i : Int) ∧ i ≤ 16 ∧ n = 16 - i ∧ Eff No w w1 ∧ RowAt w1 3 1 s.1 xs ∧ xs.length ≤ i ∧ (∀ b, s.1.blk = some b → w.heap.size ≤ b) ∧ ((∃ j t, j < i ∧ fds[j]? = some t ∧ t.2.2.2 = false) → xs.length < i)) ⟨16, 0, [], rfl, by omega, rfl, Eff.refl _ _, RowAt.nil, by simp, fun b hb => (by cases hb), fun ⟨j, _, hj, _⟩ => by omega⟩ ?_
  rintro n ⟨sl, si⟩ w1 ⟨i, xs, rfl, hi, rfl, E1, hr, hx, hb, hc⟩
  refine cnd_intro (fun hlt => ?_) (fun hge => ?_)
  · have hlt' : i < 16 := by have : (i : Int) < 16 := of_decide_eq_true hlt; omega
    obtain ⟨t, ht⟩ : ∃ t, fds[i]? = some t := ⟨fds[i]'(by omega), by simp⟩
    refine ⟨by omega, by show (i : Int) < 16; omega, ?_⟩
    have hex : ((fdCells fds).toArray.extract (i * 4) (i * 4 + 4)) = (slotCells t).toArray := by
      apply Array.ext'
      apply List.ext_getElem?
      intro j
      by_cases hj : j < 4
      · have e1 : ((fdCells fds).toArray.extract (i * 4) (i * 4 + 4)).toList[j]? = (fdCells fds)[i * 4 + j]? := by
          rw [Array.toList_extract]
          simp only [List.extract_eq_take_drop]
          rw [List.getElem?_take_of_lt (by omega), List.getElem?_drop]
        rw [e1, fd_cell _ _ _ hj, ht]
        simp
      · rw [List.getElem?_eq_none (by simp [fd_len, hL]; omega), List.getElem?_eq_none (by simp [slotCells]; omega)]
    refine newP_at fun b6 w7 e6 a6 E6 => ?_
    simp only [Int.toNat_natCast]
    rw [hex]
    refine sizeIs_mk (by simp [slotCells]) ?_
    refine stN_all a6 (by simp [slotCells]) (by simp [slotCells, Value.oneCell']) fun w8 a8 E8 => ?_
    refine ldP_at t.2.2.2 a8 (by simp [slotCells, Leaf.mk]) ?_
    have s1 := E1.size
    have s6 := E6.size
    have s8 := E8.size
    have l6 := a6.lt
    have E18 : Eff No w1 w8 := E6.fresh E8 (by omega)
    have hw : w64 ((i : Int) + 1) = ((i + 1 : Nat) : Int) := by rw [w64_id (by omega) (by omega)]; simp
    refine cnd_intro (fun hopen => ?_) (fun hclosed => ?_)
    · refine newP_at fun b10 w11 e10 a10 E10 => ?_
      have hlen : sl.len = xs.length := by have h1 : xs.length = sl.len * 1 := hr.1; omega
      obtain ⟨s', w13, q1, q2, q3, q4, q5⟩ := append_row (ty := 53) slInts ((hr.kept0 E18).kept0 E10) (x := ⟨some ⟨b10, 0, none⟩, 1, 1⟩) (news := [kInt (i : Int)]) (RowAt.new a10 rfl) (by simp [kInt, Value.oneCell']) (by simp [hlen, maxLen]; omega) (by simp [hlen]; omega)
      refine ⟨s', w13, q1, ?_⟩
      have s10 := E10.size
      refine ⟨16 - (i + 1), by omega, i + 1, xs ++ [kInt (i : Int)], hw, by omega, rfl, ((E1.trans E18).trans E10).comp q4 (fun b hb' e => by have := hb b e; omega), q2, by simp; omega, fun b hb' => ?_, fun ⟨j, t', hj, ht', hf'⟩ => ?_⟩
      · rcases q5 with e | e
        · exact hb b (e.symm.trans hb')
        · rw [e] at hb'; cases hb'; omega
      · have : j < i := by
          by_cases e : j = i
          · subst e
            rw [ht] at ht'; cases ht'
            rw [hopen] at hf'; cases hf'
          · omega
        have := hc ⟨j, t', this, ht', hf'⟩
        simp; omega
    · refine ⟨16 - (i + 1), by omega, i + 1, xs, hw, by omega, rfl, E1.trans E18, hr.kept0 E18, by omega, hb, fun _ => by omega⟩
  · have hge' : 16 ≤ i := by have : ¬ (i : Int) < 16 := of_decide_eq_false hge; omega
    refine k sl w1 E1 ?_
    have hlen : sl.len = xs.length := by have h1 : xs.length = sl.len * 1 := hr.1; omega
    obtain ⟨t, hm, hf'⟩ := hf
    obtain ⟨j, hj⟩ := List.getElem?_of_mem hm
    have := (List.getElem?_eq_some_iff.1 hj).1
    have := hc ⟨j, t, by omega, hj, hf'⟩
    omega

theorem over_mid : ∀ (vs : List Value) (p c r : List Value), c.length = vs.length → over (p ++ c ++ r).toArray p.length vs = (p ++ vs ++ r).toArray
  | [], p, c, r, h => by
    have : c = [] := List.length_eq_zero_iff.1 (by simpa using h)
    subst this; rfl
  | v :: vs, p, [], r, h => by simp at h
  | v :: vs, p, x :: c, r, h => by
    have ih := over_mid vs (p ++ [v]) c r (by simpa using h)
    simp only [over]
    have e : (p ++ x :: c ++ r).toArray.setIfInBounds p.length v = (p ++ [v] ++ c ++ r).toArray := by
      apply Array.ext'
      simp
    rw [e]
    simpa using ih

theorem fd_split {i : Nat} {s t : SlotV} (h : fds[i]? = some t) : fdCells fds = fdCells (fds.take i) ++ slotCells t ++ fdCells (fds.drop (i + 1)) ∧ fdCells (fds.set i s) = fdCells (fds.take i) ++ slotCells s ++ fdCells (fds.drop (i + 1)) := by
  obtain ⟨hlt, e⟩ := List.getElem?_eq_some_iff.1 h
  have h1 : fds = fds.take i ++ t :: fds.drop (i + 1) := by
    rw [← e]
    simp
  have h2 : fds.set i s = fds.take i ++ s :: fds.drop (i + 1) := List.set_eq_take_append_cons_drop.trans (if_pos hlt)
  constructor
  · conv => lhs; rw [h1]
    simp [fdCells]
  · rw [h2]
    simp [fdCells]

/-- The first descriptor that is not open. -/
def freeV (fds : List SlotV) : Option Nat := fds.findIdx? fun s => !s.2.2.2

theorem TOpen_spec {node flags : Int} {i : Nat} {K : Int × Int → World → Prop} (h : At w fb (.cells (fdCells fds).toArray 145 (0, 0))) (hL : fds.length = 16) (hi : freeV fds = some i)
    (k : ∀ w', Eff (fun b => b = fb) w w' → At w' fb (.cells (fdCells (fds.set i (node, 0, flags, true))).toArray 145 (0, 0)) → K ((i : Int), 0) w') : table_Table_Open_132 (some ⟨fb, 0, none⟩) node flags w K := by
  refine table_Table_Open_132_of _ _ _ w K ?_
  unfold F132
  refine cnd_f rfl ?_
  refine onSome_some ?_
  refine ⟨trivial, Int.le_refl _, by show (0 : Int) ≤ 16; omega, ?_⟩
  have hlt : i < fds.length := by
    have := List.findIdx?_eq_some_iff_getElem.1 hi
    exact this.1
  refine IndexFunc_spec (q := fun s => !s.2.2.2) h hL (fun s w1 K' E1 hk => ?_) fun w4 E4 => ?_
  · show table_Table_Open_1_172 s w1 K'
    refine table_Table_Open_1_172_of _ w1 K' ?_
    unfold F172
    refine newP_at fun b1 w2 e1 a1 E2 => ?_
    refine ldP_at s.2.2.2 a1 rfl ?_
    exact hk w2 E2
  have e : idxV (fun s => !s.2.2.2) fds = (i : Int) := by
    unfold idxV
    have : fds.findIdx? (fun s => !s.2.2.2) = some i := hi
    rw [this]
  rw [e]
  refine cnd_f (by simp) ?_
  refine onSome_some ?_
  refine ⟨by omega, by show (i : Int) < 16; omega, ?_⟩
  rw [addr_add, Nat.zero_add, Int.toNat_natCast]
  obtain ⟨t, ht⟩ : ∃ t, fds[i]? = some t := ⟨fds[i], by simp⟩
  obtain ⟨f1, f2⟩ := fd_split (s := (node, 0, flags, true)) ht
  have hp : i * 4 = (fdCells (fds.take i)).length := by rw [fd_len]; simp; omega
  refine stN_at (E4.at0 h) (by simp [fd_len]; omega) (by simp [Value.oneCell']) fun w6 a6 E6 => ?_
  refine k w6 (E4.up.trans E6) ?_
  rw [f1, hp, over_mid _ _ _ _ (by simp [slotCells])] at a6
  rw [f2]
  exact a6

/-- Has some descriptor a node? -/
def holdsFd (fds : List SlotV) (n : Int) : Bool := decide (idxV (fun s => s.2.2.2 && s.1 == n) fds ≥ 0)

theorem Holds_spec {n : Int} {K : Bool → World → Prop} (h : At w fb (.cells (fdCells fds).toArray 145 (0, 0))) (hL : fds.length = 16)
    (k : ∀ w', Eff No w w' → K (holdsFd fds n) w') : table_Table_Holds_174 (some ⟨fb, 0, none⟩) n w K := by
  refine table_Table_Holds_174_of _ _ w K ?_
  unfold F174
  refine newP_at fun b1 w2 e1 a1 E1 => ?_
  refine cnd_t rfl ?_
  refine onSome_some ?_
  refine ⟨trivial, Int.le_refl _, by show (0 : Int) ≤ 16; omega, ?_⟩
  refine slices_ContainsFunc_208_of _ _ w2 _ ?_
  unfold F208
  refine IndexFunc_spec (q := fun s => s.2.2.2 && s.1 == n) (E1.at0 h) hL (fun s w3 K' E3 hk => ?_) fun w4 E4 => ?_
  · show table_Table_Holds_1_209 s (some ⟨b1, 0, none⟩) w3 K'
    refine table_Table_Holds_1_209_of _ _ w3 K' ?_
    unfold F209
    refine newP_at fun b4 w5 e4 a4 E4 => ?_
    refine ldP_at s.2.2.2 a4 rfl ?_
    refine cnd_intro (fun ho => ?_) (fun ho => ?_)
    · refine ldP_at s.1 a4 rfl ?_
      refine onSome_some ?_
      refine ldP_at n (E4.at0 (E3.at0 a1)) rfl ?_
      have := hk w5 E4
      simpa [ho] using this
    · have := hk w5 E4
      simpa [ho] using this
  · exact k w4 (E1.trans E4)

end
end Go.Proofs.YtcpoglgnkedpaaaGreatDoor

/-
  tree: Do by way of open, remove, link, rename; open with FCreate.
-/
namespace Go.Proofs.YtcpoglgnkedpaaaGreatDoor
open Go Go.Vc Go.Proofs

/-- What a method that answers an operation makes. -/
def SubOk (call : Option Addr → OpC → World → (AnsC → World → Prop) → Prop) (T : TreeV) (o : OpC) (T' : TreeV) (a : AnsC) : Prop :=
  ∀ (w : World) (own : Owner) (tb : Nat) (X : TreeX) (K : AnsC → World → Prop), TreeAt w own tb X T →
    (∀ own' X' w', Eff (fun b => ∃ t, own b = some t) w w' → (∀ b, b < w.heap.size → own' b = own b) → TreeAt w' own' tb X' T' → K a w') → call (some ⟨tb, 0, none⟩) o w K

section
variable {w : World} {own : Owner} {tb : Nat} {X : TreeX} {T T' : TreeV}

theorem TreeAt.fresh (h : TreeAt w own tb X T) {b : Nat} (hb : w.heap.size ≤ b) : own b = none := by
  cases hh : own b with
  | none => rfl
  | some t => have := h.lt _ _ hh; omega

/-- An answer is stored and told. -/
theorem answer_at {b3 : Nat} {c : Array Value} {a : AnsC} {K : AnsC → World → Prop} (h : At w b3 (.cells c 43 (0, 0))) (hc : c.size = 6) (k : ∀ w', Eff (fun b => b = b3) w w' → K a w') :
    stN ⟨b3, 0, none⟩ [(.int .i64 a.1), (.int .i64 a.2.1), (.int .i64 a.2.2.1), (.int .i64 a.2.2.2.1), (.slice a.2.2.2.2.1.a a.2.2.2.2.1.len a.2.2.2.2.1.cap), (.slice a.2.2.2.2.2.a a.2.2.2.2.2.len a.2.2.2.2.2.cap)] w fun w13 =>
      ldA [.int .i64, .int .i64, .int .i64, .int .i64, .slice, .slice] ⟨b3, 0, none⟩ w13 fun c14 => K (c14.1, c14.2.1, c14.2.2.1, c14.2.2.2.1, c14.2.2.2.2.1, c14.2.2.2.2.2) w13 := by
  refine stN_all h hc rfl fun w7 a7 E7 => ?_
  refine ldA_all a a7 ?_
  exact k _ E7

theorem sub_at {call : Option Addr → OpC → World → (AnsC → World → Prop) → Prop} {o : OpC} {a : AnsC} {b3 : Nat} {w0 : World} {K : AnsC → World → Prop} (hs : SubOk call T o T' a) (h : TreeAt w own tb X T) (E0 : Eff No w0 w) (hw0 : ∀ b t, own b = some t → b < w0.heap.size) (hb3 : w0.heap.size ≤ b3)
    (a3 : At w b3 (.cells #[(.int .i64 0), (.int .i64 0), (.int .i64 0), (.int .i64 0), (.slice none 0 0), (.slice none 0 0)] 43 (0, 0)))
    (k : ∀ own' X' w', Eff (fun b => ∃ t, own b = some t) w0 w' → (∀ b, b < w0.heap.size → own' b = own b) → TreeAt w' own' tb X' T' → K a w') :
    call (some ⟨tb, 0, none⟩) o w fun r w12 => stN ⟨b3, 0, none⟩ [(.int .i64 r.1), (.int .i64 r.2.1), (.int .i64 r.2.2.1), (.int .i64 r.2.2.2.1), (.slice r.2.2.2.2.1.a r.2.2.2.2.1.len r.2.2.2.2.1.cap), (.slice r.2.2.2.2.2.a r.2.2.2.2.2.len r.2.2.2.2.2.cap)] w12 fun w13 =>
      ldA [.int .i64, .int .i64, .int .i64, .int .i64, .slice, .slice] ⟨b3, 0, none⟩ w13 fun c14 => K (c14.1, c14.2.1, c14.2.2.1, c14.2.2.2.1, c14.2.2.2.2.1, c14.2.2.2.2.2) w13 := by
  have hn3 : own b3 = none := by
    cases hh : own b3 with
    | none => rfl
    | some t => have := hw0 _ _ hh; omega
  refine hs w own tb X _ h fun own' X' w12 E12 ho' h12 => ?_
  have l3 := a3.lt
  refine answer_at (E12.at a3 (by rw [hn3]; simp)) rfl fun w13 E13 => ?_
  have hb3' : own' b3 = none := by rw [ho' b3 l3]; exact hn3
  have s0 := E0.size
  refine k own' X' w13 ((E0.up.trans E12).fresh E13 (by omega)) (fun b hb => ho' b (by omega)) (h12.kept E13 fun b t hb e => ?_)
  have e' : b = b3 := e
  rw [e', hb3'] at hb
  cases hb

theorem Do_open_of {o : OpC} {a : AnsC} {K : AnsC → World → Prop} (ho : o.1 = 1) (h : TreeAt w own tb X T) (hs : SubOk tree_Tree_open_71 T o T' a)
    (k : ∀ own' X' w', Eff (fun b => ∃ t, own b = some t) w w' → (∀ b, b < w.heap.size → own' b = own b) → TreeAt w' own' tb X' T' → K a w') : tree_Tree_Do_32 (some ⟨tb, 0, none⟩) o w K := by
  refine tree_Tree_Do_32_of _ _ w K ?_
  unfold F32
  refine newP_at fun b1 w2 e1 a1 E1 => ?_
  refine newP_at fun b3 w4 e3 a3 E3 => ?_
  refine cnd_f rfl ?_
  refine ldP_at o.1 (E3.at0 a1) rfl ?_
  rw [ho]
  have s1 := E1.size
  refine cnd_t (by decide) ?_
  refine ldA_all o (E3.at0 a1) ?_
  exact sub_at (w0 := w) hs (h.kept0 (E1.trans E3)) (E1.trans E3) h.lt (by omega) a3 k

theorem Do_unlink_of {o : OpC} {a : AnsC} {K : AnsC → World → Prop} (ho : o.1 = 11) (h : TreeAt w own tb X T) (hs : SubOk tree_Tree_remove_79 T o T' a)
    (k : ∀ own' X' w', Eff (fun b => ∃ t, own b = some t) w w' → (∀ b, b < w.heap.size → own' b = own b) → TreeAt w' own' tb X' T' → K a w') : tree_Tree_Do_32 (some ⟨tb, 0, none⟩) o w K := by
  refine tree_Tree_Do_32_of _ _ w K ?_
  unfold F32
  refine newP_at fun b1 w2 e1 a1 E1 => ?_
  refine newP_at fun b3 w4 e3 a3 E3 => ?_
  refine cnd_f rfl ?_
  refine ldP_at o.1 (E3.at0 a1) rfl ?_
  rw [ho]
  have s1 := E1.size
  refine cnd_f (by decide) ?_
  refine cnd_f (by decide) ?_
  refine ⟨fun b w' => w4 = w' ∧ b = false, cnd_f (by decide) ⟨rfl, by decide⟩, ?_⟩
  rintro b w' ⟨rfl, rfl⟩
  refine cnd_f rfl ?_
  refine ⟨fun b w' => w4 = w' ∧ b = false, cnd_f (by decide) ⟨rfl, by decide⟩, ?_⟩
  rintro b w' ⟨rfl, rfl⟩
  refine cnd_f rfl ?_
  refine cnd_f (by decide) ?_
  refine cnd_f (by decide) ?_
  refine cnd_f (by decide) ?_
  refine ⟨fun b w' => w4 = w' ∧ b = true, cnd_f (by decide) ⟨rfl, by decide⟩, ?_⟩
  rintro b w' ⟨rfl, rfl⟩
  refine cnd_t rfl ?_
  refine ldA_all o (E3.at0 a1) ?_
  exact sub_at (w0 := w) hs (h.kept0 (E1.trans E3)) (E1.trans E3) h.lt (by omega) a3 k

theorem Do_link_of {o : OpC} {a : AnsC} {K : AnsC → World → Prop} (ho : o.1 = 12) (h : TreeAt w own tb X T) (hs : SubOk tree_Tree_link_80 T o T' a)
    (k : ∀ own' X' w', Eff (fun b => ∃ t, own b = some t) w w' → (∀ b, b < w.heap.size → own' b = own b) → TreeAt w' own' tb X' T' → K a w') : tree_Tree_Do_32 (some ⟨tb, 0, none⟩) o w K := by
  refine tree_Tree_Do_32_of _ _ w K ?_
  unfold F32
  refine newP_at fun b1 w2 e1 a1 E1 => ?_
  refine newP_at fun b3 w4 e3 a3 E3 => ?_
  refine cnd_f rfl ?_
  refine ldP_at o.1 (E3.at0 a1) rfl ?_
  rw [ho]
  have s1 := E1.size
  refine cnd_f (by decide) ?_
  refine cnd_f (by decide) ?_
  refine ⟨fun b w' => w4 = w' ∧ b = false, cnd_f (by decide) ⟨rfl, by decide⟩, ?_⟩
  rintro b w' ⟨rfl, rfl⟩
  refine cnd_f rfl ?_
  refine ⟨fun b w' => w4 = w' ∧ b = false, cnd_f (by decide) ⟨rfl, by decide⟩, ?_⟩
  rintro b w' ⟨rfl, rfl⟩
  refine cnd_f rfl ?_
  refine cnd_f (by decide) ?_
  refine cnd_f (by decide) ?_
  refine cnd_f (by decide) ?_
  refine ⟨fun b w' => w4 = w' ∧ b = false, cnd_f (by decide) ⟨rfl, by decide⟩, ?_⟩
  rintro b w' ⟨rfl, rfl⟩
  refine cnd_f rfl ?_
  refine cnd_t (by decide) ?_
  refine ldA_all o (E3.at0 a1) ?_
  exact sub_at (w0 := w) hs (h.kept0 (E1.trans E3)) (E1.trans E3) h.lt (by omega) a3 k

theorem Do_rename_of {o : OpC} {a : AnsC} {K : AnsC → World → Prop} (ho : o.1 = 15) (h : TreeAt w own tb X T) (hs : SubOk tree_Tree_rename_83 T o T' a)
    (k : ∀ own' X' w', Eff (fun b => ∃ t, own b = some t) w w' → (∀ b, b < w.heap.size → own' b = own b) → TreeAt w' own' tb X' T' → K a w') : tree_Tree_Do_32 (some ⟨tb, 0, none⟩) o w K := by
  refine tree_Tree_Do_32_of _ _ w K ?_
  unfold F32
  refine newP_at fun b1 w2 e1 a1 E1 => ?_
  refine newP_at fun b3 w4 e3 a3 E3 => ?_
  refine cnd_f rfl ?_
  refine ldP_at o.1 (E3.at0 a1) rfl ?_
  rw [ho]
  have s1 := E1.size
  refine cnd_f (by decide) ?_
  refine cnd_f (by decide) ?_
  refine ⟨fun b w' => w4 = w' ∧ b = false, cnd_f (by decide) ⟨rfl, by decide⟩, ?_⟩
  rintro b w' ⟨rfl, rfl⟩
  refine cnd_f rfl ?_
  refine ⟨fun b w' => w4 = w' ∧ b = false, cnd_f (by decide) ⟨rfl, by decide⟩, ?_⟩
  rintro b w' ⟨rfl, rfl⟩
  refine cnd_f rfl ?_
  refine cnd_f (by decide) ?_
  refine cnd_f (by decide) ?_
  refine cnd_f (by decide) ?_
  refine ⟨fun b w' => w4 = w' ∧ b = false, cnd_f (by decide) ⟨rfl, by decide⟩, ?_⟩
  rintro b w' ⟨rfl, rfl⟩
  refine cnd_f rfl ?_
  refine cnd_f (by decide) ?_
  refine cnd_f (by decide) ?_
  refine ⟨fun b w' => w4 = w' ∧ b = false, cnd_f (by decide) ⟨rfl, by decide⟩, ?_⟩
  rintro b w' ⟨rfl, rfl⟩
  refine cnd_f rfl ?_
  refine cnd_t (by decide) ?_
  refine ldA_all o (E3.at0 a1) ?_
  exact sub_at (w0 := w) hs (h.kept0 (E1.trans E3)) (E1.trans E3) h.lt (by omega) a3 k

/-- A file is made, and opened. -/
theorem open_spec {o : OpC} {ini : List Str} {l : Str} {sp : Spot} {x : NodeV} {ws : List Str} {i : Nat} (ho : o.2.2.2.2.1 = 1) (hp : PlaceOk T o.2.2.2.2.2.1 ini l sp x ws) (hn : nodeAt x l = 0) (hsp : sp.1 ≠ 0)
    (h0 : 0 ≤ T.last) (h1 : T.last < 1000000) (hm : aget T.nodes (T.last + 1) = none) (hi : freeV T.fds = some i) :
    SubOk tree_Tree_open_71 T o { makeV T sp.1 l 1 x with fds := T.fds.set i (T.last + 1, 0, 1, true) } (0, (i : Int), 0, 0, ⟨none, 0, 0⟩, ⟨none, 0, 0⟩) := by
  intro w own tb X K h k
  refine tree_Tree_open_71_of _ _ w K ?_
  unfold F71
  refine newP_at fun b1 w2 e1 a1 E1 => ?_
  refine newP_at fun b3 w4 e3 a3 E3 => ?_
  have a1' := E3.at0 a1
  have s1 := E1.size
  have s3 := E3.size
  have E04 := E1.trans E3
  refine ⟨fun b w' => w4 = w' ∧ b = false, ?_, ?_⟩
  · refine ldP_at o.2.2.2.2.1 a1' rfl ?_
    rw [ho]
    refine cnd_f (by decide) ?_
    refine ldP_at o.2.2.2.2.1 a1' rfl ?_
    rw [ho]
    refine cnd_f (by decide) ?_
    refine ldP_at o.2.2.2.2.1 a1' rfl ?_
    rw [ho]
    exact cnd_f (by rfl) ⟨rfl, rfl⟩
  rintro b w' ⟨rfl, rfl⟩
  refine cnd_f rfl ?_
  refine newP_at fun b16 w17 e16 a16 E16 => ?_
  refine stN_all a16 rfl rfl fun w18 a18 E18 => ?_
  have s16 := E16.size
  have s18 := E18.size
  have E418 : Eff No w4 w18 := E16.fresh E18 (by omega)
  have a1'' := E418.at0 a1'
  refine ldP_at o.2.2.2.2.1 a1'' rfl ?_
  rw [ho]
  -- the place
  refine ⟨fun _ w' => Eff No w4 w' ∧ At w' b16 (.cells #[(.int .i64 0), (.int .i64 sp.1), (.string l)] 151 (0, 0)), ?_, ?_⟩
  · refine cnd_t (by rfl) ?_
    refine ldP_at o.2.2.2.2.2.1 a1'' rfl ?_
    refine place_spec (h.kept0 (E04.trans E418)) hp fun w25 E25 => ?_
    refine newP_at fun b26 w27 e26 a26 E26 => ?_
    refine stN_all a26 rfl rfl fun w28 a28 E28 => ?_
    have s25 := E25.size
    have E2528 : Eff No w25 w28 := E26.fresh E28 (by omega)
    refine cnd_f rfl ?_
    refine ⟨fun b w' => w28 = w' ∧ b = false, ?_, ?_⟩
    · refine ldP_at (nodeAt x l) a28 rfl ?_
      exact cnd_f (by rw [hn]; rfl) ⟨rfl, rfl⟩
    rintro b w' ⟨rfl, rfl⟩
    refine cnd_f rfl ?_
    refine ldA_all (nodeAt x l, sp.1, l) a28 ?_
    refine stN_all ((E25.trans E2528).at0 a18) rfl rfl fun w43 a43 E43 => ?_
    have a43' : At w43 b16 (.cells #[(.int .i64 (nodeAt x l)), (.int .i64 sp.1), (.string l)] 151 (0, 0)) := a43
    rw [hn] at a43'
    exact ⟨(E418.trans (E25.trans E2528)).fresh E43 (by omega), a43'⟩
  rintro _ w22 ⟨E22, a22⟩
  have s22 := E22.size
  refine ⟨fun b w' => w22 = w' ∧ b = false, ?_, ?_⟩
  · refine ldP_at 0 a22 rfl ?_
    refine cnd_f rfl ?_
    refine ldP_at sp.1 a22 rfl ?_
    exact ⟨rfl, by simpa using hsp⟩
  rintro b w' ⟨rfl, rfl⟩
  refine ⟨fun _ w' => w22 = w', cnd_f rfl rfl, ?_⟩
  rintro _ w' rfl
  have a22' := a22.drew
  refine ⟨fun b w' => w22.drew = w' ∧ b = false, ?_, ?_⟩
  · refine ldP_at 0 a22' rfl ?_
    exact cnd_f rfl ⟨rfl, rfl⟩
  rintro b w' ⟨rfl, rfl⟩
  refine cnd_f rfl ?_
  refine onSome_some ?_
  have E022 := (E04.trans E22).thenDrew
  have h22 := h.kept0 E022
  have s022 := E022.size
  have hd22 : w22.drew.heap.size = w22.heap.size := rfl
  rw [addr_add]
  refine ldP_at (some ⟨X.fb, 0, none⟩) h22.top rfl ?_
  obtain ⟨hlt, hfree, _⟩ := List.findIdx?_eq_some_iff_getElem.1 hi
  refine List_spec h22.fds h22.fdsL ⟨_, List.getElem_mem hlt, by simpa using hfree⟩ fun sl w82 E82 hsl => ?_
  refine cnd_f (by simp; omega) ?_
  have a82 := E82.at0 a22'
  have s82 := E82.size
  refine ldP_at 0 a82 rfl ?_
  have E082 := E022.trans E82
  have h82 := h.kept0 E082
  have hn3 : own b3 = none := h.fresh (by omega)
  have hn16 : own b16 = none := h.fresh (by omega)
  have hn1 : own b1 = none := h.fresh (by omega)
  have E482 : Eff No w4 w82 := E22.thenDrew.trans E82
  have l16 := a82.lt
  have l3 := a3.lt
  have l1 := a1'.lt
  refine ⟨fun _ w' => ∃ own' X', Eff (fun b => ∃ t, own b = some t) w w' ∧ (∀ b, b < w82.heap.size → own' b = own b) ∧ TreeAt w' own' tb X' (makeV T sp.1 l 1 x) ∧ At w' b16 (.cells #[(.int .i64 (T.last + 1)), (.int .i64 sp.1), (.string l)] 151 (0, 0)) ∧
      At w' b3 (.cells #[(.int .i64 0), (.int .i64 0), (.int .i64 0), (.int .i64 0), (.slice none 0 0), (.slice none 0 0)] 43 (0, 0)) ∧ At w' b1 (.cells (Carr.cells _ o).toArray 28 (0, 0)) ∧ w82.heap.size ≤ w'.heap.size, ?_, ?_⟩
  · refine cnd_t rfl ?_
    refine ldA_all (0, sp.1, l) a82 ?_
    refine make_spec (kind := 1) (d := x) h82 (.inl rfl) hp.node hp.dir h0 h1 hm fun own' X' w93 E93 ho' h93 => ?_
    have a93 := E93.at a82 (by rw [hn16]; simp)
    refine stP_at (i := 0) a93 (by simp) rfl fun w94 a94 E94 => ?_
    have hn16' : own' b16 = none := (ho' b16 l16).trans hn16
    have hne : b16 ≠ b3 := by have := E16.size; omega
    have hne1 : b16 ≠ b1 := by have := E16.size; omega
    refine ⟨own', X', (E082.up.trans E93).fresh E94 (by omega), ho', h93.kept E94 fun b t hb e => ?_, a94, ?_, ?_, ?_⟩
    · have e' : b = b16 := e
      rw [e', hn16'] at hb; cases hb
    · exact E94.at (E93.at (E482.at0 a3) (by rw [hn3]; simp)) (fun e => hne (Eq.symm e))
    · exact E94.at (E93.at (E482.at0 a1') (by rw [hn1]; simp)) (fun e => hne1 (Eq.symm e))
    · have := E93.size; have := E94.size; omega
  rintro _ w90 ⟨own', X', E90, ho', h90, a90, a390, a190, s90⟩
  refine ldP_at o.2.2.2.2.1 a190 rfl ?_
  rw [ho]
  refine ⟨fun _ w' => w90 = w', cnd_f (by rfl) rfl, ?_⟩
  rintro _ w' rfl
  refine onSome_some ?_
  rw [addr_add]
  have h90' := h90.kept0 (Eff.drew w90)
  refine ldP_at (some ⟨X'.fb, 0, none⟩) h90'.top rfl ?_
  refine ldP_at (T.last + 1) a90.drew rfl ?_
  refine ldP_at o.2.2.2.2.1 a190.drew rfl ?_
  rw [ho]
  refine TOpen_spec h90'.fds h90'.fdsL hi fun w107 E107 a107 => ?_
  have h107 := h90'.setFds E107 a107 (by simp; exact h.fdsL)
  have hfb : ∀ b, own b = none → b < w82.heap.size → ¬ b = X'.fb := fun b hb hl e => by
    have := h90.fdsO
    rw [← e, ho' b hl, hb] at this
    cases this
  have a3107 := E107.at a390.drew (hfb b3 hn3 (by have := E482.size; omega))
  refine answer_at (a := (0, (i : Int), 0, 0, ⟨none, 0, 0⟩, ⟨none, 0, 0⟩)) a3107 rfl fun w108 E108 => ?_
  have hn3' : own' b3 = none := (ho' b3 (by have := E482.size; omega)).trans hn3
  refine k own' X' w108 ?_ (fun b hb => ho' b (by have := E082.size; omega)) (h107.kept E108 fun b t hb e => ?_)
  · refine (E90.thenDrew.comp E107 fun b hb e => ?_).fresh E108 (by omega)
    have := h90.fdsO
    have e' : b = X'.fb := e
    rw [← e', ho' b (by have := E082.size; omega)] at this
    exact ⟨_, this⟩
  · have e' : b = b3 := e
    rw [e', hn3'] at hb; cases hb

end
end Go.Proofs.YtcpoglgnkedpaaaGreatDoor

/-
  tree: forget, take (a file that stays), remove.
-/
namespace Go.Proofs.YtcpoglgnkedpaaaGreatDoor
open Go Go.Vc Go.Proofs

/-- A node stays when it loses its last name: it is the root, or open. -/
def staysB (T : TreeV) (n : Int) (x : NodeV) : Bool := !(x.links == 0 && (n != 1 && !holdsFd T.fds n))

section
variable {w : World} {own : Owner} {tb : Nat} {X : TreeX} {T : TreeV}

theorem forget_spec {n : Int} {x : NodeV} {K : Tup [] → World → Prop} (h : TreeAt w own tb X T) (hx : aget T.nodes n = some x) (hs : staysB T n x = true) (k : ∀ w', Eff No w w' → K () w') : tree_Tree_forget_134 (some ⟨tb, 0, none⟩) n w K := by
  refine tree_Tree_forget_134_of _ _ w K ?_
  unfold F134
  refine onSome_some ?_
  refine ldP_at (some X.mb) h.top rfl ?_
  obtain ⟨nb, ds, ws, m, l1, nA, l2⟩ := h.look hx
  refine ⟨_, l1, ?_⟩
  unfold staysB at hs
  refine ⟨fun b w' => Eff No w w' ∧ b = false, ?_, ?_⟩
  · refine cnd_t rfl ?_
    refine onSome_some ?_
    refine ldP_at x.links nA.cells rfl ?_
    refine cnd_intro (fun h1 => ?_) (fun _ => ⟨Eff.refl _ _, rfl⟩)
    refine cnd_intro (fun h2 => ?_) (fun _ => ⟨Eff.refl _ _, rfl⟩)
    refine onSome_some ?_
    rw [addr_add]
    refine ldP_at (some ⟨X.fb, 0, none⟩) h.top rfl ?_
    refine Holds_spec h.fds h.fdsL fun w12 E12 => ⟨E12, ?_⟩
    rw [h1, h2] at hs
    simpa using hs
  rintro b w6 ⟨E6, rfl⟩
  exact cnd_f rfl (k w6 E6)

/-- A tree behind 'take': a file loses a name, and stays. -/
def takeV (T : TreeV) (dir : Int) (name : Str) (n : Int) (d x : NodeV) : TreeV := { T with nodes := aset (aset T.nodes dir { d with names := adel d.names name }) n { x with links := w64 (x.links - 1) } }

theorem take_spec {dir n : Int} {name : Str} {d x : NodeV} {K : Tup [] → World → Prop} (h : TreeAt w own tb X T) (hd : aget T.nodes dir = some d) (hk : d.kind = 2) (hn : nodeAt d name = n) (hx : aget T.nodes n = some x) (hxk : x.kind ≠ 2) (hne : dir ≠ n)
    (hs : staysB T n { x with links := w64 (x.links - 1) } = true)
    (k : ∀ w', Eff (fun b => ∃ t, own b = some t) w w' → TreeAt w' own tb X (takeV T dir name n d x) → K () w') : tree_Tree_take_138 (some ⟨tb, 0, none⟩) dir name w K := by
  refine tree_Tree_take_138_of _ _ _ w K ?_
  unfold F138
  refine onSome_some ?_
  refine ldP_at (some X.mb) h.top rfl ?_
  obtain ⟨nb, ds, ws, m, l1, nA, l2⟩ := h.look hd
  refine ⟨_, l1, ?_⟩
  refine onSome_some ?_
  obtain ⟨b, rfl⟩ := nA.dir hk
  refine ldP_at (some b) nA.cells rfl ?_
  refine ⟨n, ?_, ?_⟩
  · have := MapO.int1 keyS und66 nA.nm name
    rw [show (aget d.names name).getD 0 = n from hn] at this
    exact this
  refine onSome_some ?_
  refine ldP_at (some b) nA.cells rfl ?_
  obtain ⟨w10, r1, r2, r3⟩ := MapF.del (ty := 0) keyS und66 nA.nm.f name
  refine ⟨(), w10, r1, ?_⟩
  have n10 := nA.reNames r3 r2
  have E010 : Eff (fun c => c = b) w w10 := r3
  have T10 : TreeAt w10 own tb X { T with nodes := aset T.nodes dir { d with names := adel d.names name } } := h.setNode l2 E010 (fun c t hc e => by
    rw [e, nA.nmO b rfl] at hc; cases hc; rfl) (fun _ _ => rfl) (fun c t hc => Nat.lt_of_lt_of_le (h.lt c t hc) E010.size) n10
  refine onSome_some ?_
  refine ldP_at (some X.mb) T10.top rfl ?_
  have hx10 : aget (aset T.nodes dir { d with names := adel d.names name }) n = some x := by rw [aget_aset, if_neg (Ne.symm hne)]; exact hx
  obtain ⟨nb3, ds3, ws3, m3, l5, nA3, l6⟩ := T10.look hx10
  refine ⟨_, l5, ?_⟩
  refine onSome_some ?_
  refine ldP_at x.links nA3.cells rfl ?_
  refine onSome_some ?_
  refine stP_at (i := 5) nA3.cells (by simp) rfl fun w17 a17 E17 => ?_
  refine onSome_some ?_
  refine ldP_at x.kind a17 rfl ?_
  refine cnd_f (by simpa using hxk) ?_
  have n17 := nA3.reCells x.most (w64 (x.links - 1)) x.above E17 a17
  have T17 : TreeAt w17 own tb X (takeV T dir name n d x) := T10.setNode l6 E17 (fun c t hc e => by rw [e, nA3.o] at hc; cases hc; rfl) (fun _ _ => rfl) (fun c t hc => Nat.lt_of_lt_of_le (T10.lt c t hc) E17.size) n17
  have E017 : Eff (fun c => ∃ t, own c = some t) w w17 := (E010.mono fun c _ e => ⟨.names dir, by rw [e]; exact nA.nmO b rfl⟩).comp E17 fun c _ e => ⟨.node n, by rw [e]; exact nA3.o⟩
  refine forget_spec (x := { x with links := w64 (x.links - 1) }) T17 ?_ hs fun w25 E25 => ?_
  · show aget (aset _ n _) n = _
    rw [aget_aset, if_pos rfl]
  · exact k w25 (E017.thenNo E25) (T17.kept0 E25)

/-- A file is unlinked, and stays. -/
theorem remove_spec {o : OpC} {ini : List Str} {l : Str} {sp : Spot} {d x : NodeV} {ws : List Str} {n : Int} (ho : o.1 = 11) (hp : PlaceOk T o.2.2.2.2.2.1 ini l sp d ws) (hn : nodeAt d l = n) (h0 : n ≠ 0) (hx : aget T.nodes n = some x) (hxk : x.kind ≠ 2) (hne : sp.1 ≠ n)
    (hs : staysB T n { x with links := w64 (x.links - 1) } = true) :
    SubOk tree_Tree_remove_79 T o (takeV T sp.1 l n d x) (ansCode 0) := by
  intro w own tb X K h k
  refine tree_Tree_remove_79_of _ _ w K ?_
  unfold F79
  refine newP_at fun b1 w2 e1 a1 E1 => ?_
  refine newP_at fun b3 w4 e3 a3 E3 => ?_
  have a1' := E3.at0 a1
  have s1 := E1.size
  have s3 := E3.size
  have E04 := E1.trans E3
  refine ldP_at o.2.2.2.2.2.1 a1' rfl ?_
  refine place_spec (h.kept0 E04) hp fun w7 E7 => ?_
  rw [hn]
  refine newP_at fun b8 w9 e8 a8 E8 => ?_
  refine stN_all a8 rfl rfl fun w10 a10 E10 => ?_
  have s7 := E7.size
  have E710 : Eff No w7 w10 := E8.fresh E10 (by omega)
  have s710 := E710.size
  refine cnd_f rfl ?_
  refine ldP_at n a10 rfl ?_
  refine cnd_f (by simpa using h0) ?_
  refine onSome_some ?_
  have E410 := (E7.trans E710).thenDrew
  have E010 := E04.trans E410
  have h10 := h.kept0 E010
  refine ldP_at (some X.mb) h10.top rfl ?_
  refine ldP_at n a10.drew rfl ?_
  obtain ⟨nb, ds, ws', m, l1, nA, l2⟩ := h10.look hx
  refine ⟨_, l1, ?_⟩
  have a1'' := E410.at0 a1'
  refine ⟨fun b w' => w10.drew = w' ∧ b = false, ?_, ?_⟩
  · refine ldP_at o.1 a1'' rfl ?_
    rw [ho]
    exact cnd_f rfl ⟨rfl, rfl⟩
  rintro b w' ⟨rfl, rfl⟩
  refine cnd_f rfl ?_
  refine ⟨fun b w' => w10.drew = w' ∧ b = false, ?_, ?_⟩
  · refine ldP_at o.1 a1'' rfl ?_
    rw [ho]
    exact cnd_f rfl ⟨rfl, rfl⟩
  rintro b w' ⟨rfl, rfl⟩
  refine cnd_f rfl ?_
  refine ldP_at o.1 a1'' rfl ?_
  rw [ho]
  refine cnd_t rfl ?_
  refine onSome_some ?_
  refine ldP_at x.kind nA.cells rfl ?_
  refine cnd_f (by simpa using hxk) ?_
  refine ldP_at sp.1 a10.drew rfl ?_
  refine ldP_at l a10.drew rfl ?_
  have hn3 : own b3 = none := h.fresh (by omega)
  refine take_spec h10 hp.node hp.dir hn hx hxk hne hs fun w55 E55 h55 => ?_
  refine answer_at (a := ansCode 0) (E55.at (E410.at0 a3) (by rw [hn3]; simp)) rfl fun w56 E56 => ?_
  refine k own X w56 ((E010.up.trans E55).fresh E56 (by omega)) (fun _ _ => rfl) (h55.kept E56 fun b t hb e => ?_)
  have e' : b = b3 := e
  rw [e', hn3] at hb; cases hb

end
end Go.Proofs.YtcpoglgnkedpaaaGreatDoor

/-
  tree: link, rename (of files).
-/
namespace Go.Proofs.YtcpoglgnkedpaaaGreatDoor
open Go Go.Vc Go.Proofs

section
variable {w : World} {own : Owner} {tb : Nat} {X : TreeX} {T : TreeV}

/-- One more name of a file. -/
theorem link_spec {o : OpC} {s1 : Spot} {x : NodeV} {ini : List Str} {l : Str} {sp : Spot} {d : NodeV} {ws : List Str} (hp1 : okPath o.2.2.2.2.2.1 = true) (hr : walkV T root0 (partsV o.2.2.2.2.2.1) = some (s1, 0)) (hx : aget T.nodes s1.1 = some x) (hxk : x.kind ≠ 2)
    (hp : PlaceOk T o.2.2.2.2.2.2.1 ini l sp d ws) (hn : nodeAt d l = 0) (hne : sp.1 ≠ s1.1) : SubOk tree_Tree_link_80 T o (addV T sp.1 l s1.1 d x) (ansCode 0) := by
  intro w own tb X K h k
  refine tree_Tree_link_80_of _ _ w K ?_
  unfold F80
  refine newP_at fun b1 w2 e1 a1 E1 => ?_
  refine newP_at fun b3 w4 e3 a3 E3 => ?_
  have a1' := E3.at0 a1
  have s1' := E1.size
  have s3 := E3.size
  have E04 := E1.trans E3
  refine ldP_at o.2.2.2.2.2.1 a1' rfl ?_
  refine find_spec (h.kept0 E04) hp1 hr fun w7 E7 => ?_
  refine newP_at fun b8 w9 e8 a8 E8 => ?_
  refine stN_all a8 rfl rfl fun w10 a10 E10 => ?_
  have s7 := E7.size
  have E710 : Eff No w7 w10 := E8.fresh E10 (by omega)
  refine cnd_f rfl ?_
  refine onSome_some ?_
  have E410 := (E7.trans E710).thenDrew
  have E010 := E04.trans E410
  have h10 := h.kept0 E010
  refine ldP_at (some X.mb) h10.top rfl ?_
  refine ldP_at s1.1 a10.drew rfl ?_
  obtain ⟨nb, ds, ws', m, l1, nA, l2⟩ := h10.look hx
  refine ⟨_, l1, ?_⟩
  refine onSome_some ?_
  refine ldP_at x.kind nA.cells rfl ?_
  refine cnd_f (by simpa using hxk) ?_
  refine ldP_at o.2.2.2.2.2.2.1 (E410.at0 a1') rfl ?_
  refine fresh_spec h10 hp hn fun w27 E27 => ?_
  refine newP_at fun b28 w29 e28 a28 E28 => ?_
  refine stN_all a28 rfl rfl fun w30 a30 E30 => ?_
  have s27 := E27.size
  have E2730 : Eff No w27 w30 := E28.fresh E30 (by omega)
  have E1030 := E27.trans E2730
  have E030 := E010.trans E1030
  refine cnd_f rfl ?_
  refine ldP_at sp.1 a30 rfl ?_
  refine ldP_at l a30 rfl ?_
  refine ldP_at s1.1 (E1030.at0 a10.drew) rfl ?_
  have hn3 : own b3 = none := h.fresh (by omega)
  refine add_spec (h.kept0 E030) hp.node hp.dir hx hne fun w39 E39 h39 => ?_
  refine answer_at (a := ansCode 0) (E39.at ((E410.trans E1030).at0 a3) (by rw [hn3]; simp)) rfl fun w40 E40 => ?_
  refine k own X w40 ((E030.up.trans E39).fresh E40 (by omega)) (fun _ _ => rfl) (h39.kept E40 fun b t hb e => ?_)
  have e' : b = b3 := e
  rw [e', hn3] at hb; cases hb

/-- A tree behind a file's move, but for what it replaces. -/
def moveA (T : TreeV) (f : Int) (fname : Str) (n : Int) (dF x : NodeV) : TreeV :=
  { T with nodes := aset (aset T.nodes f { dF with names := adel dF.names fname }) n { x with links := w64 (x.links - 1) } }

/-- What a rename replaces. -/
def OverOk (T T1 : TreeV) (t : Int) (tname : Str) (d2 : NodeV) (m : Int) : Prop :=
  (m = 0 ∧ T1 = T) ∨ (m ≠ 0 ∧ ∃ y, aget T.nodes m = some y ∧ y.kind ≠ 2 ∧ t ≠ m ∧ staysB T m { y with links := w64 (y.links - 1) } = true ∧ T1 = takeV T t tname m d2 y)

theorem rename_spec {o : OpC} {ini1 ini2 : List Str} {l1 l2 : Str} {sp1 sp2 : Spot} {d1 d2 dF dT x : NodeV} {ws1 ws2 : List Str} {n m : Int} {T1 : TreeV}
    (hp1 : PlaceOk T o.2.2.2.2.2.1 ini1 l1 sp1 d1 ws1) (hn1 : nodeAt d1 l1 = n) (hn0 : n ≠ 0) (hx : aget T.nodes n = some x) (hxk : x.kind ≠ 2)
    (hp2 : PlaceOk T o.2.2.2.2.2.2.1 ini2 l2 sp2 d2 ws2) (hm : nodeAt d2 l2 = m) (hmn : m ≠ n) (hov : OverOk T T1 sp2.1 l2 d2 m)
    (hF : aget T1.nodes sp1.1 = some dF) (hFk : dF.kind = 2) (hx1 : aget T1.nodes n = some x) (hfn : sp1.1 ≠ n)
    (hT : aget (moveA T1 sp1.1 l1 n dF x).nodes sp2.1 = some dT) (hTk : dT.kind = 2) (htn : sp2.1 ≠ n) :
    SubOk tree_Tree_rename_83 T o (addV (moveA T1 sp1.1 l1 n dF x) sp2.1 l2 n dT { x with links := w64 (x.links - 1) }) (ansCode 0) := by
  intro w own tb X K h k
  refine tree_Tree_rename_83_of _ _ w K ?_
  unfold F83
  refine newP_at fun b1 w2 e1 a1 E1 => ?_
  refine newP_at fun b3 w4 e3 a3 E3 => ?_
  have a1' := E3.at0 a1
  have s1 := E1.size
  have s3 := E3.size
  have E04 := E1.trans E3
  refine ldP_at o.2.2.2.2.2.1 a1' rfl ?_
  refine ldP_at o.2.2.2.2.2.2.1 a1' rfl ?_
  refine newP_at fun b7 w8 e7 a7 E7 => ?_
  have s7 := E7.size
  refine loopP_count (fun c s w1 => (s = 0 ∧ c = 2 ∨ s = 1 ∧ c = 1 ∨ s = 2 ∧ c = 0) ∧ Eff No w8 w1) ⟨2, .inl ⟨rfl, rfl⟩, Eff.refl _ _⟩ ?_
  rintro c s w11 ⟨hc, E11⟩
  have a7' := E11.at0 a7
  rcases hc with ⟨rfl, rfl⟩ | ⟨rfl, rfl⟩ | ⟨rfl, rfl⟩
  · refine cnd_t rfl ?_
    refine ⟨by omega, by omega, ?_⟩
    rw [addr_add]
    refine ldP_at o.2.2.2.2.2.1 a7' rfl ?_
    refine Last_spec hp1.ok hp1.parts hp1.dots hp1.size1 fun w14 E14 => ?_
    exact cnd_f rfl ⟨1, by omega, .inr (.inl ⟨by kernel_rfl, rfl⟩), E11.trans E14⟩
  · refine cnd_t rfl ?_
    refine ⟨by omega, by omega, ?_⟩
    rw [addr_add]
    refine ldP_at o.2.2.2.2.2.2.1 a7' rfl ?_
    refine Last_spec hp2.ok hp2.parts hp2.dots hp2.size1 fun w14 E14 => ?_
    exact cnd_f rfl ⟨0, by omega, .inr (.inr ⟨by kernel_rfl, rfl⟩), E11.trans E14⟩
  refine cnd_f rfl ?_
  have E411 : Eff No w4 w11 := E7.trans E11
  have a111 := E411.at0 a1'
  refine ldP_at o.2.2.2.2.2.1 a111 rfl ?_
  have E011 := E04.trans E411
  refine place_spec (h.kept0 E011) hp1 fun w21 E21 => ?_
  rw [hn1]
  refine newP_at fun b22 w23 e22 a22 E22 => ?_
  refine stN_all a22 rfl rfl fun w24 a24 E24 => ?_
  have s411 := E411.size
  have s21 := E21.size
  have E2124 : Eff No w21 w24 := E22.fresh E24 (by omega)
  have E1124 := E21.trans E2124
  have E424 := E411.trans E1124
  have E024 := E04.trans E424
  refine cnd_f rfl ?_
  refine ldP_at n a24 rfl ?_
  refine cnd_f (by simpa using hn0) ?_
  refine ldP_at o.2.2.2.2.2.2.1 (E1124.at0 a111) rfl ?_
  refine place_spec (h.kept0 E024) hp2 fun w36 E36 => ?_
  rw [hm]
  refine newP_at fun b37 w38 e37 a37 E37 => ?_
  refine stN_all a37 rfl rfl fun w39 a39 E39 => ?_
  have s424 := E424.size
  have s36 := E36.size
  have E3639 : Eff No w36 w39 := E37.fresh E39 (by omega)
  have E2439 := (E36.trans E3639).thenDrew
  have E439 := E424.trans E2439
  have E039 := E04.trans E439
  refine cnd_f rfl ?_
  refine onSome_some ?_
  have h39 := h.kept0 E039
  refine ldP_at (some X.mb) h39.top rfl ?_
  have a22' := E2439.at0 a24
  have a37' := a39.drew
  refine ldP_at n a22' rfl ?_
  obtain ⟨nb, ds, ws', mm, k1, nA, k2⟩ := h39.look hx
  refine ⟨_, k1, ?_⟩
  refine onSome_some ?_
  refine ldP_at (some X.mb) h39.top rfl ?_
  refine ldP_at n a22' rfl ?_
  refine ⟨_, k1, ?_⟩
  refine onSome_some ?_
  refine ldP_at x.kind nA.cells rfl ?_
  have hxk' : (x.kind == 2) = false := by simpa using hxk
  refine ⟨fun b w' => w39.drew = w' ∧ b = false, cnd_f hxk' ⟨rfl, rfl⟩, ?_⟩
  rintro b w' ⟨rfl, rfl⟩
  refine cnd_f rfl ?_
  have E039' := E039.thenDrew
  refine ⟨fun b w' => w39.drew.drew = w' ∧ b = false, cnd_f hxk' ⟨⟨rfl, rfl⟩, ⟨rfl, rfl⟩⟩, ?_⟩
  rintro b w' ⟨rfl, rfl⟩
  refine cnd_f rfl ?_
  have a22d := a22'.drew
  have a37d := a37'.drew
  have hd39 : w39.drew.drew.heap.size = w39.heap.size := rfl
  refine ldP_at m a37d rfl ?_
  refine ldP_at n a22d rfl ?_
  refine cnd_f (by simpa using hmn) ?_
  refine ldP_at m a37d rfl ?_
  have h39' := h.kept0 E039'
  have E439' := E439.thenDrew
  have hn3 : own b3 = none := h.fresh (by omega)
  have hn22 : own b22 = none := h.fresh (by omega)
  have hn37 : own b37 = none := h.fresh (by have := E424.size; omega)
  -- what is replaced
  refine ⟨fun _ w' => Eff (fun b => ∃ t, own b = some t) w39.drew.drew w' ∧ TreeAt w' own tb X T1, ?_, ?_⟩
  · rcases hov with ⟨rfl, rfl⟩ | ⟨hm0, y, hy, hyk, htm, hst, rfl⟩
    · exact cnd_f rfl ⟨Eff.refl _ _, h39'⟩
    · refine cnd_t (by simpa using hm0) ?_
      refine onSome_some ?_
      have h39d := h39'.kept0 (Eff.drew _)
      refine ldP_at (some X.mb) h39d.top rfl ?_
      refine ldP_at m a37d.drew rfl ?_
      obtain ⟨nb2, ds2, ws2', mm2, k3, nA2, k4⟩ := h39d.look hy
      refine ⟨_, k3, ?_⟩
      refine ⟨fun b w' => w39.drew.drew.drew = w' ∧ b = false, cnd_f hxk' ⟨rfl, rfl⟩, ?_⟩
      rintro b w' ⟨rfl, rfl⟩
      refine cnd_f rfl ?_
      refine ⟨fun b w' => w39.drew.drew.drew = w' ∧ b = false, cnd_f hxk' ⟨rfl, rfl⟩, ?_⟩
      rintro b w' ⟨rfl, rfl⟩
      refine cnd_f rfl ?_
      refine ⟨fun b w' => w39.drew.drew.drew = w' ∧ b = false, ?_, ?_⟩
      · refine cnd_t (by rw [hxk']; rfl) ?_
        refine onSome_some ?_
        refine ldP_at y.kind nA2.cells rfl ?_
        exact ⟨rfl, by simpa using hyk⟩
      rintro b w' ⟨rfl, rfl⟩
      refine cnd_f rfl ?_
      refine ldP_at sp2.1 a37d.drew rfl ?_
      refine ldP_at l2 a37d.drew rfl ?_
      refine take_spec h39d hp2.node hp2.dir hm hy hyk htm hst fun w134 E134 h134 => ⟨?_, h134⟩
      exact (Eff.drew _).up.trans E134
  rintro _ w98 ⟨E98, h98⟩
  have E98' := E98.thenDrew
  have h98' := h98.kept0 (Eff.drew w98)
  have a22e := E98'.at a22d (by rw [hn22]; simp)
  have a37e := E98'.at a37d (by rw [hn37]; simp)
  refine onSome_some ?_
  refine ldP_at (some X.mb) h98'.top rfl ?_
  refine ldP_at sp1.1 a22e rfl ?_
  obtain ⟨nbF, dsF, wsF, mF, k5, nF, k6⟩ := h98'.look hF
  refine ⟨_, k5, ?_⟩
  refine onSome_some ?_
  obtain ⟨bF, rfl⟩ := nF.dir hFk
  refine ldP_at (some bF) nF.cells rfl ?_
  refine ldP_at l1 a22e rfl ?_
  obtain ⟨w143, r1, r2, r3⟩ := MapF.del (ty := 0) keyS und66 nF.nm.f l1
  refine ⟨(), w143, r1, ?_⟩
  have nF' := nF.reNames r3 r2
  have T143 : TreeAt w143 own tb X { T1 with nodes := aset T1.nodes sp1.1 { dF with names := adel dF.names l1 } } := h98'.setNode k6 r3 (fun c t hc e => by
    rw [e, nF.nmO bF rfl] at hc; cases hc; rfl) (fun _ _ => rfl) (fun c t hc => Nat.lt_of_lt_of_le (h98'.lt c t hc) r3.size) nF'
  have hx143 : aget (aset T1.nodes sp1.1 { dF with names := adel dF.names l1 }) n = some x := by rw [aget_aset, if_neg (Ne.symm hfn)]; exact hx1
  obtain ⟨nb3, ds3, ws3, m3, k7, nA3, k8⟩ := T143.look hx143
  have e3' : nb3 = nb := by
    rw [k2] at k8
    cases k8
    rfl
  subst e3'
  refine onSome_some ?_
  refine ldP_at x.links nA3.cells rfl ?_
  refine onSome_some ?_
  refine stP_at (i := 5) nA3.cells (by simp) rfl fun w147 a147 E147 => ?_
  have n147 := nA3.reCells x.most (w64 (x.links - 1)) x.above E147 a147
  have T147 : TreeAt w147 own tb X (moveA T1 sp1.1 l1 n dF x) := T143.setNode k8 E147 (fun c t hc e => by rw [e, nA3.o] at hc; cases hc; rfl) (fun _ _ => rfl) (fun c t hc => Nat.lt_of_lt_of_le (T143.lt c t hc) E147.size) n147
  have E98147 : Eff (fun c => ∃ t, own c = some t) w98.drew w147 := (r3.mono fun c _ e => ⟨.names sp1.1, by rw [e]; exact nF.nmO bF rfl⟩).comp E147 fun c _ e => ⟨.node n, by rw [e]; exact nA3.o⟩
  have a22f := E98147.at a22e (by rw [hn22]; simp)
  have a37f := E98147.at a37e (by rw [hn37]; simp)
  refine ldP_at sp2.1 a37f rfl ?_
  refine ldP_at l2 a37f rfl ?_
  refine ldP_at n a22f rfl ?_
  refine add_spec (x := { x with links := w64 (x.links - 1) }) T147 hT hTk ?_ htn fun w152 E152 h152 => ?_
  · show aget (aset _ n _) n = _
    rw [aget_aset, if_pos rfl]
  have Eall : Eff (fun b => ∃ t, own b = some t) w39.drew.drew w152 := (E98'.trans E98147).trans E152
  refine answer_at (a := ansCode 0) (Eall.at (E439'.at0 a3) (by rw [hn3]; simp)) rfl fun w153 E153 => ?_
  refine k own X w153 ((E039'.up.trans Eall).fresh E153 (by omega)) (fun _ _ => rfl) (h152.kept E153 fun b t hb e => ?_)
  have e' : b = b3 := e
  rw [e', hn3] at hb; cases hb

end
end Go.Proofs.YtcpoglgnkedpaaaGreatDoor

/-
  may: Did of an open; the trees' operations as Did takes them.
-/
namespace Go.Proofs.YtcpoglgnkedpaaaGreatDoor
open Go Go.Vc Go.Proofs

section
variable {w w' : World} {own : HOwner} {hb : Nat} {tp tp' : Option Addr} {X : HistX} {le : List (Ent × Sl)} {lf : List (Int × Option Addr)} {lm : List (Int × Mark)} {H : HistV}

theorem HistAt.reOpen (h : HistAt w own {} hb tp X le lf lm H) {op : List (Int × Ent)} (hE : Eff (fun b => b = X.ob) w w') (hm : MapF iT.mk kE.mk w' X.ob op) : HistAt w' own {} hb tp X le lf lm { H with opened := op } := by
  have E2 : Eff (fun b => own b = some .opened) w w' := hE.mono fun b _ hb' => by rw [hb']; exact h.opeO
  have hd : ∀ b t, own b = some t → t ≠ .opened → ¬ own b = some .opened := fun b t hb' hne e => by rw [hb'] at e; cases e; exact hne rfl
  exact
    { lt := fun b t hb' => Nat.lt_of_lt_of_le (h.lt b t hb') E2.size
      top := E2.at h.top (hd _ _ h.topO (by simp))
      topO := h.topO
      num := h.num.kept E2 (hd _ _ h.numO (by simp))
      numO := h.numO
      fil := h.fil.kept E2 (fun _ _ => rfl) fun b t hb' ht' => hd b t hb' (by rintro rfl; cases ht')
      mar := h.mar.kept E2 (fun _ _ => rfl) (fun b hb' => hd b _ hb' (by simp)) fun p hp => by cases hp
      ent := h.ent.kept E2 (fun _ _ => rfl) (fun b t hb' ht' => hd b t hb' (by rintro rfl; cases ht')) fun p hp => by cases hp
      ope := hm
      opeO := h.opeO
      itE := h.itE
      itM := h.itM }

end

theorem Where_spec {w : World} {own : Owner} {tb : Nat} {X : TreeX} {T : TreeV} {p : Str} {s : Spot} {K : Int × Str × Bool → World → Prop} (h : TreeAt w own tb X T) (hp : okPath p = true) (hr : walkV T root0 (partsV p) = some (s, 0))
    (k : ∀ w', Eff No w w' → K (s.2.1, s.2.2, s.2.1 != 0) w') : tree_Tree_Where_35 (some ⟨tb, 0, none⟩) p w K := by
  refine tree_Tree_Where_35_of _ _ w K ?_
  unfold F35
  refine cnd_f rfl ?_
  refine find_spec h hp hr fun w2 E2 => ?_
  refine newP_at fun b3 w4 e3 a3 E3 => ?_
  refine stN_all a3 rfl rfl fun w5 a5 E5 => ?_
  have s2 := E2.size
  refine ldP_at s.2.1 a5.drew rfl ?_
  refine ldP_at s.2.2 a5.drew rfl ?_
  refine cnd_t rfl ?_
  refine ldP_at s.2.1 a5.drew rfl ?_
  exact k _ ((E2.trans E3).fresh E5 (by omega)).thenDrew

/-- A history behind an open, ahead of what it makes last. -/
def didO (H : HistV) (T T' : TreeV) (number n : Int) (e : Ent) : HistV := { didV H T T' number with opened := aset (adel (didV H T T' number).opened n) n e }

section
variable {w : World} {F : Nat → Prop} {hb : Nat} {H H3 : HistV} {T T' : TreeV}

theorem Did_open_spec {o : OpC} {n number : Int} {s : Spot} {K : Bool → World → Prop} (h : HState w F hb H T) (hs : Small T) (hs' : Small T') (hn : NoteOk H T') (hdo : DoOk T o T' n) (ho : o.1 = 1)
    (hp : okPath o.2.2.2.2.2.1 = true) (hr : walkV T' root0 (partsV o.2.2.2.2.2.1) = some (s, 0)) (hsd : s.2.1 ≠ 0) (hl : LastOk (didO H T T' number n (s.2.1, s.2.2)) T' o H3)
    (k : ∀ F' w', Eff F w w' → (∀ b, b < w.heap.size → F' b → F b) → HState w' F' hb H3 T' → K true w') : may_History_Did_16 (some ⟨hb, 0, none⟩) o 0 number w K := by
  obtain ⟨own, ownT, tb, XT, X, le, lf, lm, hH, hT, hdis, hF1, hF2, hF3⟩ := h
  refine may_History_Did_16_of _ _ _ _ w K ?_
  unfold F16
  refine newP_at fun b1 w2 e1 a1 E1 => ?_
  refine cnd_f rfl ?_
  have h2 := hH.kept0 E1
  refine onSome_some ?_
  refine ldP_at (some ⟨tb, 0, none⟩) h2.top rfl ?_
  have s1 := E1.size
  refine Copy_spec (hT.kept0 E1) fun tb' own1 X1 w6 E6 hT6 hnew1 => ?_
  have s6 := E6.size
  refine ldA_all o (E6.at0 a1) ?_
  have l1 := a1.lt
  refine hdo w6 own1 tb' X1 _ hT6 fun own2 X2 w9 ans hans hansn E9 ho2 hT9 => ?_
  have s9 := E9.size
  have hnew2 : ∀ b t, own2 b = some t → w2.heap.size ≤ b := fun b t hb' => by
    by_cases hlt : b < w6.heap.size
    · rw [ho2 b hlt] at hb'; exact hnew1 b t hb'
    · omega
  have E29 : Eff No w2 w9 := E6.comp E9 fun b hb' ⟨t, ht⟩ => by have := hnew1 b t ht; omega
  have E09 := E1.trans E29
  refine newP_at fun b10 w11 e10 a10 E10 => ?_
  refine stN_all a10 rfl rfl fun w12 a12 E12 => ?_
  have E912 : Eff No w9 w12 := E10.fresh E12 (by omega)
  have s12 := E912.size
  have E012 := E09.trans E912
  refine cnd_f (by decide) ?_
  refine cnd_f (by decide) ?_
  refine ldP_at ans.1 a12 rfl ?_
  refine cnd_f (by rw [hans]; rfl) ?_
  refine cnd_f (by decide) ?_
  have h12 := hH.kept0 E012
  have hT12 := hT9.kept0 E912
  refine onSome_some ?_
  refine ldP_at (some ⟨tb, 0, none⟩) h12.top rfl ?_
  refine mfresh_spec hT12 hs' (hT.kept0 E012) hs fun w29 E29' => ?_
  have E029 := E012.trans E29'
  have h29 := hH.kept0 E029
  have s29 := E29'.size
  refine onSome_some ?_
  refine stP_at (i := 0) h29.top (by simp) rfl fun w31 a31 E31 => ?_
  have h31 : HistAt w31 own {} hb (some ⟨tb', 0, none⟩) X le lf lm H := h29.setTree E31 a31
  have s31 := E31.size
  have hhb : hb < w.heap.size := hH.top.lt
  have hT31 : TreeAt w31 own2 tb' X2 T' := (hT12.kept0 E29').kept E31 fun b t hb' e => by
    have e' : b = hb := e
    have := hnew2 b t hb'
    omega
  have a31b := E31.at ((E29.trans (E912.trans E29')).at0 a1) (show ¬ b1 = hb by omega)
  have a31c := E31.at (E29'.at0 a12) (show ¬ b10 = hb by omega)
  have l10 := a12.lt
  refine note_spec h31 hT31 hs' hn fun own3 le3 lf3 lm3 w33 E33 ho3 h33 => ?_
  have s33 := E33.size
  have hltw : ∀ b t, own b = some t → b < w.heap.size := hH.lt
  have hlt2 : ∀ b t, own2 b = some t → b < w9.heap.size := hT9.lt
  have hT33 := hT31.kept E33 fun b t hb' ⟨t', ht'⟩ => by
    have := hnew2 b t hb'
    have := hltw b t' ht'
    omega
  have a33 := E33.at a31b (fun ⟨t, ht⟩ => by have := hltw _ t ht; omega)
  have a33c := E33.at a31c (fun ⟨t, ht⟩ => by have := hltw _ t ht; omega)
  have hd3 : ∀ b t, own2 b = some t → own3 b = none := fun b t hb' => by
    have := hlt2 b t hb'
    have := hnew2 b t hb'
    rw [ho3 b (by omega)]
    cases hh : own b with
    | none => rfl
    | some t' => have := hltw b t' hh; omega
  -- so far, in F
  have Ef31 : Eff F w w31 := E029.up.comp E31 fun b hb' e => by rw [e]; exact hF1 _ _ hH.topO
  have Ef33 : Eff F w w33 := Ef31.comp E33 fun b hb' ⟨t, ht⟩ => hF1 b t ht
  refine ⟨fun _ w36 => Eff (fun b => ∃ t, own3 b = some t) w33 w36 ∧ HistAt w36 own3 {} hb (some ⟨tb', 0, none⟩) X le3 lf3 lm3 (didV H T T' number), ?_, ?_⟩
  · refine cnd_intro (fun hm => ?_) (fun hm => ?_)
    · have hm' : ¬ freshV T' T = 0 := by simpa using hm
      refine onSome_some ?_
      refine ldP_at (some X.nb) h33.top rfl ?_
      obtain ⟨w39, u1, u2, u3⟩ := h33.putNum (freshV T' T) number
      refine ⟨w39, u1, u2.mono fun b _ hb' => ⟨_, hb'⟩, ?_⟩
      rw [didV, if_neg hm']
      exact u3
    · have hm' : freshV T' T = 0 := by simpa using hm
      refine ⟨Eff.refl _ _, ?_⟩
      rw [didV, if_pos hm']
      exact h33
  rintro _ w36 ⟨E36, h36⟩
  have s36 := E36.size
  have o3w : ∀ b, b < w.heap.size → own3 b = own b := fun b hb' => ho3 b (by omega)
  have hT36 := hT33.kept E36 fun b t hb' ⟨t', ht'⟩ => by rw [hd3 b t hb'] at ht'; cases ht'
  have hnone : ∀ b, w.heap.size ≤ b → b < w31.heap.size → own3 b = none := fun b hge hlt => by
    rw [ho3 b hlt]
    cases hh : own b with
    | none => rfl
    | some t => have := hltw _ t hh; omega
  have hob1 : own3 b1 = none := hnone b1 (by omega) (by omega)
  have hob10 : own3 b10 = none := hnone b10 (by omega) (by omega)
  have a36 := E36.at a33 (fun ⟨t, ht⟩ => by rw [hob1] at ht; cases ht)
  have a36c := E36.at a33c (fun ⟨t, ht⟩ => by rw [hob10] at ht; cases ht)
  have Ef36 : Eff F w w36 := Ef33.comp E36 fun b hb' ⟨t, ht⟩ => by rw [o3w b hb'] at ht; exact hF1 b t ht
  refine ldP_at o.1 a36 rfl ?_
  refine cnd_t (by simpa using ho) ?_
  -- where it is
  refine onSome_some ?_
  have hD := h36.kept0 (Eff.drew w36)
  refine ldP_at (some X.ob) hD.top rfl ?_
  refine ldP_at ans.2.1 a36c.drew rfl ?_
  rw [hansn]
  obtain ⟨w45, r1, r2, r3⟩ := MapF.del (ty := 0) keyI und73 hD.ope n
  refine ⟨(), w45, r1, ?_⟩
  have h45 := hD.reOpen r3 r2
  have hne : ∀ b, own3 b = none → ¬ b = X.ob := fun b hb' e => by rw [e, hD.opeO] at hb'; cases hb'
  have a45 := r3.at a36.drew (hne b1 hob1)
  have a45c := r3.at a36c.drew (hne b10 hob10)
  refine ldP_at o.2.2.2.2.2.1 a45 rfl ?_
  have hT36' := hT36.kept0 (Eff.drew w36)
  have hT45 := hT36'.kept r3 fun b t hb' e => hne b (hd3 b t hb') e
  refine Where_spec hT45 hp hr fun w48 E48 => ?_
  refine cnd_t (by simpa using hsd) ?_
  refine onSome_some ?_
  have E48' := E48.thenDrew
  have h48 := h45.kept0 E48'
  refine ldP_at (some X.ob) h48.top rfl ?_
  refine ldP_at ans.2.1 (E48'.at0 a45c) rfl ?_
  rw [hansn]
  obtain ⟨w52, q1, q2, q3⟩ := MapF.put keyI und73 h48.ope n ((s.2.1, s.2.2) : Ent)
  refine ⟨w52, q1, ?_⟩
  have h52 : HistAt w52 own3 {} hb (some ⟨tb', 0, none⟩) X le3 lf3 lm3 (didO H T T' number n (s.2.1, s.2.2)) := h48.reOpen q3 q2
  have a52 := q3.at (E48'.at0 a45) (hne b1 hob1)
  have hT52 := (hT45.kept0 E48').kept q3 fun b t hb' e => hne b (hd3 b t hb') e
  have hobw : F X.ob ∨ w.heap.size ≤ X.ob := by
    by_cases hlt : X.ob < w.heap.size
    · have := hD.opeO
      rw [o3w _ hlt] at this
      exact .inl (hF1 _ _ this)
    · exact .inr (by omega)
  have Ef52 : Eff F w w52 := ((Ef36.thenDrew.comp r3 fun b hb' e => by
    have e' : b = X.ob := e
    rcases hobw with h' | h'
    · rw [e']; exact h'
    · omega).thenNo E48').comp q3 fun b hb' e => by
    have e' : b = X.ob := e
    rcases hobw with h' | h'
    · rw [e']; exact h'
    · omega
  have s52 : w31.heap.size ≤ w52.heap.size := by
    have := r3.size; have := E48'.size; have := q3.size
    have hdr : w36.drew.heap.size = w36.heap.size := rfl
    omega
  refine ldA_all o a52 ?_
  refine hl w52 own3 hb tb' X le3 lf3 lm3 own2 X2 _ h52 hT52 fun own4 le4 lf4 lm4 w61 E61 ho4 h61 => ?_
  have s61 := E61.size
  have hd4 : ∀ b t, own2 b = some t → own4 b = none := fun b t hb' => by
    have := hlt2 b t hb'
    rw [ho4 b (by omega)]
    exact hd3 b t hb'
  have hT61 := hT52.kept E61 fun b t hb' ⟨t', ht'⟩ => by rw [hd3 b t hb'] at ht'; cases ht'
  have o4w : ∀ b, b < w.heap.size → own4 b = own b := fun b hb' => (ho4 b (by omega)).trans (o3w b hb')
  refine k (fun b => (∃ t, own4 b = some t) ∨ ∃ t, own2 b = some t) w61 (Ef52.comp E61 fun b hb' ⟨t, ht⟩ => ?_) (fun b hb' hFb => ?_) ⟨own4, own2, tb', X2, X, le4, lf4, lm4, h61, hT61, fun b t hb' => ?_, fun b t hb' => .inl ⟨t, hb'⟩, fun b t hb' => .inr ⟨t, hb'⟩, fun b hb' => ?_⟩
  · rw [o3w b hb'] at ht; exact hF1 b t ht
  · rcases hFb with ⟨t, ht⟩ | ⟨t, ht⟩
    · rw [o4w b hb'] at ht; exact hF1 b t ht
    · have := hnew2 b t ht; omega
  · cases hh : own2 b with
    | none => rfl
    | some t' => rw [hd4 b t' hh] at hb'; cases hb'
  · rcases hb' with ⟨t, ht⟩ | ⟨t, ht⟩
    · exact h61.lt b t ht
    · exact hT61.lt b t ht

end
end Go.Proofs.YtcpoglgnkedpaaaGreatDoor

/-
  may: a row of operations; looks; closed checks.
-/
namespace Go.Proofs.YtcpoglgnkedpaaaGreatDoor
open Go Go.Vc Go.Proofs

/-! ### the trees' operations as Did takes them -/
theorem doOk_open {T : TreeV} {o : OpC} {ini : List Str} {l : Str} {sp : Spot} {x : NodeV} {ws : List Str} {i : Nat} (h1 : o.1 = 1) (ho : o.2.2.2.2.1 = 1) (hp : PlaceOk T o.2.2.2.2.2.1 ini l sp x ws) (hn : nodeAt x l = 0) (hsp : sp.1 ≠ 0)
    (hl0 : 0 ≤ T.last) (hl1 : T.last < 1000000) (hm : aget T.nodes (T.last + 1) = none) (hi : freeV T.fds = some i) :
    DoOk T o { makeV T sp.1 l 1 x with fds := T.fds.set i (T.last + 1, 0, 1, true) } (i : Int) := fun _w _own _tb _X _K h k =>
  Do_open_of h1 h (open_spec ho hp hn hsp hl0 hl1 hm hi) fun own' X' w' E ho' h' => k own' X' w' _ rfl rfl E ho' h'

theorem doOk_unlink {T : TreeV} {o : OpC} {ini : List Str} {l : Str} {sp : Spot} {d x : NodeV} {ws : List Str} {n : Int} (ho : o.1 = 11) (hp : PlaceOk T o.2.2.2.2.2.1 ini l sp d ws) (hn : nodeAt d l = n) (h0 : n ≠ 0) (hx : aget T.nodes n = some x) (hxk : x.kind ≠ 2) (hne : sp.1 ≠ n)
    (hs : staysB T n { x with links := w64 (x.links - 1) } = true) : DoOk T o (takeV T sp.1 l n d x) 0 := fun _w _own _tb _X _K h k =>
  Do_unlink_of ho h (remove_spec ho hp hn h0 hx hxk hne hs) fun own' X' w' E ho' h' => k own' X' w' _ rfl rfl E ho' h'

theorem doOk_link {T : TreeV} {o : OpC} {s1 : Spot} {x : NodeV} {ini : List Str} {l : Str} {sp : Spot} {d : NodeV} {ws : List Str} (ho : o.1 = 12) (hp1 : okPath o.2.2.2.2.2.1 = true) (hr : walkV T root0 (partsV o.2.2.2.2.2.1) = some (s1, 0)) (hx : aget T.nodes s1.1 = some x) (hxk : x.kind ≠ 2)
    (hp : PlaceOk T o.2.2.2.2.2.2.1 ini l sp d ws) (hn : nodeAt d l = 0) (hne : sp.1 ≠ s1.1) : DoOk T o (addV T sp.1 l s1.1 d x) 0 := fun _w _own _tb _X _K h k =>
  Do_link_of ho h (link_spec hp1 hr hx hxk hp hn hne) fun own' X' w' E ho' h' => k own' X' w' _ rfl rfl E ho' h'

theorem doOk_rename {T : TreeV} {o : OpC} {ini1 ini2 : List Str} {l1 l2 : Str} {sp1 sp2 : Spot} {d1 d2 dF dT x : NodeV} {ws1 ws2 : List Str} {n m : Int} {T1 : TreeV} (ho : o.1 = 15)
    (hp1 : PlaceOk T o.2.2.2.2.2.1 ini1 l1 sp1 d1 ws1) (hn1 : nodeAt d1 l1 = n) (hn0 : n ≠ 0) (hx : aget T.nodes n = some x) (hxk : x.kind ≠ 2)
    (hp2 : PlaceOk T o.2.2.2.2.2.2.1 ini2 l2 sp2 d2 ws2) (hm : nodeAt d2 l2 = m) (hmn : m ≠ n) (hov : OverOk T T1 sp2.1 l2 d2 m)
    (hF : aget T1.nodes sp1.1 = some dF) (hFk : dF.kind = 2) (hx1 : aget T1.nodes n = some x) (hfn : sp1.1 ≠ n)
    (hT : aget (moveA T1 sp1.1 l1 n dF x).nodes sp2.1 = some dT) (hTk : dT.kind = 2) (htn : sp2.1 ≠ n) :
    DoOk T o (addV (moveA T1 sp1.1 l1 n dF x) sp2.1 l2 n dT { x with links := w64 (x.links - 1) }) 0 := fun _w _own _tb _X _K h k =>
  Do_rename_of ho h (rename_spec hp1 hn1 hn0 hx hxk hp2 hm hmn hov hF hFk hx1 hfn hT hTk htn) fun own' X' w' E ho' h' => k own' X' w' _ rfl rfl E ho' h'

/-! ### a row of operations -/

/-- One operation is told: what it makes of a history and its tree. -/
def StepOk (H : HistV) (T : TreeV) (o : OpC) (number : Int) (H' : HistV) (T' : TreeV) : Prop :=
  ∀ (w : World) (F : Nat → Prop) (hb : Nat) (K : Bool → World → Prop), HState w F hb H T →
    (∀ F' w', Eff F w w' → (∀ b, b < w.heap.size → F' b → F b) → HState w' F' hb H' T' → K true w') → may_History_Did_16 (some ⟨hb, 0, none⟩) o 0 number w K

/-- Where a row of operations has come to, from w2 on. -/
def St (w2 : World) (F0 : Nat → Prop) (hb : Nat) (H : HistV) (T : TreeV) (w : World) : Prop :=
  ∃ F, Eff F0 w2 w ∧ (∀ b, b < w2.heap.size → F b → F0 b) ∧ HState w F hb H T

section
variable {w w2 : World} {F0 : Nat → Prop} {hb : Nat} {H H' : HistV} {T T' : TreeV}

theorem St.step {o : OpC} {number : Int} {K : Bool → World → Prop} (h : St w2 F0 hb H T w) (hs : StepOk H T o number H' T') (k : ∀ w', St w2 F0 hb H' T' w' → K true w') : purlinlaw24_one_12 (some ⟨hb, 0, none⟩) o number w K := by
  obtain ⟨F, E, hF, hS⟩ := h
  refine purlinlaw24_one_12_of _ _ _ w K ?_
  unfold F12
  refine newP_at fun b1 w3 e1 a1 E1 => ?_
  refine ldA_all o a1 ?_
  have s := E.size
  have s1 := E1.size
  refine hs w3 F hb _ (hS.kept0 E1) fun F' w' E' hF' hS' => ?_
  exact k w' ⟨F', (E.thenNo E1).comp E' fun b hb' hFb => hF b hb' hFb, fun b hb' hFb => hF b hb' (hF' b (by omega) hFb), hS'⟩

theorem stepOk_of {o : OpC} {n number : Int} {H3 : HistV} (hs : smallB T = true) (hs' : smallB T' = true) (hn : noteB H T' = true) (hdo : DoOk T o T' n) (ho : o.1 ≠ 1) (hl : LastOk (didV H T T' number) T' o H3) : StepOk H T o number H3 T' :=
  fun _w _F _hb _K h k => Did_spec h (smallB_ok hs) (smallB_ok hs') (noteB_ok hn) hdo ho hl k

theorem stepOk_open {o : OpC} {n number : Int} {s : Spot} {H3 : HistV} (hs : smallB T = true) (hs' : smallB T' = true) (hn : noteB H T' = true) (hdo : DoOk T o T' n) (ho : o.1 = 1)
    (hp : okPath o.2.2.2.2.2.1 = true) (hr : walkV T' root0 (partsV o.2.2.2.2.2.1) = some (s, 0)) (hsd : s.2.1 ≠ 0) (hl : LastOk (didO H T T' number n (s.2.1, s.2.2)) T' o H3) : StepOk H T o number H3 T' :=
  fun _w _F _hb _K h k => Did_open_spec h (smallB_ok hs) (smallB_ok hs') (noteB_ok hn) hdo ho hp hr hsd hl k

/-- The same, with what may be evaluated. -/
def didOK (H : HistV) (T T' : TreeV) (number n : Int) (e : Ent) : HistV := { didK H T T' number with opened := aset (adel (didK H T T' number).opened n) n e }

theorem didO_eq {number n : Int} {e : Ent} (h : risingB (T'.nodes.map (·.1)) = true) : didO H T T' number n e = didOK H T T' number n e := by
  unfold didO didOK
  rw [didV_eq h]

/-- A node of a tree. -/
def ndK (T : TreeV) (n : Int) : NodeV := (aget T.nodes n).getD root0V

theorem ndK_eq {n : Int} (h : (aget T.nodes n).isSome = true) : aget T.nodes n = some (ndK T n) := by
  unfold ndK
  cases hh : aget T.nodes n with
  | none => rw [hh] at h; cases h
  | some x => rfl

def placeB (T : TreeV) (p : Str) (ini : List Str) (l : Str) (sp : Spot) (ws : List Str) : Bool :=
  okPath p && decide (partsV p = ini ++ [l]) && decide (l ≠ ⟨#[46, 46]⟩) && decide ((joinS ini slash).size ≤ 1000000) && okPath (joinV ini) && decide (walkV T root0 (partsV (joinV ini)) = some (sp, 0)) &&
    (aget T.nodes sp.1).isSome && decide ((ndK T sp.1).kind = 2) && decide (wayV T sp.1 = some ws) && decide ((joinS (ws ++ [l]) slash).size ≤ 1000000) && decide (ws.length ≤ 1000) && !(longV (ws ++ [l]))

theorem placeB_ok {p : Str} {ini : List Str} {l : Str} {sp : Spot} {ws : List Str} (h : placeB T p ini l sp ws = true) : PlaceOk T p ini l sp (ndK T sp.1) ws := by
  simp only [placeB, Bool.and_eq_true, decide_eq_true_eq, Bool.not_eq_true'] at h
  obtain ⟨⟨⟨⟨⟨⟨⟨⟨⟨⟨⟨h1, h2⟩, h3⟩, h4⟩, h5⟩, h6⟩, h7⟩, h8⟩, h9⟩, h10⟩, h11⟩, h12⟩ := h
  exact ⟨h1, h2, h3, h4, h5, h6, ndK_eq h7, h8, h9, h10, h11, h12⟩

/-- A look. -/
theorem look_spec {F : Nat → Prop} {ns : List NodeC} {b n : Nat} {v : Bool} {K : Bool → World → Prop} (h : HState w F hb H T) (hc : At w b (.cells (ns.flatMap (Carr.cells nLs)).toArray 30 (0, 0))) (hn : ns.length = n) (hs : seeB H ns = true) (hv : allowsV H hold0 ns = v)
    (k : ∀ w', Eff No w w' → K v w') : may_History_Allows_13 (some ⟨hb, 0, none⟩) ⟨some ⟨b, 0, none⟩, n, n⟩ w K := by
  subst hn
  refine See_spec h (RowAt.new hc (flat_len (Carr.cells_length nLs) ns)) (seeB_ok hs) fun w' E => ?_
  rw [hv]
  exact k w' E

end
end Go.Proofs.YtcpoglgnkedpaaaGreatDoor

/-
  MayUnlink: the states it goes through.
-/
namespace Go.Proofs.YtcpoglgnkedpaaaGreatDoor
open Go Go.Vc Go.Proofs

def mkOp (kind flags : Int) (p t : Str) : OpC := (kind, 0, 0, 0, flags, p, t, ⟨none, 0, 0⟩)
def sF : Str := ⟨#[102]⟩
def sG : Str := ⟨#[103]⟩
def sH : Str := ⟨#[104]⟩
def pF : Str := ⟨#[47, 102]⟩
def pG : Str := ⟨#[47, 103]⟩
def pH : Str := ⟨#[47, 104]⟩
def pE : Str := ⟨#[]⟩

def openV' (T : TreeV) (d : Int) (l : Str) (i : Nat) : TreeV := { makeV T d l 1 (ndK T d) with fds := T.fds.set i (T.last + 1, 0, 1, true) }

def uT1 : TreeV := openV' tree0 1 sF 0
def uH1 : HistV := didOK aH0 tree0 uT1 5 0 (1, sF)
def uT2 : TreeV := makeV uT1 1 sG 2 (ndK uT1 1)
def uH2 : HistV := didK uH1 uT1 uT2 6
def uT3l : TreeV := addV uT2 1 sH 2 (ndK uT2 1) (ndK uT2 2)
def uT3 (two : Bool) : TreeV := if two then uT3l else uT2
def uH3l : HistV := didK uH2 uT2 uT3l 0
def uH3 (two : Bool) : HistV := if two then uH3l else uH2
def uH4 (two : Bool) : HistV := syncH (didK (uH3 two) (uT3 two) (uT3 two) 0)
def uT5 (two : Bool) : TreeV := takeV (uT3 two) 1 sF 2 (ndK (uT3 two) 1) (ndK (uT3 two) 2)
def uH5 (two : Bool) : HistV := didK (uH4 two) (uT3 two) (uT5 two) 0
def uH6 (two sync : Bool) : HistV := if sync then syncH (didK (uH5 two) (uT5 two) (uT5 two) 0) else uH5 two

theorem uS1 : StepOk aH0 tree0 (mkOp 1 1 pF pE) 5 uH1 uT1 := by
  refine stepOk_open (n := 0) (s := (2, 1, sF)) (by kernel_rfl) (by kernel_rfl) (by kernel_rfl)
    (doOk_open (T := tree0) (o := mkOp 1 1 pF pE) (ini := []) (l := sF) (sp := root0) (ws := []) (i := 0) rfl rfl (placeB_ok (by kernel_rfl)) (by kernel_rfl) (by decide) (by decide) (by decide) (by kernel_rfl) (by kernel_rfl)) rfl (by kernel_rfl) (by kernel_rfl) (by decide) ?_
  rw [didO_eq (by kernel_rfl)]
  exact lastOk_none (by decide) (by decide) (by decide) (by decide) (by decide)

theorem uS2 : StepOk uH1 uT1 (mkOp 9 0 pG pE) 6 uH2 uT2 := by
  refine stepOk_of (n := 0) (by kernel_rfl) (by kernel_rfl) (by kernel_rfl)
    (doOk_mkdir (T := uT1) (o := mkOp 9 0 pG pE) (ini := []) (l := sG) (sp := root0) (ws := []) rfl (placeB_ok (by kernel_rfl)) (by kernel_rfl) (by decide) (by decide) (by kernel_rfl)) (by decide) ?_
  rw [didV_eq (by kernel_rfl)]
  exact lastOk_none (by decide) (by decide) (by decide) (by decide) (by decide)

theorem uS3 : StepOk uH2 uT2 (mkOp 12 0 pF pH) 0 uH3l uT3l := by
  refine stepOk_of (n := 0) (by kernel_rfl) (by kernel_rfl) (by kernel_rfl)
    (doOk_link (T := uT2) (o := mkOp 12 0 pF pH) (s1 := (2, 1, sF)) (ini := []) (l := sH) (sp := root0) (ws := []) rfl (by kernel_rfl) (by kernel_rfl) (ndK_eq (by kernel_rfl)) (by decide) (placeB_ok (by kernel_rfl)) (by kernel_rfl) (by decide)) (by decide) ?_
  rw [didV_eq (by kernel_rfl)]
  exact lastOk_none (by decide) (by decide) (by decide) (by decide) (by decide)

theorem uS4 (two : Bool) : StepOk (uH3 two) (uT3 two) (mkOp 21 0 pE pE) 0 (uH4 two) (uT3 two) := by
  refine stepOk_of (n := 0) (by cases two <;> kernel_rfl) (by cases two <;> kernel_rfl) (by cases two <;> kernel_rfl) (doOk_sync rfl) (by decide) ?_
  rw [didV_eq (by cases two <;> kernel_rfl)]
  exact lastOk_sync rfl

theorem uS5 (two : Bool) : StepOk (uH4 two) (uT3 two) (mkOp 11 0 pF pE) 0 (uH5 two) (uT5 two) := by
  refine stepOk_of (n := 0) (by cases two <;> kernel_rfl) (by cases two <;> kernel_rfl) (by cases two <;> kernel_rfl)
    (doOk_unlink (T := uT3 two) (o := mkOp 11 0 pF pE) (ini := []) (l := sF) (sp := root0) (ws := []) (n := 2) (x := ndK (uT3 two) 2) rfl (placeB_ok (by cases two <;> kernel_rfl)) (by cases two <;> kernel_rfl) (by decide) (ndK_eq (by cases two <;> kernel_rfl)) (by cases two <;> decide) (by decide) (by cases two <;> kernel_rfl)) (by decide) ?_
  rw [didV_eq (by cases two <;> kernel_rfl)]
  exact lastOk_none (by decide) (by decide) (by decide) (by decide) (by decide)

theorem uS6 (two : Bool) : StepOk (uH5 two) (uT5 two) (mkOp 21 0 pE pE) 0 (uH6 two true) (uT5 two) := by
  refine stepOk_of (n := 0) (by cases two <;> kernel_rfl) (by cases two <;> kernel_rfl) (by cases two <;> kernel_rfl) (doOk_sync rfl) (by decide) ?_
  rw [didV_eq (by cases two <;> kernel_rfl)]
  exact lastOk_sync rfl

def nG : NodeC := mkNode pG 6 2 1
def nF (links : Int) : NodeC := mkNode pF 5 1 links
def nH (links : Int) : NodeC := mkNode pH 5 1 links

theorem uA1 (sync : Bool) : allowsV (uH6 false sync) hold0 [nRoot, nG] = true := by cases sync <;> kernel_rfl
theorem uA2 (sync : Bool) : allowsV (uH6 false sync) hold0 [nRoot, nG, nF 1] = !sync := by cases sync <;> kernel_rfl
theorem uA3 (sync : Bool) : allowsV (uH6 false sync) hold0 [nRoot, nF 1] = false := by cases sync <;> kernel_rfl
theorem uA4 (sync : Bool) : allowsV (uH6 false sync) hold0 [nRoot, nG, nH 1] = false := by cases sync <;> kernel_rfl
theorem uB1 (sync : Bool) : allowsV (uH6 true sync) hold0 [nRoot, nG, nH 1] = true := by cases sync <;> kernel_rfl
theorem uB2 (sync : Bool) : allowsV (uH6 true sync) hold0 [nRoot, nG, nF 2, nH 2] = !sync := by cases sync <;> kernel_rfl
theorem uB3 (sync : Bool) : allowsV (uH6 true sync) hold0 [nRoot, nG] = false := by cases sync <;> kernel_rfl
theorem uB4 (sync : Bool) : allowsV (uH6 true sync) hold0 [nRoot, nH 1] = false := by cases sync <;> kernel_rfl

end Go.Proofs.YtcpoglgnkedpaaaGreatDoor

/-
  MayUnlink: the walk.
-/
namespace Go.Proofs.YtcpoglgnkedpaaaGreatDoor
open Go Go.Vc Go.Proofs

section
variable {w : World}

/-- A node's cells are written to a new block. -/
theorem node_at {x : NodeC} {K : Nat → World → Prop} (k : ∀ b w', w.heap.size ≤ b → b < w'.heap.size → At w' b (.cells (Carr.cells nLs x).toArray 30 (0, 0)) → Eff No w w' → K b w') :
    newP (.cells #[(.string (⟨#[]⟩ : ByteArray)), (.int .i64 0), (.int .i64 0), (.int .i64 0), (.slice none 0 0)] 30) w fun b w' =>
      stN ⟨b, 0, none⟩ [(.string x.1), (.int .i64 x.2.1), (.int .i64 x.2.2.1), (.int .i64 x.2.2.2.1), (.slice x.2.2.2.2.a x.2.2.2.2.len x.2.2.2.2.cap)] w' fun w'' => K b w'' := by
  refine newP_at fun b w1 e a E => ?_
  refine stN_all a rfl rfl fun w2 a2 E2 => ?_
  exact k b w2 (by omega) a2.lt a2 (E.fresh E2 (by omega))

theorem MayUnlink_spec {two sync : Bool} {K : Bool → World → Prop} (k : ∀ w', Eff No w w' → K true w') : purlinlaw24_MayUnlink_5 two sync w K := by
  refine purlinlaw24_MayUnlink_5_of _ _ w K ?_
  unfold F5
  refine New_spec fun F hb w2 E2 hS hF => ?_
  have h0 : St w2 F hb aH0 tree0 w2 := ⟨F, Eff.refl _ _, fun _ _ h => h, hS⟩
  refine ⟨fun b w' => b = false ∧ St w2 F hb (uH5 two) (uT5 two) w', ?_, ?_⟩
  · refine cnd_f rfl ?_
    refine h0.step uS1 fun w7 h7 => ?_
    refine cnd_f rfl ?_
    refine h7.step uS2 fun w9 h9 => ?_
    refine cnd_f rfl ?_
    cases two with
    | true =>
      refine cnd_t rfl ?_
      refine h9.step uS3 fun w11 h11 => ?_
      refine cnd_f rfl ?_
      refine h11.step (uS4 true) fun w13 h13 => ?_
      refine cnd_f rfl ?_
      refine h13.step (uS5 true) fun w15 h15 => ?_
      exact ⟨rfl, h15⟩
    | false =>
      refine cnd_f rfl ?_
      refine h9.step (uS4 false) fun w13 h13 => ?_
      refine cnd_f rfl ?_
      refine h13.step (uS5 false) fun w15 h15 => ?_
      exact ⟨rfl, h15⟩
  rintro b w5 ⟨rfl, h5⟩
  refine cnd_f rfl ?_
  refine ⟨fun b w' => b = false ∧ St w2 F hb (uH6 two sync) (uT5 two) w', ?_, ?_⟩
  · cases sync with
    | true =>
      refine cnd_t rfl ?_
      refine h5.step (uS6 two) fun w24 h24 => ?_
      exact ⟨rfl, h24⟩
    | false => exact cnd_f rfl ⟨rfl, h5⟩
  rintro b w22 ⟨rfl, F', E22, _, hS22⟩
  refine cnd_f rfl ?_
  refine node_at (x := nRoot) fun b25 w27 hb25 l25 aR E27 => ?_
  refine node_at (x := nG) fun b28 w30 hb28 l28 aG E30 => ?_
  refine node_at (x := nF 1) fun b31 w33 hb31 l31 aF E33 => ?_
  refine node_at (x := nH 1) fun b34 w36 hb34 l34 aH E36 => ?_
  have s27 := E27.size
  have s30 := E30.size
  have s33 := E33.size
  have s36 := E36.size
  have E2236 : Eff No w22 w36 := ((E27.trans E30).trans E33).trans E36
  have aR' := ((E30.trans E33).trans E36).at0 aR
  have aG' := (E33.trans E36).at0 aG
  have aF' := E36.at0 aF
  have fin : ∀ w69, Eff No w22 w69 → purlinlaw24_awake_10 w69 fun r w71 => K r w71 := fun w69 E69 =>
    awake_spec fun w71 E71 => k w71 (E2.comp ((E22.thenNo E69).thenNo E71) fun b hb' hFb => by have := hF b hFb; omega)
  cases two with
  | true =>
    refine cnd_t rfl ?_
    refine stP_at (i := 3) aF' (by simp [Carr.cells]) rfl fun w37 aF2 E37 => ?_
    have E2237 : Eff No w22 w37 := E2236.fresh E37 (by omega)
    have s37 := E37.size
    have aR2 := E37.at aR' (show ¬ b25 = b31 by omega)
    have aG2 := E37.at aG' (show ¬ b28 = b31 by omega)
    have aH2 := E37.at aH (show ¬ b34 = b31 by omega)
    have aF3 : At w37 b31 (.cells (Carr.cells nLs (nF 2)).toArray 30 (0, 0)) := aF2
    refine ldA_all (nH 1) aH2 ?_
    refine node_at (x := nH 1) fun b39 w41 hb39 l39 aB E41 => ?_
    refine stP_at (i := 3) aB (by simp [Carr.cells]) rfl fun w42 aB2 E42 => ?_
    have aB3 : At w42 b39 (.cells (Carr.cells nLs (nH 2)).toArray 30 (0, 0)) := aB2
    have E3742 : Eff No w37 w42 := E41.fresh E42 (by omega)
    have aR3 := E3742.at0 aR2
    have aG3 := E3742.at0 aG2
    have aH3 := E3742.at0 aH2
    have aF4 := E3742.at0 aF3
    have E2242 := E2237.trans E3742
    refine ldA_all nRoot aR3 ?_
    refine ldA_all nG aG3 ?_
    refine ldA_all (nH 1) aH3 ?_
    refine newP_at fun b46 w47 e46 a46 E47 => ?_
    have E2247 := E2242.trans E47
    refine look_spec (ns := [nRoot, nG, nH 1]) (hS22.kept0 E2247) a46 rfl (by cases sync <;> kernel_rfl) (uB1 sync) fun w49 E49 => ?_
    refine cnd_t rfl ?_
    have E4249 := E47.trans E49
    refine ldA_all nRoot (E4249.at0 aR3) ?_
    refine ldA_all nG (E4249.at0 aG3) ?_
    refine ldA_all (nF 2) (E4249.at0 aF4) ?_
    refine ldA_all (nH 2) (E4249.at0 aB3) ?_
    refine newP_at fun b54 w55 e54 a54 E55 => ?_
    have E2255 := (E2242.trans E4249).trans E55
    refine look_spec (ns := [nRoot, nG, nF 2, nH 2]) (hS22.kept0 E2255) a54 rfl (by cases sync <;> kernel_rfl) (uB2 sync) fun w57 E57 => ?_
    refine cnd_t (by cases sync <;> rfl) ?_
    have E4257 := (E4249.trans E55).trans E57
    refine ldA_all nRoot (E4257.at0 aR3) ?_
    refine ldA_all nG (E4257.at0 aG3) ?_
    refine newP_at fun b60 w61 e60 a60 E61 => ?_
    have E2261 := (E2242.trans E4257).trans E61
    refine look_spec (ns := [nRoot, nG]) (hS22.kept0 E2261) a60 rfl (by cases sync <;> kernel_rfl) (uB3 sync) fun w63 E63 => ?_
    refine cnd_t rfl ?_
    have E4263 := (E4257.trans E61).trans E63
    refine ldA_all nRoot (E4263.at0 aR3) ?_
    refine ldA_all (nH 1) (E4263.at0 aH3) ?_
    refine newP_at fun b66 w67 e66 a66 E67 => ?_
    have E2267 := (E2242.trans E4263).trans E67
    refine look_spec (ns := [nRoot, nH 1]) (hS22.kept0 E2267) a66 rfl (by cases sync <;> kernel_rfl) (uB4 sync) fun w69 E69 => ?_
    refine cnd_t rfl ?_
    exact fin w69 (E2267.trans E69)
  | false =>
    refine cnd_f rfl ?_
    refine ldA_all nRoot aR' ?_
    refine ldA_all nG aG' ?_
    refine newP_at fun b74 w75 e74 a74 E75 => ?_
    have E2275 := E2236.trans E75
    refine look_spec (ns := [nRoot, nG]) (hS22.kept0 E2275) a74 rfl (by cases sync <;> kernel_rfl) (uA1 sync) fun w77 E77 => ?_
    refine cnd_t rfl ?_
    have E3677 := E75.trans E77
    refine ldA_all nRoot (E3677.at0 aR') ?_
    refine ldA_all nG (E3677.at0 aG') ?_
    refine ldA_all (nF 1) (E3677.at0 aF') ?_
    refine newP_at fun b81 w82 e81 a81 E82 => ?_
    have E2282 := (E2236.trans E3677).trans E82
    refine look_spec (ns := [nRoot, nG, nF 1]) (hS22.kept0 E2282) a81 rfl (by cases sync <;> kernel_rfl) (uA2 sync) fun w84 E84 => ?_
    refine cnd_t (by cases sync <;> rfl) ?_
    have E3684 := (E3677.trans E82).trans E84
    refine ldA_all nRoot (E3684.at0 aR') ?_
    refine ldA_all (nF 1) (E3684.at0 aF') ?_
    refine newP_at fun b87 w88 e87 a87 E88 => ?_
    have E2288 := (E2236.trans E3684).trans E88
    refine look_spec (ns := [nRoot, nF 1]) (hS22.kept0 E2288) a87 rfl (by cases sync <;> kernel_rfl) (uA3 sync) fun w90 E90 => ?_
    refine cnd_t rfl ?_
    have E3690 := (E3684.trans E88).trans E90
    refine ldA_all nRoot (E3690.at0 aR') ?_
    refine ldA_all nG (E3690.at0 aG') ?_
    refine ldA_all (nH 1) (E3690.at0 aH) ?_
    refine newP_at fun b94 w95 e94 a94 E95 => ?_
    have E2295 := (E2236.trans E3690).trans E95
    refine look_spec (ns := [nRoot, nG, nH 1]) (hS22.kept0 E2295) a94 rfl (by cases sync <;> kernel_rfl) (uA4 sync) fun w97 E97 => ?_
    refine cnd_t rfl ?_
    exact fin w97 (E2295.trans E97)

end
end Go.Proofs.YtcpoglgnkedpaaaGreatDoor
