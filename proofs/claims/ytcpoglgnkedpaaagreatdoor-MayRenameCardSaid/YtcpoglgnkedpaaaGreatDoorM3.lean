/-
  may: New; a history and its tree.
-/
import Derived.Test.YtcpoglgnkedpaaaGreatDoorM2
import Derived.Test.YtcpoglgnkedpaaaGreatDoorFY
import Derived.Test.YtcpoglgnkedpaaaGreatDoorM1
import Derived.Test.YtcpoglgnkedpaaaGreatDoorFX
import Derived.Test.YtcpoglgnkedpaaaGreatDoorFZ
import Derived.Test.YtcpoglgnkedpaaaGreatDoorCards
import Derived.Test.YtcpoglgnkedpaaaGreatDoorTie
import Derived.WalkKit
import Derived.ProofKit
import Derived.OpenShut
import Derived.Carry
import Derived.Lay
import Derived.LaidMore
import Derived.Deep.Fields
import Derived.Stop.Joined
import Derived.SevenTiedAt
namespace Go.Proofs.YtcpoglgnkedpaaaGreatDoor
open Go Go.Vc Go.Proofs

def root0V : NodeV := ⟨2, [], [], [], 0, 1, 0⟩
def tree0 : TreeV := ⟨[(1, root0V)], 1, List.replicate 16 (0, 0, 0, false)⟩

/-- A history and its tree, in blocks of F. -/
def HState (w : World) (F : Nat → Prop) (hb : Nat) (H : HistV) (T : TreeV) : Prop :=
  ∃ own ownT tb XT X le lf lm, HistAt w own {} hb (some ⟨tb, 0, none⟩) X le lf lm H ∧ TreeAt w ownT tb XT T ∧ (∀ b t, own b = some t → ownT b = none) ∧ (∀ b t, own b = some t → F b) ∧ (∀ b t, ownT b = some t → F b) ∧ ∀ b, F b → b < w.heap.size

section
variable {w w' : World} {F : Nat → Prop} {hb : Nat} {H : HistV} {T : TreeV}

theorem HState.kept {S : Nat → Prop} (h : HState w F hb H T) (hE : Eff S w w') (hS : ∀ b, F b → ¬ S b) : HState w' F hb H T := by
  obtain ⟨own, ownT, tb, XT, X, le, lf, lm, h1, h2, h3, h4, h5, h6⟩ := h
  exact ⟨own, ownT, tb, XT, X, le, lf, lm, h1.kept hE (fun b t hb' => hS b (h4 b t hb')) (fun p hp => by cases hp) (fun p hp => by cases hp), h2.kept hE fun b t hb' => hS b (h5 b t hb'), h3, h4, h5, fun b hb' => Nat.lt_of_lt_of_le (h6 b hb') hE.size⟩

theorem HState.kept0 (h : HState w F hb H T) (hE : Eff No w w') : HState w' F hb H T := h.kept hE fun _ _ h => h

theorem HState.lt (h : HState w F hb H T) {b : Nat} (hb' : F b) : b < w.heap.size := by
  obtain ⟨_, _, _, _, _, _, _, _, _, _, _, _, _, h6⟩ := h
  exact h6 b hb'

theorem treeNew_spec {K : Option Addr → World → Prop} (k : ∀ own tb X w', Eff No w w' → TreeAt w' own tb X tree0 → (∀ b t, own b = some t → w.heap.size ≤ b) → K (some ⟨tb, 0, none⟩) w') : tree_New_26 w K := by
  refine tree_New_26_of w K ?_
  unfold F26
  refine newP_at fun b1 w2 e1 a1 E1 => ?_
  refine newP_at fun b3 w4 e3 a3 E3 => ?_
  refine newP_at fun b5 w6 e5 a5 E5 => ?_
  have E16 := E3.trans E5
  have s1 := E1.size
  have s3 := E3.size
  have s5 := E5.size
  have l1 := a1.lt
  have l3 := a3.lt
  have l5 := a5.lt
  obtain ⟨w7, r1, r2, r3⟩ := update (vf := pT.mk) keyI und127 (MapAt.new (kf := iT.mk) (vf := pT.mk) (E16.at0 a1)) 1 (some ⟨b5, 0, none⟩)
  refine ⟨w7, r1, ?_⟩
  refine table_New_61_of w7 _ ?_
  unfold F61
  refine newP_at fun b8 w9 e8 a8 E8 => ?_
  refine newP_at fun b10 w11 e10 a10 E10 => ?_
  have E79 := E8.trans E10
  have s7 := r3.size
  have s8 := E8.size
  have l8 := a8.lt
  have l10 := a10.lt
  have E67 : Eff No w w7 := (E1.trans E16).fresh r3 (by omega)
  let own : Owner := fun b => if b = b10 then some .top else if b = b1 then some .map else if b = b8 then some .fds else if b = b5 then some (.node 1) else if b = b3 then some (.names 1) else none
  have c5 := E79.at0 (r3.at a5 (show ¬ b5 = b1 by omega))
  have c3 := E79.at0 (r3.at (E5.at0 a3) (show ¬ b3 = b1 by omega))
  refine k own b10 ⟨b1, b8, [(1, some ⟨b5, 0, none⟩)]⟩ w11 (E67.trans E79) ?_ fun b t hb => ?_
  · exact
      { lt := fun b t hb => by
          simp only [own] at hb
          repeat' split at hb
          all_goals first | omega | cases hb
        top := a10
        topO := by simp [own]
        map := (show MapAt iT.mk pT.mk w7 b1 [(1, some ⟨b5, 0, none⟩)] from r2).kept0 E79
        mapO := by simp only [own]; rw [if_neg (by omega)]; simp
        fds := E10.at0 a8
        fdsO := by simp only [own]; rw [if_neg (by omega), if_neg (by omega)]; simp
        fdsL := rfl
        nd := by simp [tree0]
        non := fun k hk => by
          simp only [tree0, aget] at hk ⊢
          split at hk
          · cases hk
          · rename_i e; rw [if_neg e]
        som := fun k v hk => by
          simp only [tree0, aget] at hk ⊢
          split at hk
          · rename_i e
            subst e
            cases hk
            rw [if_pos rfl]
            refine ⟨b5, ⟨none, 0, 0⟩, ⟨none, 0, 0⟩, some b3, rfl, ?_⟩
            exact
              { cells := c5
                o := by simp only [own]; rw [if_neg (by omega), if_neg (by omega), if_neg (by omega)]; simp
                row := RowAt.nil
                rowO := fun b hb => by cases hb
                wrow := RowAt.nil
                wrowO := fun b hb => by cases hb
                nm := (MapF.new c3).o
                nmO := fun b hb => by cases hb; simp only [own]; rw [if_neg (by omega), if_neg (by omega), if_neg (by omega), if_neg (by omega)]; simp
                dir := fun _ => ⟨_, rfl⟩
                dl := by simp [root0V] }
          · cases hk }
  · simp only [own] at hb
    repeat' split at hb
    all_goals first | omega | cases hb

def hist0 (N : List (Int × Int)) : HistV := ⟨N, [], [], [], []⟩
def beginV (N : List (Int × Int)) (T : TreeV) : HistV := syncH (noteV (hist0 N) T)

set_option maxRecDepth 4000 in
theorem begin_spec {ownT : Owner} {tb nb : Nat} {XT : TreeX} {N : List (Int × Int)} {K : Option Addr → World → Prop} (hT : TreeAt w ownT tb XT T) (hN : MapF iT.mk iT.mk w nb N) (hnb : ownT nb = none) (hs : Small T) (hn : NoteOk (hist0 N) T)
    (k : ∀ F hb w', Eff (fun b => b = nb) w w' → HState w' F hb (beginV N T) T → (∀ b, b < w.heap.size → F b → b = nb ∨ ∃ t, ownT b = some t) → K (some ⟨hb, 0, none⟩) w') : may_begin_25 (some ⟨tb, 0, none⟩) (some nb) w K := by
  refine may_begin_25_of _ _ w K ?_
  unfold F25
  refine newP_at fun b1 w2 e1 a1 E1 => ?_
  refine newP_at fun b3 w4 e3 a3 E3 => ?_
  refine newP_at fun b5 w6 e5 a5 E5 => ?_
  refine newP_at fun b7 w8 e7 a7 E7 => ?_
  refine newP_at fun b9 w10 e9 a9 E9 => ?_
  have s1 := E1.size
  have s3 := E3.size
  have s5 := E5.size
  have s7 := E7.size
  have l1 := a1.lt
  have l3 := a3.lt
  have l5 := a5.lt
  have l7 := a7.lt
  have l9 := a9.lt
  have ln := hN.lt
  have E010 := (((E1.trans E3).trans E5).trans E7).trans E9
  let own : HOwner := fun b => if b = b9 then some .top else if b = nb then some .numbers else if b = b1 then some .files else if b = b3 then some .marks else if b = b5 then some .entries else if b = b7 then some .opened else none
  have hH : HistAt w10 own {} b9 (some ⟨tb, 0, none⟩) ⟨nb, b1, b3, b5, b7⟩ [] [] [] (hist0 N) :=
    { lt := fun b t hb => by
        simp only [own] at hb
        repeat' split at hb
        all_goals first | omega | cases hb
      top := a9
      topO := by simp [own]
      num := hN.kept0 E010
      numO := by simp only [own]; rw [if_neg (by omega)]; simp
      fil := { o := by simp only [own]; rw [if_neg (by omega), if_neg (by omega)]; simp
               map := MapAt.new ((((E3.trans E5).trans E7).trans E9).at0 a1)
               nd := .nil, non := fun _ _ => rfl, som := fun k f hk => by cases hk }
      mar := { o := by simp only [own]; rw [if_neg (by omega), if_neg (by omega), if_neg (by omega)]; simp
               map := MapAt.new (((E5.trans E7).trans E9).at0 a3), nd := .nil, eq := fun _ => rfl }
      ent := { o := by simp only [own]; rw [if_neg (by omega), if_neg (by omega), if_neg (by omega), if_neg (by omega)]; simp
               map := MapAt.new ((E7.trans E9).at0 a5), nd := .nil, non := fun _ _ => rfl, som := fun k f hk => by cases hk }
      ope := MapF.new (E9.at0 a7)
      opeO := by simp only [own]; rw [if_neg (by omega), if_neg (by omega), if_neg (by omega), if_neg (by omega), if_neg (by omega)]; simp
      itE := fun p hp => by cases hp
      itM := fun p hp => by cases hp }
  have hown : ∀ b t, own b = some t → b = nb ∨ w.heap.size ≤ b := fun b t hb => by
    simp only [own] at hb
    repeat' split at hb
    all_goals first | (left; assumption) | (right; omega) | cases hb
  have hT10 := hT.kept0 E010
  refine note_spec hH hT10 hs hn fun own1 le1 lf1 lm1 w12 E12 ho1 h12 => ?_
  have hdis : ∀ b t t', own b = some t → ownT b = some t' → False := fun b t t' h1 h2 => by
    rcases hown b t h1 with h | h
    · subst h; rw [hnb] at h2; cases h2
    · have := hT.lt b t' h2; omega
  have hT12 := hT10.kept E12 fun b t hb' hs' => by
    obtain ⟨t', ht'⟩ := hs'
    exact hdis b t' t ht' hb'
  refine ldP_at (some b5) h12.top rfl ?_
  refine lastAll_loop h12 fun own2 le2 lm2 w19 E19 ho2 h19 => ?_
  refine ldP_at (some b1) h19.top rfl ?_
  refine firmAll_loop h19 fun w28 E28 h28 => ?_
  have s10 := E010.size
  have s12 := E12.size
  have s19 := E19.size
  have hownT : ∀ b t, ownT b = some t → b < w.heap.size := hT.lt
  have hd1 : ∀ b t, ownT b = some t → own1 b = none := fun b t hb' => by
    have := hownT b t hb'
    rw [ho1 b (by omega)]
    cases hh : own b with
    | none => rfl
    | some t' => exact (hdis b t' t hh hb').elim
  have hd2 : ∀ b t, ownT b = some t → own2 b = none := fun b t hb' => by
    have := hownT b t hb'
    rw [ho2 b (by omega)]
    exact hd1 b t hb'
  have hT19 := hT12.kept E19 fun b t hb' ⟨t', ht'⟩ => by rw [hd1 b t hb'] at ht'; cases ht'
  have hT28 := hT19.kept E28 fun b t hb' ⟨t', ht'⟩ => by rw [hd2 b t hb'] at ht'; cases ht'
  have hnew : ∀ (o : HOwner), (∀ b, b < w.heap.size → o b = own b) → ∀ b, b < w.heap.size → (∃ t, o b = some t) → b = nb := fun o hoo b hb' ⟨t, ht⟩ => by
    rw [hoo b hb'] at ht
    rcases hown b t ht with h | h
    · exact h
    · omega
  have Ef : Eff (fun b => b = nb) w w28 :=
    ((E010.up.comp E12 (hnew own fun _ _ => rfl)).comp E19 (hnew own1 fun b hb' => ho1 b (by omega))).comp E28 (hnew own2 fun b hb' => (ho2 b (by omega)).trans (ho1 b (by omega)))
  refine k (fun b => (∃ t, own2 b = some t) ∨ ∃ t, ownT b = some t) b9 w28 Ef ⟨own2, ownT, tb, XT, _, le2, lf1, lm2, h28, hT28, fun b t hb' => ?_, fun b t hb' => .inl ⟨t, hb'⟩, fun b t hb' => .inr ⟨t, hb'⟩, fun b hb' => ?_⟩ fun b hb' hF => ?_
  · cases hh : ownT b with
    | none => rfl
    | some t' => rw [hd2 b t' hh] at hb'; cases hb'
  · rcases hb' with ⟨t, ht⟩ | ⟨t, ht⟩
    · exact h28.lt b t ht
    · exact hT28.lt b t ht
  · rcases hF with hF | hF
    · exact .inl (hnew own2 (fun b hb' => (ho2 b (by omega)).trans (ho1 b (by omega))) b hb' hF)
    · exact .inr hF

theorem New_spec {K : Option Addr → World → Prop} (k : ∀ F hb w', Eff No w w' → HState w' F hb (beginV [(1, 1)] tree0) tree0 → (∀ b, F b → w.heap.size ≤ b) → K (some ⟨hb, 0, none⟩) w') : may_New_11 w K := by
  refine may_New_11_of w K ?_
  unfold F11
  refine treeNew_spec fun ownT tb XT w2 E2 hT hTb => ?_
  refine newP_at fun b3 w4 e3 a3 E4 => ?_
  have s2 := E2.size
  have s4 := E4.size
  have l3 := a3.lt
  obtain ⟨w5, r1, r2, r3⟩ := (MapF.new (kf := iT.mk) (vf := iT.mk) a3).put keyI und65 1 1
  refine ⟨w5, r1, ?_⟩
  have hb3 : ownT b3 = none := by
    cases hh : ownT b3 with
    | none => rfl
    | some t => have := hT.lt _ _ hh; omega
  have hT5 : TreeAt w5 ownT tb XT tree0 := (hT.kept0 E4).kept r3 fun b t hb' e => by have e' : b = b3 := e; rw [e', hb3] at hb'; cases hb'
  have hsm : Small tree0 := ⟨by simp [tree0], fun p hp => by simp [tree0] at hp; subst hp; simp⟩
  have hno : NoteOk (hist0 [(1, 1)]) tree0 :=
    { kinds := fun n v hv => by
        simp only [tree0, aget] at hv
        split at hv
        · cases hv; exact .inr rfl
        · cases hv
      data := fun n v hv hk => by
        simp only [tree0, aget] at hv
        split at hv
        · cases hv; cases hk
        · cases hv
      sizes := fun n f hf => by cases hf
      rows := fun e xs he => by cases he }
  refine begin_spec hT5 r2 hb3 hsm hno fun F hb w7 E7 hS hF => ?_
  have s5 := r3.size
  have E05 : Eff No w w5 := (E2.trans E4).fresh r3 (by omega)
  refine k F hb w7 (E05.fresh E7 (by omega)) hS fun b hb' => ?_
  by_cases hlt : b < w5.heap.size
  · rcases hF b hlt hb' with h | ⟨t, ht⟩
    · omega
    · exact hTb b t ht
  · omega

end
end Go.Proofs.YtcpoglgnkedpaaaGreatDoor

/-
  may: fresh; lasts of Sync.
-/
namespace Go.Proofs.YtcpoglgnkedpaaaGreatDoor
open Go Go.Vc Go.Proofs

theorem callV_one {P : Program} {g : FuncId} {x c : Value} {ts : List Ty} {w : World} {K : Tup ts → World → Prop} (h : callP P g #[x, c] ts w K) : callV P (.func (.func g) #[] #[c]) #[x] ts w K := by
  unfold callV
  simpa using h

/-- The node that a tree has, and another one has not; 0. -/
def freshV (T T0 : TreeV) : Int := ((numsV T).find? fun n => !decide (n ∈ numsV T0)).getD 0

section
variable {w : World}

theorem closure88_spec {y : FileC} {b : Nat} {vs : Array Value} {t : TypeId} {m : Int} {K : Bool → World → Prop} (h : At w b (.cells vs t (0, 0))) (hv : vs[0]? = some (.int .i64 m)) (k : ∀ w', Eff No w w' → K (y.1 == m) w') : may_fresh_1_88 y (some ⟨b, 0, none⟩) w K := by
  refine may_fresh_1_88_of _ _ w K ?_
  unfold F88
  refine newP_at fun b1 w2 e1 a1 E1 => ?_
  refine ldP_at y.1 a1 rfl ?_
  refine onSome_some ?_
  refine ldP_at m (E1.at0 h) hv ?_
  exact k _ E1

theorem Contains87_spec {s : Sl} {cs : List FileC} {b : Nat} {vs : Array Value} {t : TypeId} {m : Int} {K : Bool → World → Prop} (hs : FilesAt w s cs) (hl : cs.length ≤ 1000000) (h : At w b (.cells vs t (0, 0))) (hv : vs[0]? = some (.int .i64 m))
    (k : ∀ w', Eff No w w' → K (decide (m ∈ cs.map (·.1))) w') : slices_ContainsFunc_87 s (.func (.func 88) #[] #[.pointer (some ⟨b, 0, none⟩)]) w K := by
  refine slices_ContainsFunc_87_of _ _ w K ?_
  unfold F87
  refine slices_IndexFunc_148_of _ _ w _ ?_
  unfold F148
  have hlen : s.len = cs.length := RowAt.lenN (ls := fLs) (by decide) hs
  refine loopP_count (fun n st w1 => ∃ i : Nat, st = (i : Int) ∧ i ≤ cs.length ∧ n = cs.length - i ∧ Eff No w w1 ∧ m ∉ (cs.take i).map (·.1)) ⟨_, 0, rfl, by omega, rfl, Eff.refl _ _, by simp⟩ ?_
  rintro n st w3 ⟨i, rfl, hi, rfl, E3, hm⟩
  refine cnd_intro (fun hc => ?_) (fun hc => ?_)
  · have hc' : (i : Int) < (s.len : Int) := of_decide_eq_true hc
    have hip : i < cs.length := by omega
    refine ⟨by omega, hc', ?_⟩
    have hg : cs[i]? = some cs[i] := by simp [hip]
    have hmem : cs[i] ∈ cs := List.getElem_mem hip
    have htake : cs.take (i + 1) = cs.take i ++ [cs[i]] := by rw [List.take_add_one, hg]; rfl
    generalize cs[i] = y at hg hmem htake
    refine ldA_row (ls := fLs) (by decide) (hs.kept0 E3) (by rw [Int.toNat_natCast]; exact hg) ?_
    refine callV_one ?_
    refine closure88_spec (y := y) (E3.at0 h) hv fun w7 E7 => ?_
    refine cnd_intro (fun q => ?_) (fun q => ?_)
    · have q' : y.1 = m := by simpa using q
      have := k w7 (E3.trans E7)
      rw [decide_eq_true (List.mem_map.2 ⟨y, hmem, q'⟩)] at this
      show K (decide ((i : Int) ≥ 0)) w7
      rw [decide_eq_true (show (i : Int) ≥ 0 by omega)]
      exact this
    · have q' : ¬ y.1 = m := by simpa using q
      have hw : w64 ((i : Int) + 1) = ((i + 1 : Nat) : Int) := by rw [w64_id] <;> omega
      refine ⟨_, by omega, i + 1, hw, hip, rfl, E3.trans E7, ?_⟩
      rw [htake, List.map_append]
      simp only [List.map_cons, List.map_nil, List.mem_append, List.mem_singleton]
      exact fun h => h.elim hm fun h => q' h.symm
  · have hc' : ¬ (i : Int) < (s.len : Int) := of_decide_eq_false hc
    have hip : i = cs.length := by omega
    subst hip
    rw [List.take_length] at hm
    have := k w3 E3
    rw [decide_eq_false hm] at this
    exact this

variable {own own0 : Owner} {tb tb0 : Nat} {X X0 : TreeX} {T T0 : TreeV}

theorem mfresh_spec {K : Int → World → Prop} (h : TreeAt w own tb X T) (hs : Small T) (h0 : TreeAt w own0 tb0 X0 T0) (hs0 : Small T0) (k : ∀ w', Eff No w w' → K (freshV T T0) w') : may_fresh_33 (some ⟨tb, 0, none⟩) (some ⟨tb0, 0, none⟩) w K := by
  refine may_fresh_33_of _ _ w K ?_
  unfold F33
  refine Files_spec h0 hs0 fun r1 cs0 w2 E2 hr1 hk0 _ _ => ?_
  refine Files_spec (h.kept0 E2) hs fun r3 cs w4 E4 hr3 hk _ _ => ?_
  have hr1' := hr1.kept0 E4
  have hl0 : cs0.length ≤ 1000000 := by
    have := congrArg List.length hk0
    simp [numsV, sortI] at this
    have := hs0.len
    omega
  have hl : cs.length ≤ 1000000 := by
    have := congrArg List.length hk
    simp [numsV, sortI] at this
    have := hs.len
    omega
  have hlen : r3.len = cs.length := RowAt.lenN (ls := fLs) (by decide) hr3
  have hk' : K = K := rfl
  have hv : freshV T T0 = ((cs.map (·.1)).find? fun n => !decide (n ∈ cs0.map (·.1))).getD 0 := by rw [freshV, ← hk, ← hk0]
  rw [hv] at k
  refine loopP_count (fun n st w1 => ∃ i : Nat, st = (i : Int) ∧ i ≤ cs.length ∧ n = cs.length - i ∧ Eff No w w1 ∧ Eff No w4 w1 ∧ ∀ x ∈ (cs.take i).map (·.1), x ∈ cs0.map (·.1)) ⟨_, 0, rfl, by omega, rfl, E2.trans E4, Eff.refl _ _, by simp⟩ ?_
  rintro n st w7 ⟨i, rfl, hi, rfl, E7, E47, hall⟩
  refine cnd_intro (fun hc => ?_) (fun hc => ?_)
  · have hc' : (i : Int) < (r3.len : Int) := of_decide_eq_true hc
    have hip : i < cs.length := by omega
    refine ⟨by omega, hc', ?_⟩
    have hg : cs[i]? = some cs[i] := by simp [hip]
    have htake : cs.take (i + 1) = cs.take i ++ [cs[i]] := by rw [List.take_add_one, hg]; rfl
    have hsplit : cs = cs.take i ++ cs[i] :: cs.drop (i + 1) := by
      rw [← List.drop_eq_getElem_cons hip, List.take_append_drop]
    generalize cs[i] = x at hg htake hsplit
    refine ldA_row (ls := fLs) (by decide) (hr3.kept0 E47) (by rw [Int.toNat_natCast]; exact hg) ?_
    refine newP_at fun b10 w11 e10 a10 E10 => ?_
    refine stN_all a10 rfl rfl fun w12 a12 E12 => ?_
    have E712 : Eff No w7 w12 := E10.fresh E12 (by omega)
    refine Contains87_spec (m := x.1) (hr1'.kept0 (E47.trans E712)) hl0 a12 rfl fun w14 E14 => ?_
    have E014 := (E7.trans E712).trans E14
    refine cnd_intro (fun q => ?_) (fun q => ?_)
    · have q' : ¬ x.1 ∈ cs0.map (·.1) := by simpa using q
      refine ldP_at x.1 (E14.at0 a12) rfl ?_
      have hfind : ((cs.map (·.1)).find? fun n => !decide (n ∈ cs0.map (·.1))) = some x.1 := by
        rw [hsplit, List.map_append, List.find?_append]
        have : ((cs.take i).map (·.1)).find? (fun n => !decide (n ∈ cs0.map (·.1))) = none := by
          rw [List.find?_eq_none]
          intro y hy
          have := hall y hy
          simp only [decide_eq_true this]
          decide
        rw [this, Option.none_or, List.map_cons, List.find?_cons_of_pos (by rw [decide_eq_false q']; rfl)]
      have := k w14 E014
      rw [hfind] at this
      exact this
    · have q' : x.1 ∈ cs0.map (·.1) := by simpa using q
      have hw : w64 ((i : Int) + 1) = ((i + 1 : Nat) : Int) := by rw [w64_id] <;> omega
      refine ⟨_, by omega, i + 1, hw, hip, rfl, E014, (E47.trans E712).trans E14, ?_⟩
      rw [htake, List.map_append]
      intro y hy
      rcases List.mem_append.1 hy with hy | hy
      · exact hall y hy
      · simp only [List.map_cons, List.map_nil, List.mem_singleton] at hy
        rw [hy]; exact q'
  · have hc' : ¬ (i : Int) < (r3.len : Int) := of_decide_eq_false hc
    have hip : i = cs.length := by omega
    subst hip
    rw [List.take_length] at hall
    have hfind : ((cs.map (·.1)).find? fun n => !decide (n ∈ cs0.map (·.1))) = none := by
      rw [List.find?_eq_none]
      intro y hy
      have := hall y hy
      simp only [decide_eq_true this]
      decide
    have := k w7 E7
    rw [hfind] at this
    exact this

end
end Go.Proofs.YtcpoglgnkedpaaaGreatDoor

/-
  tree: walk.
-/
namespace Go.Proofs.YtcpoglgnkedpaaaGreatDoor
open Go Go.Vc Go.Proofs

/-- How '..' is told from other parts. -/
theorem isDots {x : Str} {b : Bool} (h : (x.toList == (⟨#[46, 46]⟩ : ByteArray).toList) = b) : b = decide (x = dotdot) := by
  rw [← h]; exact bytes_beq _ _

section
variable {w : World} {own : Owner} {tb : Nat} {X : TreeX} {T : TreeV}

theorem walk_spec {a : Int} {parts : Sl} {ps : List Str} {follow : Bool} {r : Spot × Int} {K : Tup [.agg [.int .i64, .int .i64, .str], .one (.int .i64)] → World → Prop} (h : TreeAt w own tb X T) (hp : RowAt w 9 1 parts (ps.map kStr))
    (hr : walkV T (a, 0, ⟨#[]⟩) ps = some r) (k : ∀ w', Eff No w w' → K r w') : tree_Tree_walk_152 (some ⟨tb, 0, none⟩) a parts follow w K := by
  refine tree_Tree_walk_152_of _ _ _ _ w K ?_
  unfold F152
  refine newP_at fun b1 w2 e1 a1 E1 => ?_
  refine newP_at fun b3 w4 e3 a3 E3 => ?_
  refine stN_all a3 rfl rfl fun w5 a5 E5 => ?_
  have E35 : Eff No w2 w5 := E3.fresh E5 (by omega)
  have E05 : Eff No w w5 := E1.trans E35
  have hb13 : b1 ≠ b3 := by have := a1.lt; omega
  refine loopP_count (fun n s w1 => s.2 = 0 ∧ ∃ (qs : List Str) (sp : Spot), n = qs.length ∧ RowAt w1 9 1 s.1 (qs.map kStr) ∧ At w1 b3 (.cells #[.int .i64 sp.1, .int .i64 sp.2.1, .string sp.2.2] 151 (0, 0)) ∧ walkV T sp qs = some r ∧ Eff No w w1 ∧
      (∀ b, s.1.blk = some b → b < w.heap.size) ∧ At w1 b1 (.cells #[.int .i64 0, .int .i64 0, .string ⟨#[]⟩] 151 (0, 0)))
    ⟨_, rfl, ps, _, rfl, hp.kept0 E05, a5, hr, E05, fun b hb => hp.lt hb, E35.at0 a1⟩ ?_
  rintro n ⟨sl, hops⟩ w8 ⟨rfl, qs, sp, rfl, hq, hc, hw, E8, hbl, hb1⟩
  have h8 := h.kept0 E8
  replace hq : RowAt w8 9 1 sl (qs.map kStr) := hq
  have hlen : sl.len = qs.length := by simpa using hq.len1
  have hs1 : w.heap.size ≤ b1 := by omega
  have hs3 : w.heap.size ≤ b3 := by have := E1.size; omega
  refine cnd_intro (fun hn => ?_) (fun hn => ?_)
  · have hpos : 0 < qs.length := by have := of_decide_eq_true hn; simp only at this; omega
    obtain ⟨p, qs', rfl⟩ : ∃ p q, qs = p :: q := by
      cases qs with
      | nil => simp at hpos
      | cons p q => exact ⟨p, q, rfl⟩
    refine ⟨Int.le_refl _, by show (0 : Int) < (sl.len : Int); omega, ?_⟩
    obtain ⟨A, hA⟩ := hq.some (by omega)
    rw [hA]
    refine onSome_some ?_
    have hc0 := hq.cell hA 0 (kStr p) (by simp)
    refine ⟨p, ?_, ?_⟩
    · have : A.add 0 = A := by simp [Addr.add]
      rw [this] at hc0
      exact hc0
    refine ldP_at (some X.mb) h8.top.drew rfl ?_
    refine ldP_at sp.1 hc.drew rfl ?_
    simp only [walkV] at hw
    cases hx : aget T.nodes sp.1 with
    | none => rw [hx] at hw; cases hw
    | some x =>
      rw [hx] at hw
      simp only at hw
      obtain ⟨nb, ds, ws, m, l1, nA, l2⟩ := (h8.kept0 (Eff.drew w8)).look hx
      refine ⟨_, l1, ?_⟩
      refine slcP_drop (by omega) (by simp only; omega) ?_
      refine ldP_at x.kind nA.cells rfl ?_
      refine cnd_intro (fun hk => ?_) (fun hk => ?_)
      · have hk' : x.kind ≠ 2 := by simpa using hk
        rw [if_pos hk'] at hw
        cases hw
        refine stN_all hb1.drew rfl rfl fun w18 a18 E18 => ?_
        refine ldA_all (0, 0, ⟨#[]⟩) a18 ?_
        exact k _ (E8.thenDrew.fresh E18 hs1)
      · have hk' : x.kind = 2 := by simpa using hk
        rw [if_neg (by simpa using hk')] at hw
        refine cnd_intro (fun hd => ?_) (fun hd => ?_)
        · have := isDots hd
          simp at this
          rw [if_pos this] at hw
          cases hw
        · have := isDots hd
          simp at this
          rw [if_neg this] at hw
          refine ldP_at m nA.cells rfl ?_
          have l3 := nA.nm.look2 keyS und66 p (run_zero ti3_ok _)
          cases hy : aget x.names p with
          | none =>
            rw [hy] at hw l3
            cases hw
            refine ⟨(0, false), l3, ?_⟩
            refine cnd_t rfl ?_
            refine stN_all hb1.drew rfl rfl fun w27 a27 E27 => ?_
            refine ldA_all (0, 0, ⟨#[]⟩) a27 ?_
            exact k _ (E8.thenDrew.fresh E27 hs1)
          | some c =>
            rw [hy] at hw l3
            simp only at hw
            refine ⟨(c, true), l3, ?_⟩
            refine cnd_f rfl ?_
            refine ldP_at (some X.mb) h8.top.drew rfl ?_
            cases hz : aget T.nodes c with
            | none => rw [hz] at hw; cases hw
            | some y =>
              rw [hz] at hw
              simp only at hw
              by_cases hy3 : y.kind = 3
              · rw [if_pos hy3] at hw; cases hw
              · rw [if_neg hy3] at hw
                obtain ⟨nb2, ds2, ws2, m2, l4, nA2, l5⟩ := (h8.kept0 (Eff.drew w8)).look hz
                refine ⟨_, l4, ?_⟩
                refine ⟨fun b w' => w' = w8.drew ∧ b = false, ?_, ?_⟩
                · refine ldP_at y.kind nA2.cells rfl ?_
                  exact cnd_f (by simpa using hy3) ⟨rfl, rfl⟩
                · rintro b w' ⟨rfl, rfl⟩
                  refine cnd_f rfl ?_
                  refine ldP_at sp.1 hc.drew rfl ?_
                  refine stN_all hc.drew rfl rfl fun w52 a52 E52 => ?_
                  have E52' : Eff No w w52 := E8.thenDrew.fresh E52 hs3
                  have hd1 := hq.drop (lo := 1) (by omega)
                  rw [Nat.mul_one] at hd1
                  refine ⟨qs'.length, by simp, rfl, qs', (c, sp.1, p), rfl, ?_, a52, hw, E52', fun b hb => hbl b (by rw [← hb]; exact (Sl.drop_blk _ _ _).symm), E52.at hb1.drew (by exact hb13)⟩
                  refine ((show RowAt w8 9 1 (sl.drop 1 1) (qs'.map kStr) from by simpa using hd1).kept0 (Eff.drew w8)).kept E52 fun b hb e => ?_
                  rw [Sl.drop_blk] at hb
                  have := hbl b hb
                  have e' : b = b3 := e
                  omega
  · have hz : qs = [] := List.eq_nil_of_length_eq_zero (by have := of_decide_eq_false hn; simp only at this; omega)
    subst hz
    simp only [walkV] at hw
    cases hw
    refine ldA_all sp hc ?_
    refine stN_all hb1 rfl rfl fun w54 a54 E54 => ?_
    refine ldA_all sp a54 ?_
    exact k _ (E8.fresh E54 hs1)

end
end Go.Proofs.YtcpoglgnkedpaaaGreatDoor

/-
  tree: make.
-/
namespace Go.Proofs.YtcpoglgnkedpaaaGreatDoor
open Go Go.Vc Go.Proofs

def newNode (kind : Int) : NodeV := ⟨kind, [], [], [], 0, 0, 0⟩
def makeV (T : TreeV) (dir : Int) (name : Str) (kind : Int) (d : NodeV) : TreeV :=
  addV { T with nodes := aset T.nodes (T.last + 1) (newNode kind), last := T.last + 1 } dir name (T.last + 1) d (newNode kind)

section
variable {w w' : World} {own : Owner} {tb : Nat} {X : TreeX} {T : TreeV}

theorem make_spec {s : Spot} {kind : Int} {data : Str} {d : NodeV} {K : Int → World → Prop} (h : TreeAt w own tb X T) (hk : kind = 1 ∨ kind = 2) (hd : aget T.nodes s.2.1 = some d) (hdk : d.kind = 2) (h0 : 0 ≤ T.last) (h1 : T.last < 1000000)
    (hn : aget T.nodes (T.last + 1) = none)
    (k : ∀ own' X' w', Eff (fun b => ∃ t, own b = some t) w w' → (∀ b, b < w.heap.size → own' b = own b) → TreeAt w' own' tb X' (makeV T s.2.1 s.2.2 kind d) → K (T.last + 1) w') : tree_Tree_make_78 (some ⟨tb, 0, none⟩) s kind data w K := by
  refine tree_Tree_make_78_of _ _ _ _ w K ?_
  unfold F78
  refine newP_at fun b1 w2 e1 a1 E1 => ?_
  have h2 := h.kept0 E1
  refine ldP_at T.last h2.top rfl ?_
  refine onSome_some ?_
  have hw : w64 (T.last + 1) = T.last + 1 := w64_id (by omega) (by omega)
  rw [hw]
  refine stP_at (i := 1) h2.top (by simp) rfl fun w6 a6 E6 => ?_
  have h6 : TreeAt w6 own tb X { T with last := T.last + 1 } := h2.setTop E6 a6
  have ht : tb < w.heap.size := h.top.lt
  have hb1 : b1 ≠ tb := by omega
  refine newP_at fun b7 w8 e7 a7 E7 => ?_
  have s2 := E1.size
  have s6 := E6.size
  have s8 := E7.size
  have a1' := E7.at0 (E6.at a1 hb1)
  refine ⟨fun _ w11 => ∃ m, Eff No w6 w11 ∧ At w11 b7 (.cells #[.int .i64 kind, .slice none 0 0, .slice none 0 0, .map m, .int .i64 0, .int .i64 0, .int .i64 0] 126 (0, 0)) ∧ MapO sT.mk iT.mk w11 m [] ∧ (∀ b, m = some b → w8.heap.size ≤ b) ∧ (kind = 2 → ∃ b, m = some b) ∧
      At w11 b1 (.cells #[.int .i64 s.1, .int .i64 s.2.1, .string s.2.2] 151 (0, 0)), ?_, ?_⟩
  · refine ⟨fun _ w11 => ∃ m, Eff No w6 w11 ∧ At w11 b7 (.cells #[.int .i64 kind, .slice none 0 0, .slice none 0 0, .map m, .int .i64 0, .int .i64 0, .int .i64 0] 126 (0, 0)) ∧ MapO sT.mk iT.mk w11 m [] ∧ (∀ b, m = some b → w8.heap.size ≤ b) ∧ (kind = 2 → ∃ b, m = some b) ∧
      At w11 b1 (.cells #[.int .i64 s.1, .int .i64 s.2.1, .string s.2.2] 151 (0, 0)), ?_, fun _ _ h => h⟩
    refine cnd_intro (fun hh => ?_) (fun hh => ?_)
    · refine newP_at fun b15 w16 e15 a15 E15 => ?_
      have hb : b15 ≠ b7 := by have := a7.lt; omega
      refine stP_at (i := 3) (E15.at0 a7) (by simp) rfl fun w17 a17 E17 => ?_
      have s16 := E15.size
      refine ⟨some b15, (E7.trans E15).fresh E17 (by omega), a17, (MapF.new (E17.at a15 hb)).o, fun b hb' => by cases hb'; omega, fun _ => ⟨_, rfl⟩, E17.at (E15.at0 a1') (by show ¬ b1 = b7; have := a1.lt; omega)⟩
    · have hk2 : ¬ kind = 2 := by simpa using hh
      have hk1 := hk.resolve_right hk2
      refine ⟨fun _ w => w = w8, ?_, ?_⟩
      · exact cnd_f (by rw [hk1]; rfl) rfl
      · rintro _ _ rfl
        exact ⟨none, E7, a7, .inl ⟨rfl, rfl⟩, fun b hb => (by cases hb), fun hh2 => absurd hh2 hk2, a1'⟩
  rintro _ w11 ⟨m, E11, c11, m11, hm1, hm2, b11⟩
  have h11 := h6.kept0 E11.thenDrew
  refine ldP_at (some X.mb) h11.top rfl ?_
  refine ldP_at (T.last + 1) h11.top rfl ?_
  obtain ⟨w28, r1, r2, r3⟩ := update (vf := pT.mk) keyI und127 h11.map (T.last + 1) (some ⟨b7, 0, none⟩)
  refine ⟨w28, r1, ?_⟩
  have E28 : Eff (fun c => c = X.mb) w6 w28 := E11.thenDrew.up.comp r3 fun _ _ e => e
  have hmb : X.mb < w6.heap.size := h6.map.lt
  have hb7 : w6.heap.size ≤ b7 := by omega
  let own' : Owner := fun b => if b = b7 then some (.node (T.last + 1)) else if m = some b then some (.names (T.last + 1)) else own b
  have ho : ∀ b, b < w6.heap.size → own' b = own b := by
    intro b hb
    simp only [own']
    rw [if_neg (by omega), if_neg fun e => by have := hm1 b e; omega]
  have c28 := r3.at c11.drew (by show ¬ b7 = X.mb; omega)
  have hsz := E28.size
  have T28 : TreeAt w28 own' tb { X with lp := aset X.lp (T.last + 1) (some ⟨b7, 0, none⟩) } { T with nodes := aset T.nodes (T.last + 1) (newNode kind), last := T.last + 1 } := by
    refine h6.setMap (n := T.last + 1) (o' := some (newNode kind)) E28 (fun b t hb e => ?_) r2 ho (fun b t hb => ?_) (nodup_aset h.nd _ _) (fun k' hk' => ?_) (fun k' => ?_) (.inr ⟨_, b7, ⟨none, 0, 0⟩, ⟨none, 0, 0⟩, m, rfl, ?_, ?_⟩)
    · rw [e, h6.mapO] at hb; cases hb; rfl
    · simp only [own'] at hb
      split at hb
      · rename_i e; rw [e]; exact c28.lt
      · split at hb
        · rename_i e; exact Nat.lt_of_lt_of_le (m11.lt e) (Nat.le_trans (Eff.drew w11).size r3.size)
        · exact Nat.lt_of_lt_of_le (h6.lt b t hb) E28.size
    · rw [aget_aset, if_neg hk']
    · show aget (aset T.nodes (T.last + 1) (newNode kind)) k' = _
      rw [aget_aset]
    · rw [aget_aset, if_pos rfl]
    · refine { cells := c28, o := by simp [own'], row := RowAt.nil, rowO := fun b hb => (by cases hb), wrow := RowAt.nil, wrowO := fun b hb => (by cases hb), nm := (m11.kept0 (Eff.drew w11)).kept r3 fun b hb e => ?_, nmO := fun b hb => ?_, dir := fun hh => hm2 hh, dl := by simp [newNode] }
      · have := hm1 b hb; have e' : b = X.mb := e; omega
      · have := hm1 b hb
        have := a7.lt
        simp only [own']
        rw [if_neg (by omega), if_pos hb]
  have hT := T28.kept0 (Eff.drew w28)
  have hmb1 : b1 ≠ X.mb := by have := h.map.lt; omega
  have b28 := (r3.at b11.drew hmb1).drew
  refine ldP_at s.2.1 b28 rfl ?_
  refine ldP_at s.2.2 b28 rfl ?_
  refine ldP_at (T.last + 1) hT.top rfl ?_
  have hne : s.2.1 ≠ T.last + 1 := fun e => by rw [e, hn] at hd; cases hd
  refine add_spec hT (d := d) (x := newNode kind) (by show aget (aset T.nodes (T.last + 1) (newNode kind)) s.2.1 = _; rw [aget_aset, if_neg hne]; exact hd) hdk (by show aget (aset T.nodes (T.last + 1) (newNode kind)) _ = _; rw [aget_aset, if_pos rfl]) hne fun w34 E34 h34 => ?_
  refine ldP_at (T.last + 1) h34.top rfl ?_
  have E06 : Eff (fun b => ∃ t, own b = some t) w w6 := E1.up.comp E6 fun b _ e => ⟨.top, by rw [e]; exact h.topO⟩
  have E028 : Eff (fun b => ∃ t, own b = some t) w w28 := E06.comp E28 fun b _ e => ⟨.map, by rw [e]; exact h.mapO⟩
  refine k own' _ w34 (E028.thenDrew.comp E34 fun b hb ⟨t, ht⟩ => ⟨t, ?_⟩) (fun b hb => ho b (by omega)) h34
  rw [ho b (by omega)] at ht
  exact ht

end
end Go.Proofs.YtcpoglgnkedpaaaGreatDoor

/-
  tree: find, way, place, fresh.
-/
namespace Go.Proofs.YtcpoglgnkedpaaaGreatDoor
open Go Go.Vc Go.Proofs

def root0 : Spot := (1, 0, ⟨#[]⟩)

/-- The names of a directory, from the root on: of one that is the root, or lies in it. -/
def wayV (T : TreeV) (n : Int) : Option (List Str) :=
  if n = 1 then some [] else match aget T.nodes n with
    | none => none
    | some x => if x.above = 0 then some [] else if x.above = 1 then match aget T.nodes 1 with
        | none => none
        | some y => match y.names.filter (fun p => p.2 == n) with
          | [p] => some [p.1]
          | _ => none
      else none

section
variable {w : World} {own : Owner} {tb : Nat} {X : TreeX} {T : TreeV}

theorem find_spec {p : Str} {follow : Bool} {r : Spot × Int} {K : Tup [.agg [.int .i64, .int .i64, .str], .one (.int .i64)] → World → Prop} (h : TreeAt w own tb X T) (hp : okPath p = true) (hr : walkV T root0 (partsV p) = some r)
    (k : ∀ w', Eff No w w' → K r w') : tree_Tree_find_91 (some ⟨tb, 0, none⟩) p follow w K := by
  refine tree_Tree_find_91_of _ _ _ w K ?_
  unfold F91
  refine newP_at fun b1 w2 e1 a1 E1 => ?_
  refine PSplit_spec hp fun s w4 E4 hs hb => ?_
  refine cnd_f rfl ?_
  have E04 := E1.trans E4
  refine walk_spec (h.kept0 E04) hs hr fun w8 E8 => ?_
  have E48 := E4.trans E8
  refine stN_all (E48.at0 a1) rfl rfl fun w9 a9 E9 => ?_
  refine ldA_all r.1 a9 ?_
  exact k _ ((E04.trans E8).fresh E9 (by omega))

theorem Reverse_spec {s : Sl} {xs : List Value} {K : Tup [] → World → Prop} (h : RowAt w 9 1 s xs) (hl : xs.length ≤ 1) (k : K () w) : slices_Reverse_183 s w K := by
  refine slices_Reverse_183_of _ w K ?_
  unfold F183
  have hlen := h.len1
  refine loopP_count (fun _ st w1 => w = w1 ∧ st.1 = 0 ∧ st.2 ≤ 0) ⟨0, rfl, rfl, ?_⟩ ?_
  · show w64 _ ≤ 0
    rw [w64_id (by omega) (by omega)]; omega
  · rintro n ⟨i, j⟩ w1 ⟨rfl, h1, h2⟩
    have hij : ∀ i j : Int, i = 0 → j ≤ 0 → decide (i < j) = false := fun i j h1 h2 => decide_eq_false (by omega)
    exact cnd_f (hij i j h1 h2) k

theorem way_spec {n : Int} {ws : List Str} {K : Sl → World → Prop} (h : TreeAt w own tb X T) (hr : wayV T n = some ws)
    (k : ∀ r w', Eff No w w' → RowAt w' 9 1 r (ws.map kStr) → (∀ b, r.blk = some b → w.heap.size ≤ b) → K r w') : tree_Tree_way_145 (some ⟨tb, 0, none⟩) n w K := by
  refine tree_Tree_way_145_of _ _ w K ?_
  unfold F145
  refine loopP_count (fun m st w1 => Eff No w w1 ∧ (∀ b, st.2.blk = some b → w.heap.size ≤ b) ∧
    ((m = 1 ∧ st.1 = n ∧ w1 = w ∧ st.2 = ⟨none, 0, 0⟩) ∨ (m = 0 ∧ st.1 = 1 ∧ RowAt w1 9 1 st.2 (ws.map kStr) ∧ ws.length ≤ 1)))
    ⟨1, Eff.refl _ _, fun b hb => (by cases hb), .inl ⟨rfl, rfl, rfl, rfl⟩⟩ ?_
  rintro m ⟨n', out'⟩ w3 ⟨E3, hb, hh⟩
  obtain ⟨out, hout⟩ : ∃ o : Sl, o = out' := ⟨out', rfl⟩
  subst hout
  obtain ⟨n1, hn1⟩ : ∃ o : Int, o = n' := ⟨n', rfl⟩
  subst hn1
  replace hb : ∀ b, out.blk = some b → w.heap.size ≤ b := hb
  -- at the end
  have fin : ∀ w6, w6 = w3 → RowAt w3 9 1 out (ws.map kStr) → ws.length ≤ 1 → slices_Reverse_183 out w6 fun r35 w36 => K out w36 := by
    rintro w6 rfl hrow hl
    exact Reverse_spec hrow (by simpa using hl) (k out _ E3 hrow hb)
  rcases hh with ⟨rfl, rfl, rfl, rfl⟩ | ⟨rfl, rfl, hrow, hl⟩
  · unfold wayV at hr
    by_cases h1 : n1 = 1
    · rw [if_pos h1] at hr
      cases hr
      refine ⟨fun b w6 => w3 = w6 ∧ b = false, ?_, ?_⟩
      · exact cnd_f (by simpa using h1) ⟨rfl, rfl⟩
      · rintro b w6 ⟨rfl, rfl⟩
        exact cnd_f rfl (fin _ rfl RowAt.nil (by simp))
    · rw [if_neg h1] at hr
      cases hx : aget T.nodes n1 with
      | none => rw [hx] at hr; cases hr
      | some x =>
        rw [hx] at hr
        simp only at hr
        obtain ⟨nb, ds, wsl, mm, l1, nA, l2⟩ := h.look hx
        by_cases h2 : x.above = 0
        · rw [if_pos h2] at hr
          cases hr
          refine ⟨fun b w6 => w3 = w6 ∧ b = false, ?_, ?_⟩
          · refine cnd_t (by simpa using h1) ?_
            refine ldP_at (some X.mb) h.top rfl ?_
            refine ⟨_, l1, ?_⟩
            refine ldP_at x.above nA.cells rfl ?_
            exact ⟨rfl, by simpa using h2⟩
          · rintro b w6 ⟨rfl, rfl⟩
            exact cnd_f rfl (fin _ rfl RowAt.nil (by simp))
        · rw [if_neg h2] at hr
          by_cases h3 : x.above = 1
          · rw [if_pos h3] at hr
            cases hy : aget T.nodes 1 with
            | none => rw [hy] at hr; cases hr
            | some y =>
              rw [hy] at hr
              simp only at hr
              split at hr
              · rename_i p hfil
                cases hr
                refine ⟨fun b w6 => w3 = w6 ∧ b = true, ?_, ?_⟩
                · refine cnd_t (by simpa using h1) ?_
                  refine ldP_at (some X.mb) h.top rfl ?_
                  refine ⟨_, l1, ?_⟩
                  refine ldP_at x.above nA.cells rfl ?_
                  exact ⟨rfl, by simpa using h2⟩
                · rintro b w6 ⟨rfl, rfl⟩
                  refine cnd_t rfl ?_
                  refine ldP_at (some X.mb) h.top rfl ?_
                  refine ⟨_, l1, ?_⟩
                  refine ldP_at x.above nA.cells rfl ?_
                  rw [h3]
                  refine ldP_at (some X.mb) h.top rfl ?_
                  obtain ⟨nb2, ds2, ws2, m2, l3, nA2, l4⟩ := h.look hy
                  refine ⟨_, l3, ?_⟩
                  refine ldP_at m2 nA2.cells rfl ?_
                  refine range_ro und66 keyS nA2.nm (fun ps s w1 => Eff No w3 w1 ∧ RowAt w1 9 1 s (((ps.reverse.filter fun q => q.2 == n1).map fun q => kStr q.1)) ∧ (∀ b, s.blk = some b → w3.heap.size ≤ b ∧ b ≠ w3.heap.size) ∧ (ps.filter fun q => q.2 == n1).length ≤ 1) (fun w1 E => ⟨E, by simpa using RowAt.nil, fun b hb => (by cases hb), by simp⟩) ?_ ?_ ?_
                  · rintro ps s w1 w2 ⟨E1, r1, b1, c1⟩ E2
                    exact ⟨E1.fresh E2 (Nat.le_refl _), r1.kept E2 fun b hb => (b1 b hb).2, b1, c1⟩
                  · rintro ps s w1 ⟨E1, r1, b1, c1⟩ hp
                    have hpf : (ps.reverse.filter fun q => q.2 == n1) = [p] := by
                      have : (ps.reverse.filter fun q => q.2 == n1).Perm [p] := by
                        rw [← hfil]
                        exact ((List.reverse_perm ps).trans hp).filter _
                      exact List.perm_singleton.1 this
                    rw [hpf] at r1
                    exact ⟨0, by omega, E1, fun b hb => (b1 b hb).1, .inr ⟨rfl, rfl, r1, by simp⟩⟩
                  · rintro ps s w1 q again ⟨E1, r1, b1, c1⟩ hq hnq hsub hlt hag
                    have hqp : ∀ r : Str × Int, r ∈ y.names → r.2 = n1 → r = p := fun r h1 h2 => by
                      have : r ∈ y.names.filter (fun p => p.2 == n1) := List.mem_filter.2 ⟨h1, by simpa using h2⟩
                      rw [hfil] at this
                      simpa using this
                    refine cnd_intro (fun hc => ?_) (fun hc => ?_)
                    · have hc' : q.2 = n1 := by simpa using hc
                      have hz : (ps.filter fun q => q.2 == n1) = [] := by
                        refine List.filter_eq_nil_iff.2 fun r hr1 hr2 => ?_
                        have e1 := hqp r (hsub r hr1) (by simpa using hr2)
                        have e2 := hqp q hq hc'
                        exact hnq (List.mem_map.2 ⟨r, hr1, by rw [e1, e2]⟩)
                      have hz' : (ps.reverse.filter fun q => q.2 == n1) = [] := by
                        rw [List.filter_reverse, hz]; rfl
                      rw [hz'] at r1
                      refine newP_at fun b31 w32 e31 a31 E31 => ?_
                      have hs0 : s.len = 0 := by simpa using r1.len1
                      have s31 := E31.size
                      obtain ⟨s', w34, q1, q2, q3, q4, q5⟩ := append_row (ty := 41) slStrs (r1.kept0 E31) (x := ⟨some ⟨b31, 0, none⟩, 1, 1⟩) (news := [kStr q.1]) (RowAt.new a31 rfl) (by simp [kStr, Value.oneCell']) (by simp [hs0, maxLen]) (by simp [hs0])
                      have Eq : Eff (fun b => s.blk = some b) w1 w34 := E31.up.comp q4 fun _ _ h => h
                      refine ⟨s', w34, q1, hag _ s' w34 Eq (fun e => (b1 _ e).2 rfl) (fun b hb e => ?_) ⟨E1.comp Eq fun b hb e => absurd hb (Nat.not_lt.2 (b1 b e).1), ?_, fun b hb => ?_, ?_⟩⟩
                      · have := nA2.nm.lt hb
                        have := (b1 b e).1
                        omega
                      · rw [List.reverse_cons, List.filter_append, hz']
                        simp only [List.filter_cons, hc, if_true, List.filter_nil, List.nil_append, List.map_cons, List.map_nil]
                        exact q2
                      · rcases q5 with q5 | q5
                        · rw [q5] at hb; exact b1 b hb
                        · rw [q5] at hb; cases hb
                          have := E1.size
                          omega
                      · simp only [List.filter_cons, hc, if_true, hz]
                        simp
                    · refine hag No s w1 (Eff.refl _ _) (fun h => h) (fun _ _ h => h) ⟨E1, ?_, b1, ?_⟩
                      · rw [List.reverse_cons, List.filter_append]
                        simp only [List.filter_cons, hc, List.filter_nil]
                        simpa using r1
                      · simp only [List.filter_cons, hc]
                        simpa using c1
              · cases hr
          · rw [if_neg h3] at hr
            cases hr
  · refine ⟨fun b w6 => w3 = w6 ∧ b = false, ?_, ?_⟩
    · exact cnd_f rfl ⟨rfl, rfl⟩
    · rintro b w6 ⟨rfl, rfl⟩
      exact cnd_f rfl (fin _ rfl hrow hl)

end
end Go.Proofs.YtcpoglgnkedpaaaGreatDoor

/-
  tree: place, fresh; Do: Mkdir, Sync.
-/
namespace Go.Proofs.YtcpoglgnkedpaaaGreatDoor
open Go Go.Vc Go.Proofs

/-- The place of a path: the path without its last part leads to a directory. -/
structure PlaceOk (T : TreeV) (p : Str) (ini : List Str) (l : Str) (sp : Spot) (x : NodeV) (ws : List Str) : Prop where
  ok : okPath p = true
  parts : partsV p = ini ++ [l]
  dots : l ≠ ⟨#[46, 46]⟩
  size1 : (joinS ini slash).size ≤ 1000000
  ok2 : okPath (joinV ini) = true
  walk : walkV T root0 (partsV (joinV ini)) = some (sp, 0)
  node : aget T.nodes sp.1 = some x
  dir : x.kind = 2
  way : wayV T sp.1 = some ws
  size2 : (joinS (ws ++ [l]) slash).size ≤ 1000000
  len : ws.length ≤ 1000
  long : longV (ws ++ [l]) = false

def nodeAt (x : NodeV) (l : Str) : Int := (aget x.names l).getD 0

section
variable {w : World} {own : Owner} {tb : Nat} {X : TreeX} {T : TreeV}

theorem place_spec {p : Str} {ini : List Str} {l : Str} {sp : Spot} {x : NodeV} {ws : List Str} {K : Tup [.agg [.int .i64, .int .i64, .str], .one (.int .i64)] → World → Prop} (h : TreeAt w own tb X T) (hp : PlaceOk T p ini l sp x ws)
    (k : ∀ w', Eff No w w' → K ((nodeAt x l, sp.1, l), 0) w') : tree_Tree_place_129 (some ⟨tb, 0, none⟩) p w K := by
  refine tree_Tree_place_129_of _ _ w K ?_
  unfold F129
  refine newP_at fun b1 w2 e1 a1 E1 => ?_
  refine Last_spec hp.ok hp.parts hp.dots hp.size1 fun w4 E4 => ?_
  refine cnd_f rfl ?_
  have E04 := E1.trans E4
  refine find_spec (h.kept0 E04) hp.ok2 hp.walk fun w8 E8 => ?_
  have E08 := E04.trans E8
  refine newP_at fun b9 w10 e9 a9 E9 => ?_
  refine stN_all a9 rfl rfl fun w11 a11 E11 => ?_
  have E811 : Eff No w8 w11 := E9.fresh E11 (by omega)
  have E011 := (E08.trans E811).thenDrew
  refine cnd_f rfl ?_
  have h11 := h.kept0 E011
  refine onSome_some ?_
  refine ldP_at (some X.mb) h11.top rfl ?_
  refine ldP_at sp.1 a11.drew rfl ?_
  obtain ⟨nb, ds, wsl, m, l1, nA, l2⟩ := h11.look hp.node
  refine ⟨_, l1, ?_⟩
  refine onSome_some ?_
  refine ldP_at x.kind nA.cells rfl ?_
  refine cnd_f (by rw [hp.dir]; rfl) ?_
  refine ldP_at sp.1 a11.drew rfl ?_
  refine way_spec h11 hp.way fun r23 w24 E24 hr hrb => ?_
  refine newP_at fun b25 w26 e25 a25 E25 => ?_
  have hlen : r23.len = ws.length := by simpa using hr.len1
  have hwl := hp.len
  obtain ⟨s', w28, q1, q2, q3, q4, q5⟩ := append_row (ty := 41) slStrs (hr.kept0 E25) (x := ⟨some ⟨b25, 0, none⟩, 1, 1⟩) (news := [kStr l]) (RowAt.new a25 rfl) (by simp [kStr, Value.oneCell']) (by simp [hlen, maxLen]; omega) (by simp [hlen]; omega)
  refine ⟨s', w28, q1, ?_⟩
  have hd11 : w11.drew.heap.size = w11.heap.size := rfl
  have E28 : Eff No w11.drew w28 := (E24.trans E25).comp q4 fun b hb e => absurd hb (Nat.not_lt.2 (hrb b e))
  refine long_spec (ps := ws ++ [l]) (by simpa using q2) (by simp; omega) hp.size2 fun w30 E30 => ?_
  refine cnd_f hp.long ?_
  have E30' := (E28.trans E30).thenDrew
  have E030 := E011.trans E30'
  have nA' := nA.kept (own' := own) E30' (fun _ _ => rfl) fun _ _ _ _ h => h
  refine onSome_some ?_
  refine ldP_at m nA'.cells rfl ?_
  have l3 := MapO.int1 keyS und66 nA'.nm l
  refine ⟨nodeAt x l, l3, ?_⟩
  refine ldP_at sp.1 (E30'.at0 a11.drew) rfl ?_
  have E111 : Eff No w2 w30.drew := ((E4.trans E8).trans E811).thenDrew.trans E30'
  refine stN_all (E111.at0 a1) rfl rfl fun w37 a37 E37 => ?_
  refine ldA_all (nodeAt x l, sp.1, l) a37 ?_
  exact k _ (E030.fresh E37 (by omega))

theorem fresh_spec {p : Str} {ini : List Str} {l : Str} {sp : Spot} {x : NodeV} {ws : List Str} {K : Tup [.agg [.int .i64, .int .i64, .str], .one (.int .i64)] → World → Prop} (h : TreeAt w own tb X T) (hp : PlaceOk T p ini l sp x ws) (hn : nodeAt x l = 0)
    (k : ∀ w', Eff No w w' → K ((0, sp.1, l), 0) w') : tree_Tree_fresh_77 (some ⟨tb, 0, none⟩) p w K := by
  refine tree_Tree_fresh_77_of _ _ w K ?_
  unfold F77
  refine newP_at fun b1 w2 e1 a1 E1 => ?_
  refine place_spec (h.kept0 E1) hp fun w4 E4 => ?_
  refine newP_at fun b5 w6 e5 a5 E5 => ?_
  refine stN_all a5 rfl rfl fun w7 a7 E7 => ?_
  have E47 : Eff No w4 w7 := E5.fresh E7 (by omega)
  refine cnd_f rfl ?_
  refine ldP_at (nodeAt x l) a7 rfl ?_
  refine cnd_f (by rw [hn]; rfl) ?_
  refine ldA_all (nodeAt x l, sp.1, l) a7 ?_
  refine stN_all ((E4.trans E47).at0 a1) rfl rfl fun w14 a14 E14 => ?_
  refine ldA_all (nodeAt x l, sp.1, l) a14 ?_
  rw [hn]
  exact k _ (((E1.trans E4).trans E47).fresh E14 (by omega))

abbrev OpC := Carr [.int .i64, .int .i64, .int .i64, .int .i64, .int .i64, .str, .str, .slice]
abbrev AnsC := Carr [.int .i64, .int .i64, .int .i64, .int .i64, .slice, .slice]
def ansCode (e : Int) : AnsC := (e, 0, 0, 0, ⟨none, 0, 0⟩, ⟨none, 0, 0⟩)

/-- 'Do' of Sync. -/
theorem Do_sync_spec {o : OpC} {K : AnsC → World → Prop} (ho : o.1 = 21) (k : ∀ w', Eff No w w' → K (ansCode 0) w') : tree_Tree_Do_32 (some ⟨tb, 0, none⟩) o w K := by
  refine tree_Tree_Do_32_of _ _ w K ?_
  unfold F32
  refine newP_at fun b1 w2 e1 a1 E1 => ?_
  refine newP_at fun b3 w4 e3 a3 E3 => ?_
  refine cnd_f rfl ?_
  have a1' := E3.at0 a1
  refine ldP_at o.1 a1' rfl ?_
  rw [ho]
  have s1 := E1.size
  refine cnd_f (by decide) ?_
  refine cnd_f (by decide) ?_
  refine ⟨fun b w' => w4 = w' ∧ b = false, cnd_f (by decide) ⟨rfl, by decide⟩, ?_⟩
  rintro b w' ⟨rfl, rfl⟩
  refine cnd_f rfl ?_
  refine ⟨fun b w' => w4 = w' ∧ b = false, cnd_f (by decide) ⟨rfl, by decide⟩, ?_⟩
  rintro b w' ⟨rfl, rfl⟩
  refine cnd_f rfl ?_
  refine cnd_f (by decide) ?_
  refine cnd_f (by decide) ?_
  refine cnd_f (by decide) ?_
  refine ⟨fun b w' => w4 = w' ∧ b = false, cnd_f (by decide) ⟨rfl, by decide⟩, ?_⟩
  rintro b w' ⟨rfl, rfl⟩
  refine cnd_f rfl ?_
  refine cnd_f (by decide) ?_
  refine cnd_f (by decide) ?_
  refine ⟨fun b w' => w4 = w' ∧ b = false, cnd_f (by decide) ⟨rfl, by decide⟩, ?_⟩
  rintro b w' ⟨rfl, rfl⟩
  refine cnd_f rfl ?_
  refine cnd_f (by decide) ?_
  refine ⟨fun b w' => w4 = w' ∧ b = false, cnd_f (by decide) ⟨rfl, by decide⟩, ?_⟩
  rintro b w' ⟨rfl, rfl⟩
  refine cnd_f rfl ?_
  refine ⟨fun b w' => w4 = w' ∧ b = false, cnd_f (by decide) ⟨rfl, by decide⟩, ?_⟩
  rintro b w' ⟨rfl, rfl⟩
  refine cnd_f rfl ?_
  refine cnd_t (by decide) ?_
  refine stN_all a3 rfl rfl fun w7 a7 E7 => ?_
  refine ldA_all (ansCode 0) a7 ?_
  exact k _ ((E1.trans E3).fresh E7 (by omega))

/-- 'Do' of Mkdir. -/
theorem Do_mkdir_spec {o : OpC} {ini : List Str} {l : Str} {sp : Spot} {x : NodeV} {ws : List Str} {K : AnsC → World → Prop} (ho : o.1 = 9) (h : TreeAt w own tb X T) (hp : PlaceOk T o.2.2.2.2.2.1 ini l sp x ws) (hn : nodeAt x l = 0)
    (h0 : 0 ≤ T.last) (h1 : T.last < 1000000) (hm : aget T.nodes (T.last + 1) = none)
    (k : ∀ own' X' w', Eff (fun b => ∃ t, own b = some t) w w' → (∀ b, b < w.heap.size → own' b = own b) → TreeAt w' own' tb X' (makeV T sp.1 l 2 x) → K (ansCode 0) w') : tree_Tree_Do_32 (some ⟨tb, 0, none⟩) o w K := by
  refine tree_Tree_Do_32_of _ _ w K ?_
  unfold F32
  refine newP_at fun b1 w2 e1 a1 E1 => ?_
  refine newP_at fun b3 w4 e3 a3 E3 => ?_
  refine cnd_f rfl ?_
  have a1' := E3.at0 a1
  refine ldP_at o.1 a1' rfl ?_
  rw [ho]
  have s1 := E1.size
  have E04 := E1.trans E3
  refine cnd_f (by decide) ?_
  refine cnd_f (by decide) ?_
  refine ⟨fun b w' => w4 = w' ∧ b = false, cnd_f (by decide) ⟨rfl, by decide⟩, ?_⟩
  rintro b w' ⟨rfl, rfl⟩
  refine cnd_f rfl ?_
  refine ⟨fun b w' => w4 = w' ∧ b = false, cnd_f (by decide) ⟨rfl, by decide⟩, ?_⟩
  rintro b w' ⟨rfl, rfl⟩
  refine cnd_f rfl ?_
  refine cnd_f (by decide) ?_
  refine cnd_f (by decide) ?_
  refine cnd_t (by decide) ?_
  refine ldP_at o.2.2.2.2.2.1 a1' rfl ?_
  refine fresh_spec (h.kept0 E04) hp hn fun w48 E48 => ?_
  refine newP_at fun b49 w50 e49 a49 E49 => ?_
  refine stN_all a49 rfl rfl fun w51 a51 E51 => ?_
  have E4851 : Eff No w48 w51 := E49.fresh E51 (by omega)
  have E451 := E48.trans E4851
  have E051 := E04.trans E451
  refine cnd_t rfl ?_
  refine ldA_all (0, sp.1, l) a51 ?_
  have h51 := h.kept0 E051
  refine make_spec (kind := 2) (d := x) h51 (.inr rfl) hp.node hp.dir h0 h1 hm fun own' X' w54 E54 ho' h54 => ?_
  refine code_spec fun w56 E56 => ?_
  have l3 := a3.lt
  have hb3 : own b3 = none := by
    cases hh : own b3 with
    | none => rfl
    | some t => have := h.lt _ _ hh; omega
  have a56 := E56.at0 (E54.at (E451.at0 a3) (by rw [hb3]; simp))
  refine stN_all a56 rfl rfl fun w57 a57 E57 => ?_
  refine ldA_all (ansCode 0) a57 ?_
  have Ew : Eff (fun b => ∃ t, own b = some t) w w57 := ((E051.up.trans E54).thenNo E56).fresh E57 (by omega)
  have hb3' : own' b3 = none := by rw [ho' b3 (by have := E451.size; omega)]; exact hb3
  refine k own' X' w57 Ew (fun b hb => ho' b (by have := E051.size; omega)) ((h54.kept0 E56).kept E57 fun b t hb e => ?_)
  have e' : b = b3 := e
  rw [e', hb3'] at hb
  cases hb

end
end Go.Proofs.YtcpoglgnkedpaaaGreatDoor

/-
  may: Did.
-/
namespace Go.Proofs.YtcpoglgnkedpaaaGreatDoor
open Go Go.Vc Go.Proofs

section
variable {w w' : World} {own : HOwner} {hb : Nat} {tp tp' : Option Addr} {X : HistX} {le : List (Ent × Sl)} {lf : List (Int × Option Addr)} {lm : List (Int × Mark)} {H : HistV}

theorem HistAt.setTree (h : HistAt w own {} hb tp X le lf lm H) (hE : Eff (fun b => b = hb) w w') (ht : At w' hb (.cells #[.pointer tp', .map (some X.nb), .map (some X.fb), .map (some X.mb), .map (some X.eb), .map (some X.ob)] 75 (0, 0))) : HistAt w' own {} hb tp' X le lf lm H :=
  have hd : ∀ b t, own b = some t → t ≠ .top → ¬ b = hb := fun b t hb' hne e => by rw [e, h.topO] at hb'; cases hb'; exact hne rfl
  { lt := fun b t hb' => Nat.lt_of_lt_of_le (h.lt b t hb') hE.size
    top := ht
    topO := h.topO
    num := h.num.kept hE (hd _ _ h.numO (by simp))
    numO := h.numO
    fil := h.fil.kept hE (fun _ _ => rfl) fun b t hb' ht' => hd b t hb' (by rintro rfl; cases ht')
    mar := h.mar.kept hE (fun _ _ => rfl) (fun b hb' => hd b _ hb' (by simp)) fun p hp => by cases hp
    ent := h.ent.kept hE (fun _ _ => rfl) (fun b t hb' ht' => hd b t hb' (by rintro rfl; cases ht')) fun p hp => by cases hp
    ope := h.ope.kept hE (hd _ _ h.opeO (by simp))
    opeO := h.opeO
    itE := h.itE
    itM := h.itM }

theorem HistAt.putNum (h : HistAt w own {} hb tp X le lf lm H) (n number : Int) : ∃ w2, (Instr.mapUpdate 65 (.map (some X.nb)) (.int .i64 n) (.int .i64 number)).run Tryz.prog w = .ok () w2 ∧ Eff (fun b => own b = some .numbers) w w2 ∧ HistAt w2 own {} hb tp X le lf lm { H with numbers := aset H.numbers n number } := by
  obtain ⟨w2, r1, r2, r3⟩ := h.num.put keyI und65 n number
  have E2 : Eff (fun b => own b = some .numbers) w w2 := r3.mono fun b _ hb' => by rw [hb']; exact h.numO
  have hd : ∀ b t, own b = some t → t ≠ .numbers → ¬ own b = some .numbers := fun b t hb' hne e => by rw [hb'] at e; cases e; exact hne rfl
  exact ⟨w2, r1, E2,
    { lt := fun b t hb' => Nat.lt_of_lt_of_le (h.lt b t hb') E2.size
      top := E2.at h.top (hd _ _ h.topO (by simp))
      topO := h.topO
      num := r2
      numO := h.numO
      fil := h.fil.kept E2 (fun _ _ => rfl) fun b t hb' ht' => hd b t hb' (by rintro rfl; cases ht')
      mar := h.mar.kept E2 (fun _ _ => rfl) (fun b hb' => hd b _ hb' (by simp)) fun p hp => by cases hp
      ent := h.ent.kept E2 (fun _ _ => rfl) (fun b t hb' ht' => hd b t hb' (by rintro rfl; cases ht')) fun p hp => by cases hp
      ope := h.ope.kept E2 (hd _ _ h.opeO (by simp))
      opeO := h.opeO
      itE := h.itE
      itM := h.itM }⟩

end

/-- What 'Do' makes: another tree; it tells no fault, and a number. -/
def DoOk (T : TreeV) (o : OpC) (T' : TreeV) (n : Int) : Prop :=
  ∀ (w : World) (own : Owner) (tb : Nat) (X : TreeX) (K : AnsC → World → Prop), TreeAt w own tb X T →
    (∀ own' X' w' ans, ans.1 = 0 → ans.2.1 = n → Eff (fun b => ∃ t, own b = some t) w w' → (∀ b, b < w.heap.size → own' b = own b) → TreeAt w' own' tb X' T' → K ans w') → tree_Tree_Do_32 (some ⟨tb, 0, none⟩) o w K

/-- What 'lasts' makes. -/
def LastOk (H : HistV) (T : TreeV) (o : OpC) (H' : HistV) : Prop :=
  ∀ (w : World) (own : HOwner) (hb tb : Nat) (X : HistX) (le : List (Ent × Sl)) (lf : List (Int × Option Addr)) (lm : List (Int × Mark)) (ownT : Owner) (XT : TreeX) (K : Tup [] → World → Prop), HistAt w own {} hb (some ⟨tb, 0, none⟩) X le lf lm H → TreeAt w ownT tb XT T →
    (∀ own' le' lf' lm' w', Eff (fun b => ∃ t, own b = some t) w w' → (∀ b, b < w.heap.size → own' b = own b) → HistAt w' own' {} hb (some ⟨tb, 0, none⟩) X le' lf' lm' H' → K () w') → may_History_lasts_36 (some ⟨hb, 0, none⟩) o w K

theorem lastOk_sync {H : HistV} {T : TreeV} {o : OpC} (ho : o.1 = 21) : LastOk H T o (syncH H) := fun _w _own _hb _tb _X _le lf _lm _ownT _XT _K h hT k =>
  lasts_sync_spec h hT ho fun own' le' lm' w' E ho' h' => k own' le' lf lm' w' E ho' h'

theorem lastOk_none {H : HistV} {T : TreeV} {o : OpC} (h21 : o.1 ≠ 21) (h4 : o.1 ≠ 4) (h6 : o.1 ≠ 6) (h20 : o.1 ≠ 20) (h19 : o.1 ≠ 19) : LastOk H T o H := fun _w own _hb _tb _X le lf lm _ownT _XT _K h hT k =>
  lasts_none_spec h hT h21 h4 h6 h20 h19 fun w' E => k own le lf lm w' E.up (fun _ _ => rfl) (h.kept0 E)

theorem doOk_sync {T : TreeV} {o : OpC} (ho : o.1 = 21) : DoOk T o T 0 := fun _w own _tb X _K h k =>
  Do_sync_spec ho fun w' E => k own X w' (ansCode 0) rfl rfl E.up (fun _ _ => rfl) (h.kept0 E)

theorem doOk_mkdir {T : TreeV} {o : OpC} {ini : List Str} {l : Str} {sp : Spot} {x : NodeV} {ws : List Str} (ho : o.1 = 9) (hp : PlaceOk T o.2.2.2.2.2.1 ini l sp x ws) (hn : nodeAt x l = 0)
    (h0 : 0 ≤ T.last) (h1 : T.last < 1000000) (hm : aget T.nodes (T.last + 1) = none) : DoOk T o (makeV T sp.1 l 2 x) 0 := fun _w _own _tb _X _K h k =>
  Do_mkdir_spec ho h hp hn h0 h1 hm fun own' X' w' E ho' h' => k own' X' w' (ansCode 0) rfl rfl E ho' h'

/-- A history behind an operation, ahead of what it makes last. -/
def didV (H : HistV) (T T' : TreeV) (number : Int) : HistV :=
  if freshV T' T = 0 then noteV H T' else { noteV H T' with numbers := aset (noteV H T').numbers (freshV T' T) number }

section
variable {w : World} {F : Nat → Prop} {hb : Nat} {H H3 : HistV} {T T' : TreeV}

theorem Did_spec {o : OpC} {n number : Int} {K : Bool → World → Prop} (h : HState w F hb H T) (hs : Small T) (hs' : Small T') (hn : NoteOk H T') (hdo : DoOk T o T' n) (ho : o.1 ≠ 1) (hl : LastOk (didV H T T' number) T' o H3)
    (k : ∀ F' w', Eff F w w' → (∀ b, b < w.heap.size → F' b → F b) → HState w' F' hb H3 T' → K true w') : may_History_Did_16 (some ⟨hb, 0, none⟩) o 0 number w K := by
  obtain ⟨own, ownT, tb, XT, X, le, lf, lm, hH, hT, hdis, hF1, hF2, hF3⟩ := h
  refine may_History_Did_16_of _ _ _ _ w K ?_
  unfold F16
  refine newP_at fun b1 w2 e1 a1 E1 => ?_
  refine cnd_f rfl ?_
  have h2 := hH.kept0 E1
  refine onSome_some ?_
  refine ldP_at (some ⟨tb, 0, none⟩) h2.top rfl ?_
  have s1 := E1.size
  refine Copy_spec (hT.kept0 E1) fun tb' own1 X1 w6 E6 hT6 hnew1 => ?_
  have s6 := E6.size
  refine ldA_all o (E6.at0 a1) ?_
  have l1 := a1.lt
  refine hdo w6 own1 tb' X1 _ hT6 fun own2 X2 w9 ans hans hansn E9 ho2 hT9 => ?_
  have s9 := E9.size
  have hnew2 : ∀ b t, own2 b = some t → w2.heap.size ≤ b := fun b t hb' => by
    by_cases hlt : b < w6.heap.size
    · rw [ho2 b hlt] at hb'; exact hnew1 b t hb'
    · omega
  have E29 : Eff No w2 w9 := E6.comp E9 fun b hb' ⟨t, ht⟩ => by have := hnew1 b t ht; omega
  have E09 := E1.trans E29
  refine newP_at fun b10 w11 e10 a10 E10 => ?_
  refine stN_all a10 rfl rfl fun w12 a12 E12 => ?_
  have E912 : Eff No w9 w12 := E10.fresh E12 (by omega)
  have s12 := E912.size
  have E012 := E09.trans E912
  refine cnd_f (by decide) ?_
  refine cnd_f (by decide) ?_
  refine ldP_at ans.1 a12 rfl ?_
  refine cnd_f (by rw [hans]; rfl) ?_
  refine cnd_f (by decide) ?_
  have h12 := hH.kept0 E012
  have hT12 := hT9.kept0 E912
  refine onSome_some ?_
  refine ldP_at (some ⟨tb, 0, none⟩) h12.top rfl ?_
  refine mfresh_spec hT12 hs' (hT.kept0 E012) hs fun w29 E29' => ?_
  have E029 := E012.trans E29'
  have h29 := hH.kept0 E029
  have s29 := E29'.size
  refine onSome_some ?_
  refine stP_at (i := 0) h29.top (by simp) rfl fun w31 a31 E31 => ?_
  have h31 : HistAt w31 own {} hb (some ⟨tb', 0, none⟩) X le lf lm H := h29.setTree E31 a31
  have s31 := E31.size
  have hhb : hb < w.heap.size := hH.top.lt
  have hT31 : TreeAt w31 own2 tb' X2 T' := (hT12.kept0 E29').kept E31 fun b t hb' e => by
    have e' : b = hb := e
    have := hnew2 b t hb'
    omega
  have a31b := E31.at ((E29.trans (E912.trans E29')).at0 a1) (show ¬ b1 = hb by omega)
  refine note_spec h31 hT31 hs' hn fun own3 le3 lf3 lm3 w33 E33 ho3 h33 => ?_
  have s33 := E33.size
  have hltw : ∀ b t, own b = some t → b < w.heap.size := hH.lt
  have hlt2 : ∀ b t, own2 b = some t → b < w9.heap.size := hT9.lt
  have hT33 := hT31.kept E33 fun b t hb' ⟨t', ht'⟩ => by
    have := hnew2 b t hb'
    have := hltw b t' ht'
    omega
  have a33 := E33.at a31b (fun ⟨t, ht⟩ => by have := hltw _ t ht; omega)
  have hd3 : ∀ b t, own2 b = some t → own3 b = none := fun b t hb' => by
    have := hlt2 b t hb'
    have := hnew2 b t hb'
    rw [ho3 b (by omega)]
    cases hh : own b with
    | none => rfl
    | some t' => have := hltw b t' hh; omega
  -- so far, in F
  have Ef31 : Eff F w w31 := E029.up.comp E31 fun b hb' e => by rw [e]; exact hF1 _ _ hH.topO
  have Ef33 : Eff F w w33 := Ef31.comp E33 fun b hb' ⟨t, ht⟩ => hF1 b t ht
  refine ⟨fun _ w36 => Eff (fun b => ∃ t, own3 b = some t) w33 w36 ∧ HistAt w36 own3 {} hb (some ⟨tb', 0, none⟩) X le3 lf3 lm3 (didV H T T' number), ?_, ?_⟩
  · refine cnd_intro (fun hm => ?_) (fun hm => ?_)
    · have hm' : ¬ freshV T' T = 0 := by simpa using hm
      refine onSome_some ?_
      refine ldP_at (some X.nb) h33.top rfl ?_
      obtain ⟨w39, u1, u2, u3⟩ := h33.putNum (freshV T' T) number
      refine ⟨w39, u1, u2.mono fun b _ hb' => ⟨_, hb'⟩, ?_⟩
      rw [didV, if_neg hm']
      exact u3
    · have hm' : freshV T' T = 0 := by simpa using hm
      refine ⟨Eff.refl _ _, ?_⟩
      rw [didV, if_pos hm']
      exact h33
  rintro _ w36 ⟨E36, h36⟩
  have s36 := E36.size
  have o3w : ∀ b, b < w.heap.size → own3 b = own b := fun b hb' => ho3 b (by omega)
  have hT36 := hT33.kept E36 fun b t hb' ⟨t', ht'⟩ => by rw [hd3 b t hb'] at ht'; cases ht'
  have hob1 : own3 b1 = none := by
    rw [ho3 b1 (by omega)]
    cases hh : own b1 with
    | none => rfl
    | some t => have := hltw _ t hh; omega
  have a36 := E36.at a33 (fun ⟨t, ht⟩ => by rw [hob1] at ht; cases ht)
  have Ef36 : Eff F w w36 := Ef33.comp E36 fun b hb' ⟨t, ht⟩ => by rw [o3w b hb'] at ht; exact hF1 b t ht
  refine ldP_at o.1 a36 rfl ?_
  refine cnd_f (by simpa using ho) ?_
  refine ldA_all o a36 ?_
  refine hl w36 own3 hb tb' X le3 lf3 lm3 own2 X2 _ h36 hT36 fun own4 le4 lf4 lm4 w61 E61 ho4 h61 => ?_
  have s61 := E61.size
  have hd4 : ∀ b t, own2 b = some t → own4 b = none := fun b t hb' => by
    have := hlt2 b t hb'
    rw [ho4 b (by omega)]
    exact hd3 b t hb'
  have hT61 := hT36.kept E61 fun b t hb' ⟨t', ht'⟩ => by rw [hd3 b t hb'] at ht'; cases ht'
  have o4w : ∀ b, b < w.heap.size → own4 b = own b := fun b hb' => (ho4 b (by omega)).trans (o3w b hb')
  refine k (fun b => (∃ t, own4 b = some t) ∨ ∃ t, own2 b = some t) w61 (Ef36.comp E61 fun b hb' ⟨t, ht⟩ => ?_) (fun b hb' hFb => ?_) ⟨own4, own2, tb', X2, X, le4, lf4, lm4, h61, hT61, fun b t hb' => ?_, fun b t hb' => .inl ⟨t, hb'⟩, fun b t hb' => .inr ⟨t, hb'⟩, fun b hb' => ?_⟩
  · rw [o3w b hb'] at ht; exact hF1 b t ht
  · rcases hFb with ⟨t, ht⟩ | ⟨t, ht⟩
    · rw [o4w b hb'] at ht; exact hF1 b t ht
    · have := hnew2 b t ht; omega
  · cases hh : own2 b with
    | none => rfl
    | some t' => rw [hd4 b t' hh] at hb'; cases hb'
  · rcases hb' with ⟨t, ht⟩ | ⟨t, ht⟩
    · exact h61.lt b t ht
    · exact hT61.lt b t ht

/-- A look at a history. -/
structure SeeOk (H : HistV) (w : World) (hold : FileV → NodeC → Bool) (ns : List NodeC) : Prop where
  len : ns.length ≤ 1000000
  paths : ∀ x ∈ ns, x.1.size ≤ 1000000
  names : ∀ p ∈ H.entries, p.1.2.size ≤ 1000000
  kinds : ∀ k f, aget H.files k = some f → f.kind ≠ 3
  holds : ∀ own, ∀ x ∈ ns, ∀ n f, aget H.files n = some f → f.kind ≠ 2 → HoldsOk own n f x.2.2.2.2 w (hold f x)

theorem See_spec {s : Sl} {ns : List NodeC} {hold : FileV → NodeC → Bool} {K : Bool → World → Prop} (h : HState w F hb H T) (hn : NodesAt w s ns) (ho : SeeOk H w hold ns)
    (k : ∀ w', Eff No w w' → K (allowsV H hold ns) w') : may_History_Allows_13 (some ⟨hb, 0, none⟩) s w K := by
  obtain ⟨own, ownT, tb, XT, X, le, lf, lm, hH, _⟩ := h
  exact Allows_spec hH hn ⟨ho.len, ho.paths, ho.names, ho.kinds, ho.holds own⟩ k

end
end Go.Proofs.YtcpoglgnkedpaaaGreatDoor

/-
  tree: the sort of Nodes: few elements; how many there are.
-/
namespace Go.Proofs.YtcpoglgnkedpaaaGreatDoor
open Go Go.Vc Go.Proofs

section
variable {w : World} {s : Sl} {xs : List NodeC}

theorem nodes_one (c : NodeC) : (Carr.cells nLs c).all (·.oneCell') = true := rfl

/-- An element of a row of structs is written. -/
theorem NodesAt.set {i : Nat} {c : NodeC} {K : World → Prop} (h : NodesAt w s xs) (hi : i < xs.length) (k : ∀ w', NodesAt w' s (xs.set i c) → Eff (fun b => s.blk = some b) w w' → K w') : onSome s.a fun A => stN (A.add (i * 5)) (Carr.cells nLs c) w K := by
  have hl : s.len = xs.length := RowAt.lenN (ls := nLs) (by decide) h
  obtain ⟨h1, h2, h3⟩ := h
  rcases h3 with ⟨_, h4, _⟩ | ⟨g, o, cur, ha, hg, hcap, hget⟩
  · omega
  · rw [ha]
    refine onSome_some ?_
    rw [addr_add]
    have hc5 : (Carr.cells nLs c).length = 5 := Carr.cells_length nLs c
    have hfit : o + i * 5 + (Carr.cells nLs c).length ≤ cur.size := by rw [hc5]; omega
    refine stN_at hg hfit (nodes_one c) fun w' a' E' => ?_
    refine k w' ⟨?_, h2, .inr ⟨g, o, _, ha, a', by rw [over_size]; exact hcap, fun j hj => ?_⟩⟩ (E'.mono fun b _ e => by simp [Sl.blk, ha, e])
    · rw [flat_len (Carr.cells_length nLs)]
      simp [hl]
    · rw [over_get _ _ _ _ hfit, hc5]
      have hj' : j / 5 * 5 + j % 5 = j := by omega
      have hm : j % 5 < 5 := by omega
      have f1 := flat_get (f := Carr.cells nLs) (n := 5) (Carr.cells_length nLs) (xs.set i c) (j / 5) (j % 5) hm
      have f2 := flat_get (f := Carr.cells nLs) (n := 5) (Carr.cells_length nLs) xs (j / 5) (j % 5) hm
      rw [hj'] at f1 f2
      rw [f1]
      by_cases hij : j / 5 = i
      · rw [if_pos (by omega), hij, List.getElem?_set_self hi]
        simp only [Option.bind_some]
        congr 1
        omega
      · rw [if_neg (by omega), List.getElem?_set_ne (fun e => hij e.symm), ← f2]
        exact hget j hj

theorem Compare_spec {a b : ByteArray} {K : Int → World → Prop} (k : ∀ n, K n w) : strings_Compare_112 a b w K :=
  callP.of Tryz.func112 (by kernel_rfl) (by kernel_rfl) (Tryz.strings_Compare a b w) fun e w' he => ⟨_, he.1, by rw [he.2]; exact k _⟩

theorem callV_two {P : Program} {g : FuncId} {x y : Value} {ts : List Ty} {w : World} {K : Tup ts → World → Prop} (h : callP P g #[x, y] ts w K) : callV P (.func (.func g) #[] #[]) #[x, y] ts w K := by
  unfold callV
  simpa using h

theorem cmp_spec {a b : NodeC} {K : Int → World → Prop} (k : ∀ n w', Eff No w w' → K n w') : tree_Tree_Nodes_2_111 a b w K := by
  refine tree_Tree_Nodes_2_111_of _ _ w K ?_
  unfold F111
  refine newP_at fun b1 w2 e1 a1 E1 => ?_
  refine newP_at fun b3 w4 e3 a3 E3 => ?_
  refine ldP_at a.1 (E3.at0 a1) rfl ?_
  refine ldP_at b.1 a3 rfl ?_
  exact Compare_spec fun n => k n w4 (E1.trans E3)

theorem insertion_spec {K : Tup [] → World → Prop} (h : NodesAt w s xs) (hl : xs.length ≤ 1000) (k : ∀ xs' w', NodesAt w' s xs' → xs'.length = xs.length → Eff (fun b => s.blk = some b) w w' → K () w') :
    slices_insertionSortCmpFunc_188 s 0 (s.len : Int) (.func (.func 111) #[] #[]) w K := by
  refine slices_insertionSortCmpFunc_188_of _ _ _ _ w K ?_
  unfold F188
  have hlen : s.len = xs.length := RowAt.lenN (ls := nLs) (by decide) h
  refine loopP_count (fun n st w1 => ∃ i : Nat, st = (i : Int) ∧ 1 ≤ i ∧ n = xs.length + 1 - i ∧ Eff (fun b => s.blk = some b) w w1 ∧ ∃ ys, NodesAt w1 s ys ∧ ys.length = xs.length)
    ⟨_, 1, by rw [w64_id] <;> simp, by omega, rfl, Eff.refl _ _, xs, h, rfl⟩ ?_
  rintro n st w3 ⟨i, rfl, hi, rfl, E3, ys, hy, hyl⟩
  refine cnd_intro (fun hc => ?_) (fun hc => ?_)
  · have hc' : (i : Int) < (s.len : Int) := of_decide_eq_true hc
    refine loopP_count (fun n st w1 => ∃ j : Nat, st = (j : Int) ∧ j ≤ i ∧ n = j ∧ Eff (fun b => s.blk = some b) w w1 ∧ ∃ ys, NodesAt w1 s ys ∧ ys.length = xs.length) ⟨_, i, rfl, by omega, rfl, E3, ys, hy, hyl⟩ ?_
    rintro n st w6 ⟨j, rfl, hj, hnj, E6, zs, hz, hzl⟩
    have hzd : NodesAt w6.drew s zs := hz.kept0 (Eff.drew w6)
    refine ⟨fun b w9 => (b = true → 0 < j) ∧ Eff (fun b => s.blk = some b) w w9 ∧ NodesAt w9 s zs, ?_, ?_⟩
    · refine cnd_intro (fun hq => ?_) (fun hq => ?_)
      · have hq' : (j : Int) > 0 := of_decide_eq_true hq
        have hw : w64 ((j : Int) - 1) = ((j - 1 : Nat) : Int) := by rw [w64_id] <;> omega
        rw [hw]
        refine ⟨by omega, by omega, ?_⟩
        have g1 : zs[j]? = some zs[j] := by simp
        have g2 : zs[j - 1]? = some zs[j - 1] := by simp
        generalize zs[j] = c1 at g1
        generalize zs[j - 1] = c2 at g2
        refine ldA_row (ls := nLs) (by decide) hzd (by rw [Int.toNat_natCast]; exact g1) ?_
        refine ⟨by omega, by omega, ?_⟩
        refine ldA_row (ls := nLs) (by decide) hzd (by rw [Int.toNat_natCast]; exact g2) ?_
        refine callV_two ?_
        refine cmp_spec (a := c1) (b := c2) fun n w15 E15 => ?_
        exact ⟨fun _ => by omega, E6.thenDrew.thenNo E15, hzd.kept0 E15⟩
      · exact ⟨fun h => (by cases h), E6.thenDrew, hzd⟩
    · rintro b w9 ⟨hb, E9, h9⟩
      refine cnd_intro (fun hq => ?_) (fun hq => ?_)
      · have hj0 := hb hq
        have hw : w64 ((j : Int) - 1) = ((j - 1 : Nat) : Int) := by rw [w64_id] <;> omega
        rw [hw]
        have h9d : NodesAt w9.drew s zs := h9.kept0 (Eff.drew w9)
        have g1 : zs[j]? = some zs[j] := by simp
        have g2 : zs[j - 1]? = some zs[j - 1] := by simp
        generalize zs[j] = c1 at g1
        generalize zs[j - 1] = c2 at g2
        refine ⟨by omega, by omega, ?_⟩
        refine ldA_row (ls := nLs) (by decide) h9d (by rw [Int.toNat_natCast]; exact g2) ?_
        refine ⟨by omega, by omega, ?_⟩
        refine ldA_row (ls := nLs) (by decide) h9d (by rw [Int.toNat_natCast]; exact g1) ?_
        refine ⟨by omega, by omega, ?_⟩
        rw [Int.toNat_natCast, Int.toNat_natCast]
        refine NodesAt.set (c := c2) h9d (by omega) fun w21 h21 E21 => ?_
        refine ⟨by omega, by omega, ?_⟩
        refine NodesAt.set (c := c1) h21 (by simp; omega) fun w23 h23 E23 => ?_
        exact ⟨_, by omega, j - 1, rfl, by omega, rfl, (E9.thenDrew.trans E21).trans E23, _, h23, by simp [hzl]⟩
      · have hw : w64 ((i : Int) + 1) = ((i + 1 : Nat) : Int) := by rw [w64_id] <;> omega
        exact ⟨_, by omega, i + 1, hw, by omega, rfl, E9, zs, h9, hzl⟩
  · exact k ys w3 hy hyl E3

theorem SortFunc_spec {K : Tup [] → World → Prop} (h : NodesAt w s xs) (hl : xs.length ≤ 12) (k : ∀ xs' w', NodesAt w' s xs' → xs'.length = xs.length → Eff (fun b => s.blk = some b) w w' → K () w') : slices_SortFunc_110 s (.func (.func 111) #[] #[]) w K := by
  refine slices_SortFunc_110_of _ _ w K ?_
  unfold F110
  have hlen : s.len = xs.length := RowAt.lenN (ls := nLs) (by decide) h
  have hw : IntKind.wrap .u64 ((s.len : Int)) = (s.len : Int) := by
    simp [IntKind.wrap, IntKind.signed, IntKind.bits]
    omega
  rw [hw]
  refine callP.of Tryz.func162 (by kernel_rfl) (by kernel_rfl) (Tryz.bits_Len (s.len : Int) w (by omega) (by omega)) fun e w' he => ⟨_, he.1, ?_⟩
  rw [he.2]
  refine slices_pdqsortCmpFunc_161_of _ _ _ _ _ w _ ?_
  unfold F161
  refine loopP_count (fun _ st w1 => st.1 = (0 : Int) ∧ st.2.1 = (s.len : Int) ∧ w = w1) ⟨0, rfl, rfl, rfl⟩ ?_
  rintro n ⟨s0, s1, s2⟩ w3 ⟨h0, h1, rfl⟩
  have h0' : s0 = (0 : Int) := h0
  have h1' : s1 = (s.len : Int) := h1
  subst h0' h1'
  refine cnd_t ?_ ?_
  · show decide (w64 ((s.len : Int) - 0) ≤ 12) = true
    rw [w64_id (by omega) (by omega)]
    exact decide_eq_true (by omega)
  · exact insertion_spec h (by omega) k

end
end Go.Proofs.YtcpoglgnkedpaaaGreatDoor

/-
  tree: Nodes: how many there are.
-/
namespace Go.Proofs.YtcpoglgnkedpaaaGreatDoor
open Go Go.Vc Go.Proofs

/-- How many paths lead to a node and below it. -/
def cntN (N : List (Int × NodeV)) : Nat → Int → Nat
  | 0, _ => 0
  | f + 1, n => match aget N n with
    | none => 0
    | some x => 1 + x.names.foldr (fun q m => cntN N f q.2 + m) 0
/-- They end. -/
def okN (N : List (Int × NodeV)) : Nat → Int → Bool
  | 0, _ => false
  | f + 1, n => match aget N n with
    | none => false
    | some x => x.names.all fun q => okN N f q.2 && decide (q.1.size ≤ 1000)

theorem sum_perm {α : Type} {l l' : List α} (g : α → Nat) (h : l.Perm l') : l.foldr (fun q m => g q + m) 0 = l'.foldr (fun q m => g q + m) 0 :=
  h.foldr_eq' (fun x _ y _ z => by omega) 0

theorem sum_append {α : Type} (l l' : List α) (g : α → Nat) : (l ++ l').foldr (fun q m => g q + m) 0 = l.foldr (fun q m => g q + m) 0 + l'.foldr (fun q m => g q + m) 0 := by
  induction l with
  | nil => simp
  | cons x r ih => simp only [List.cons_append, List.foldr_cons, ih]; omega

theorem perm_rest {α : Type} : ∀ {l l' : List α}, l.Nodup → (∀ x ∈ l, x ∈ l') → ∃ r, l'.Perm (l ++ r)
  | [], l', _, _ => ⟨l', .refl _⟩
  | x :: t, l', hn, hs => by
    have hn' := List.nodup_cons.1 hn
    obtain ⟨a, b, rfl⟩ := List.append_of_mem (hs x (by simp))
    obtain ⟨r, hr⟩ := perm_rest (l := t) (l' := a ++ b) hn'.2 fun y hy => by
      have := hs y (by simp [hy])
      simp only [List.mem_append, List.mem_cons] at this ⊢
      rcases this with h | h | h
      · exact .inl h
      · subst h; exact absurd hy hn'.1
      · exact .inr h
    exact ⟨r, List.perm_middle.trans (hr.cons x)⟩

theorem sum_le {α : Type} {l l' : List α} (g : α → Nat) (hn : l.Nodup) (hs : ∀ x ∈ l, x ∈ l') : l.foldr (fun q m => g q + m) 0 ≤ l'.foldr (fun q m => g q + m) 0 := by
  obtain ⟨r, hr⟩ := perm_rest hn hs
  rw [sum_perm g hr, sum_append]
  omega

theorem slNodes : SlT Tryz.prog 45 30 5 64 where
  und := by kernel_rfl
  info := by
    obtain ⟨i, h1, h2, h3, h4⟩ := ti30_ok.info
    exact ⟨i, _, h1, h4, h2, h3, rfl⟩

theorem Or109_spec {w : World} {s : Sl} {a b : ByteArray} {K : ByteArray → World → Prop} (h : RowAt w 9 1 s ([a, b].map kStr)) (k : ∀ r, K r w) : cmp_Or_109 s w K := by
  refine cmp_Or_109_of _ w K ?_
  unfold F109
  have hlen : s.len = 2 := by simpa using h.len1
  refine loopP_count (fun n st w1 => w = w1 ∧ ((n = 2 ∧ st = (0 : Int)) ∨ (n = 1 ∧ st = (1 : Int)) ∨ (n = 0 ∧ st = (2 : Int)))) ⟨2, rfl, .inl ⟨rfl, rfl⟩⟩ ?_
  rintro n st w1 ⟨rfl, ⟨rfl, rfl⟩ | ⟨rfl, rfl⟩ | ⟨rfl, rfl⟩⟩
  · refine cnd_t (by rw [hlen]; rfl) ⟨by omega, by rw [hlen]; omega, ?_⟩
    refine ldP_row (l := .str) a h rfl ?_
    exact cnd_intro (fun _ => k _) (fun _ => ⟨1, by omega, rfl, .inr (.inl ⟨rfl, rfl⟩)⟩)
  · refine cnd_t (by rw [hlen]; rfl) ⟨by omega, by rw [hlen]; omega, ?_⟩
    refine ldP_row (l := .str) b h rfl ?_
    exact cnd_intro (fun _ => k _) (fun _ => ⟨0, by omega, rfl, .inr (.inr ⟨rfl, rfl⟩)⟩)
  · exact cnd_f (by rw [hlen]; rfl) (k _)

abbrev seeF (b1 b4 b6 : Nat) : Value := .func (.func 108) #[] #[.pointer (some ⟨b1, 0, none⟩), .pointer (some ⟨b4, 0, none⟩), .pointer (some ⟨b6, 0, none⟩)]

section
variable {own : Owner} {tb b1 b4 b6 : Nat} {X : TreeX} {T : TreeV}

theorem see_spec (h14 : b1 ≠ b4) (h64 : b6 ≠ b4) : ∀ (f : Nat) (n : Int) (p : ByteArray) (w : World) (s : Sl) (cs : List NodeC) (K : Tup [] → World → Prop), TreeAt w own tb X T → own b4 = none → okN T.nodes f n = true → p.size + 1001 * f ≤ 100000 → cs.length + cntN T.nodes f n ≤ 1000 →
    At w b1 (.cells #[.pointer (some ⟨tb, 0, none⟩)] 63 (0, 0)) → At w b6 (.cells #[seeF b1 b4 b6] 173 (0, 0)) → At w b4 (.cells #[s.v] 45 (0, 0)) → NodesAt w s cs → (∀ b, s.blk = some b → b ≠ b1 ∧ b ≠ b4 ∧ b ≠ b6 ∧ own b = none) →
    (∀ s' cs' w', Eff (fun b => b = b4 ∨ s.blk = some b) w w' → At w' b4 (.cells #[s'.v] 45 (0, 0)) → NodesAt w' s' cs' → cs'.length = cs.length + cntN T.nodes f n → (∀ b, s'.blk = some b → s.blk = some b ∨ w.heap.size ≤ b) → K () w') →
    tree_Tree_Nodes_1_108 n p (some ⟨b1, 0, none⟩) (some ⟨b4, 0, none⟩) (some ⟨b6, 0, none⟩) w K
  | 0, n, p, w, s, cs, K, _, _, hok, _, _, _, _, _, _, _, _ => by cases hok
  | f + 1, n, p, w, s, cs, K, hT, ho4, hok, hp, hcnt, a1, a6, a4, hs, hsb, k => by
    refine tree_Tree_Nodes_1_108_of _ _ _ _ _ w K ?_
    unfold F108
    refine onSome_some ?_
    refine ldP_at (some ⟨tb, 0, none⟩) a1 rfl ?_
    refine onSome_some ?_
    refine ldP_at (some X.mb) hT.top rfl ?_
    simp only [okN] at hok
    simp only [cntN] at hcnt k
    cases hx : aget T.nodes n with
    | none => rw [hx] at hok; cases hok
    | some x =>
      rw [hx] at hok hcnt k
      simp only at hok hcnt k
      obtain ⟨nb, ds, ws, m, l1, nA, l2⟩ := hT.look hx
      refine ⟨_, l1, ?_⟩
      have nAd : NodeAt w.drew own n nb ds ws m x := nA.kept (Eff.drew w) (fun _ _ => rfl) fun _ _ _ _ h => h
      refine onSome_some ?_
      refine ldP_at s a4.drew rfl ?_
      refine onSome_some ?_
      refine ldP_at x.kind nAd.cells rfl ?_
      refine onSome_some ?_
      refine ldP_at x.links nAd.cells rfl ?_
      refine onSome_some ?_
      refine ldP_at ds nAd.cells rfl ?_
      refine newP_at fun b14 w15 e14 a14 E14 => ?_
      have c15 := E14.at0 nAd.cells
      have d15 := E14.at0 a4.drew
      refine ⟨c15.cell.trans rfl, c15.cell.trans rfl, c15.cell.trans rfl, d15.cell.trans rfl, ?_⟩
      refine Or109_spec (a := p) (b := ⟨#[47]⟩) (RowAt.new a14 rfl) fun r16 => ?_
      refine ⟨c15.cell.trans rfl, c15.cell.trans rfl, c15.cell.trans rfl, d15.cell.trans rfl, ?_⟩
      refine Clone67_spec (nAd.row.kept0 E14) (fun u hu => by obtain ⟨y, _, rfl⟩ := List.mem_map.1 hu; rfl) (by simpa using nAd.dl.1) fun r18 w19 E18 q1 q2 => ?_
      have c19 := E18.at0 c15
      have d19 := E18.at0 d15
      refine ⟨c19.cell.trans rfl, c19.cell.trans rfl, d19.cell.trans rfl, ?_⟩
      refine newP_at fun b20 w21 e20 a20 E20 => ?_
      have d21 := E20.at0 d19
      refine ⟨d21.cell.trans rfl, ?_⟩
      have E021 : Eff No w w21 := (Eff.drew w).trans ((E14.trans E18).trans E20)
      have hcl : s.len = cs.length := RowAt.lenN (ls := nLs) (by decide) hs
      obtain ⟨s', w23, u1, u2, u3, u4, u5⟩ := append_row (ty := 45) slNodes (hs.kept0 E021) (x := ⟨some ⟨b20, 0, none⟩, 1, 1⟩) (news := Carr.cells nLs ((r16, n, x.kind, x.links, r18) : NodeC)) (RowAt.new a20 rfl)
        (fun u hu => List.all_eq_true.1 (nodes_one _) u hu) (by simp [hcl, maxLen]; omega) (by simp [hcl]; omega)
      refine ⟨s', w23, u1, ?_⟩
      have s21 := E021.size
      have s23 := u4.size
      have E023 : Eff (fun b => b = b4 ∨ s.blk = some b) w w23 := E021.up.comp u4 fun b _ e => .inr e
      have d23 := E023.at a4 |> fun g => u4.at d21 (fun e => (hsb _ e).2.1 rfl)
      refine onSome_some ?_
      refine stP_at (i := 0) d23 (by simp) rfl fun w24 a24 E24 => ?_
      have E024 : Eff (fun b => b = b4 ∨ s.blk = some b) w w24 := E023.comp E24 fun b _ e => .inl e
      have s24 := E24.size
      have hlb : ∀ b, s.blk = some b → b < w.heap.size := fun b hb => hs.lt hb
      have l4 := a4.lt
      have hsb' : ∀ b, s'.blk = some b → s.blk = some b ∨ w.heap.size ≤ b := fun b hb => by
        rcases u5 with u5 | u5
        · rw [u5] at hb; exact .inl hb
        · rw [u5] at hb; cases hb; exact .inr (by omega)
      have hs24 : NodesAt w24 s' (cs ++ [((r16, n, x.kind, x.links, r18) : NodeC)]) := by
        have : NodesAt w23 s' (cs ++ [((r16, n, x.kind, x.links, r18) : NodeC)]) := by
          show RowAt w23 30 5 s' _
          rw [List.flatMap_append, List.flatMap_singleton]
          exact u2
        refine RowAt.kept this E24 fun b hb e => ?_
        have e' : b = b4 := e
        rcases hsb' b hb with h | h
        · exact (hsb b h).2.1 e'
        · omega
      have hT24 : TreeAt w24 own tb X T := hT.kept E024 fun b t hb e => by
        rcases e with e | e
        · rw [e, ho4] at hb; cases hb
        · rw [(hsb b e).2.2.2] at hb; cases hb
      have hdis : ∀ b, (b = b1 ∨ b = b6) → ¬ (b = b4 ∨ s.blk = some b) := fun b hb e => by
        rcases e with e | e
        · rcases hb with hb | hb
          · exact h14 (hb.symm.trans e)
          · exact h64 (hb.symm.trans e)
        · rcases hb with hb | hb
          · exact (hsb b e).1 hb
          · exact (hsb b e).2.2.1 hb
      have a1' := E024.at a1 (hdis _ (.inl rfl))
      have a6' := E024.at a6 (hdis _ (.inr rfl))
      obtain ⟨nb2, ds2, ws2, m2, _, nA2, l22⟩ := hT24.look hx
      have enb : nb2 = nb := by rw [l2] at l22; cases l22; rfl
      subst enb
      have hmm : m2 = m := by
        have h1 := nA2.cells
        have h2 := E024.at nA.cells (fun e => by
          rcases e with e | e
          · have := nA.o; rw [e, ho4] at this; cases this
          · have := nA.o; rw [(hsb _ e).2.2.2] at this; cases this)
        have := h1.det h2
        simp at this
        exact this.2.2
      subst hmm
      refine onSome_some ?_
      refine ldP_at m2 nA2.cells rfl ?_
      have hall : ∀ q ∈ x.names, okN T.nodes f q.2 = true ∧ q.1.size ≤ 1000 := fun q hq => by
        have := List.all_eq_true.1 hok q hq
        simpa using this
      have l4' : b4 < w24.heap.size := a24.lt
      refine range_ro und66 keyS nA2.nm (fun ps _ w1 => Eff (fun b => b = b4 ∨ s.blk = some b) w w1 ∧ w24.heap.size ≤ w1.heap.size ∧ At w1 b1 (.cells #[.pointer (some ⟨tb, 0, none⟩)] 63 (0, 0)) ∧ At w1 b6 (.cells #[seeF b1 b4 b6] 173 (0, 0)) ∧ (ps.map (·.1)).Nodup ∧
          ∃ (s2 : Sl) (cs2 : List NodeC), At w1 b4 (.cells #[s2.v] 45 (0, 0)) ∧ NodesAt w1 s2 cs2 ∧ cs2.length = cs.length + 1 + ps.foldr (fun q m => cntN T.nodes f q.2 + m) 0 ∧ (∀ b, s2.blk = some b → (s.blk = some b ∨ w.heap.size ≤ b) ∧ b ≠ w24.heap.size))
        (fun w1 E => ⟨E024.thenNo E, E.size, E.at0 a1', E.at0 a6', .nil, s', _, E.at0 a24, hs24.kept0 E, by simp, fun b hb => ⟨hsb' b hb, by have := hs24.lt hb; omega⟩⟩) ?_ ?_ ?_
      · rintro ps _ w1 w1' ⟨E1, z1, y1, y6, nd, s2, cs2, g1, g2, g3, g4⟩ E'
        have hr : ∀ b, (b = b1 ∨ b = b6 ∨ b = b4) → ¬ b = w24.heap.size := fun b hb e => by
          have := a1'.lt
          have := a6'.lt
          rcases hb with hb | hb | hb <;> omega
        exact ⟨E1.fresh E' (by omega), Nat.le_trans z1 E'.size, E'.at y1 (hr _ (.inl rfl)), E'.at y6 (hr _ (.inr (.inl rfl))), nd, s2, cs2, E'.at g1 (hr _ (.inr (.inr rfl))), RowAt.kept g2 E' fun b hb => (g4 b hb).2, g3, g4⟩
      · rintro ps _ w1 ⟨E1, _, _, _, _, s2, cs2, g1, g2, g3, g4⟩ hpp
        refine k s2 cs2 w1 E1 g1 g2 ?_ fun b hb => (g4 b hb).1
        have hsp : ps.foldr (fun q m => cntN T.nodes f q.2 + m) 0 = x.names.foldr (fun q m => cntN T.nodes f q.2 + m) 0 := sum_perm (fun q : Str × Int => cntN T.nodes f q.2) hpp
        rw [g3, hsp]
        omega
      · rintro ps _ w1 ⟨nm, ch⟩ again ⟨E1, z1, y1, y6, nd, s2, cs2, g1, g2, g3, g4⟩ hq hnq hsub hlt hag
        obtain ⟨v1, v2⟩ := hall _ hq
        have v2' : nm.size ≤ 1000 := v2
        refine onSome_some ?_
        refine ldP_at (seeF b1 b4 b6) y6 rfl ?_
        have hps : (p ++ (⟨#[47]⟩ : ByteArray)).size = p.size + 1 := by rw [ByteArray.size_append]; rfl
        refine ⟨?_, ?_, ?_⟩
        · show ((p.size + 1 : Nat) : Int) ≤ 9223372036854775807
          omega
        · show (((p ++ (⟨#[47]⟩ : ByteArray)).size + nm.size : Nat) : Int) ≤ 9223372036854775807
          omega
        have hnd : ((nm, ch) :: ps).Nodup := nodup_of_keys (l := (nm, ch) :: ps) (List.nodup_cons.2 ⟨hnq, nd⟩)
        have hsum : cntN T.nodes f ch + ps.foldr (fun q m => cntN T.nodes f q.2 + m) 0 ≤ x.names.foldr (fun q m => cntN T.nodes f q.2 + m) 0 := sum_le (fun q : Str × Int => cntN T.nodes f q.2) hnd (l' := x.names) fun y hy => by
          rcases List.mem_cons.1 hy with rfl | hy
          · exact hq
          · exact hsub y hy
        have hT1 : TreeAt w1 own tb X T := hT.kept E1 fun b t hb e => by
          rcases e with e | e
          · rw [e, ho4] at hb; cases hb
          · rw [(hsb b e).2.2.2] at hb; cases hb
        have hnew : ∀ b, w.heap.size ≤ b → own b = none := fun b hb => by
          cases hh : own b with
          | none => rfl
          | some t => have := hT.lt b t hh; omega
        have hcall : callP Tryz.prog 108 (#[] ++ #[(.int .i64 ch), (.string ((p ++ (⟨#[47]⟩ : ByteArray)) ++ nm))] ++ #[.pointer (some ⟨b1, 0, none⟩), .pointer (some ⟨b4, 0, none⟩), .pointer (some ⟨b6, 0, none⟩)]) [] w1 (fun _ w40 => again () w40) := by
          have l1' := a1.lt
          have l6' := a6.lt
          have := see_spec h14 h64 f ch ((p ++ (⟨#[47]⟩ : ByteArray)) ++ nm) w1 s2 cs2 (fun _ w40 => again () w40) hT1 ho4 v1 (by rw [ByteArray.size_append, hps]; omega) (by omega) y1 y6 g1 g2
            (fun b hb => by
              rcases (g4 b hb).1 with h | h
              · exact hsb b h
              · exact ⟨by omega, by omega, by omega, hnew b h⟩) fun s3 cs3 w40 E40 x1 x2 x3 x4 => ?_
          · exact this
          · have hrn : ¬ (w24.heap.size = b4 ∨ s2.blk = some w24.heap.size) := fun e => by
              rcases e with e | e
              · omega
              · exact (g4 _ e).2 rfl
            have hSd : ∀ b, (b = b1 ∨ b = b6) → ¬ (b = b4 ∨ s2.blk = some b) := fun b hb e => by
              rcases e with e | e
              · rcases hb with hb | hb
                · exact h14 (hb.symm.trans e)
                · exact h64 (hb.symm.trans e)
              · rcases (g4 b e).1 with h | h
                · rcases hb with hb | hb
                  · exact (hsb b h).1 hb
                  · exact (hsb b h).2.2.1 hb
                · rcases hb with hb | hb <;> omega
            refine hag (fun b => b = b4 ∨ s2.blk = some b) () w40 E40 hrn (fun b hb e => ?_) ⟨E1.comp E40 fun b hb e => ?_, Nat.le_trans z1 E40.size, E40.at y1 (hSd _ (.inl rfl)), E40.at y6 (hSd _ (.inr rfl)), List.nodup_cons.2 ⟨hnq, nd⟩, s3, cs3, x1, x2, ?_, fun b hb => ?_⟩
            · have ob := nA2.nmO b hb
              rcases e with e | e
              · rw [e, ho4] at ob; cases ob
              · rcases (g4 b e).1 with h | h
                · rw [(hsb b h).2.2.2] at ob; cases ob
                · rw [hnew b h] at ob; cases ob
            · rcases e with e | e
              · exact .inl e
              · rcases (g4 b e).1 with h | h
                · exact .inr h
                · omega
            · rw [x3, g3]
              simp only [List.foldr_cons]
              omega
            · rcases x4 b hb with h | h
              · exact g4 b h
              · exact ⟨.inr (by have := E1.size; omega), by omega⟩
        exact hcall

end
end Go.Proofs.YtcpoglgnkedpaaaGreatDoor

/-
  tree: Nodes; may: Nodes: how many there are.
-/
namespace Go.Proofs.YtcpoglgnkedpaaaGreatDoor
open Go Go.Vc Go.Proofs

section
variable {w : World} {own : Owner} {tb : Nat} {X : TreeX} {T : TreeV}

theorem tNodes_spec {f : Nat} {K : Sl → World → Prop} (hT : TreeAt w own tb X T) (hok : okN T.nodes f 1 = true) (hf : f ≤ 90) (hc : cntN T.nodes f 1 ≤ 12)
    (k : ∀ s cs w', Eff No w w' → NodesAt w' s cs → cs.length = cntN T.nodes f 1 → (∀ b, s.blk = some b → w.heap.size ≤ b) → K s w') : tree_Tree_Nodes_49 (some ⟨tb, 0, none⟩) w K := by
  refine tree_Tree_Nodes_49_of _ w K ?_
  unfold F49
  refine newP_at fun b1 w2 e1 a1 E1 => ?_
  refine ldP_at (some ⟨tb, 0, none⟩) a1 rfl ?_
  refine cnd_f rfl ?_
  refine newP_at fun b4 w5 e4 a4 E4 => ?_
  refine newP_at fun b6 w7 e6 a6 E6 => ?_
  refine stP_at (i := 0) a6 (by simp) rfl fun w8 a8 E8 => ?_
  have s1 := E1.size
  have s4 := E4.size
  have s6 := E6.size
  have s8 := E8.size
  have l1 := a1.lt
  have l4 := a4.lt
  have l6 := a6.lt
  have E08 : Eff No w w8 := ((E1.trans E4).trans E6).fresh E8 (by omega)
  have c1 := E8.at ((E4.trans E6).at0 a1) (show ¬ b1 = b6 by omega)
  have c4 := E8.at (E6.at0 a4) (show ¬ b4 = b6 by omega)
  refine ldP_at (seeF b1 b4 b6) a8 rfl ?_
  have hnew : ∀ b, w.heap.size ≤ b → own b = none := fun b hb => by
    cases hh : own b with
    | none => rfl
    | some t => have := hT.lt b t hh; omega
  have hcall : callP Tryz.prog 108 (#[] ++ #[(.int .i64 1), (.string (⟨#[]⟩ : ByteArray))] ++ #[.pointer (some ⟨b1, 0, none⟩), .pointer (some ⟨b4, 0, none⟩), .pointer (some ⟨b6, 0, none⟩)]) [] w8 (fun _ w11 =>
      ldP (.slice) ⟨b4, 0, none⟩ w11 fun x12 => slices_SortFunc_110 x12 (.func (.func 111) #[] #[]) w11 fun r13 w14 => ldP (.slice) ⟨b4, 0, none⟩ w14 fun x15 => K x15 w14) := by
    have := see_spec (own := own) (tb := tb) (b1 := b1) (b4 := b4) (b6 := b6) (X := X) (T := T) (by omega) (by omega) f 1 ⟨#[]⟩ w8 ⟨none, 0, 0⟩ [] (fun _ w11 =>
      ldP (.slice) ⟨b4, 0, none⟩ w11 fun x12 => slices_SortFunc_110 x12 (.func (.func 111) #[] #[]) w11 fun r13 w14 => ldP (.slice) ⟨b4, 0, none⟩ w14 fun x15 => K x15 w14)
      (hT.kept0 E08) (hnew b4 (by omega)) hok (by show 0 + 1001 * f ≤ 100000; omega) (by simp; omega) c1 a8 c4 RowAt.nil (fun b hb => by cases hb) fun s cs w11 E11 x1 x2 x3 x4 => ?_
    · exact this
    · refine ldP_at s x1 rfl ?_
      have x4' : ∀ b, s.blk = some b → w8.heap.size ≤ b := fun b hb => by
        rcases x4 b hb with h | h
        · cases h
        · exact h
      have hcl : cs.length = cntN T.nodes f 1 := by simpa using x3
      refine SortFunc_spec x2 (by omega) fun cs' w14 y1 y2 E14 => ?_
      refine ldP_at s (E14.at x1 fun e => by have := x4' _ e; omega) rfl ?_
      refine k s cs' w14 ((E08.comp E11 fun b hb e => ?_).comp E14 fun b hb e => by have := x4' _ e; omega) y1 (by omega) fun b hb => by have := x4' b hb; omega
      rcases e with e | e
      · omega
      · cases e
  exact hcall

/-- The number of an element is written. -/
theorem NodesAt.setNum {s : Sl} {xs : List NodeC} {i : Nat} {c : NodeC} {v : Int} {K : World → Prop} (h : NodesAt w s xs) (hi : xs[i]? = some c) (k : ∀ w', NodesAt w' s (xs.set i (c.1, v, c.2.2)) → Eff (fun b => s.blk = some b) w w' → K w') : onSome s.a fun A => stP ((A.add (i * 5)).add 1) (.int .i64 v) w K := by
  have hlt : i < xs.length := (List.getElem?_eq_some_iff.1 hi).1
  have hl : s.len = xs.length := RowAt.lenN (ls := nLs) (by decide) h
  obtain ⟨h1, h2, h3⟩ := h
  rcases h3 with ⟨_, h4, _⟩ | ⟨g, o, cur, ha, hg, hcap, hget⟩
  · omega
  · rw [ha]
    refine onSome_some ?_
    rw [addr_add, addr_add]
    have hfit : o + i * 5 + 1 < cur.size := by omega
    refine stP_at hg hfit rfl fun w' a' E' => ?_
    refine k w' ⟨?_, h2, .inr ⟨g, o, _, ha, a', by simpa using hcap, fun j hj => ?_⟩⟩ (E'.mono fun b _ e => by simp [Sl.blk, ha, e])
    · rw [flat_len (Carr.cells_length nLs)]
      simp [hl]
    · have hj' : j / 5 * 5 + j % 5 = j := by omega
      have hm : j % 5 < 5 := by omega
      have f1 := flat_get (f := Carr.cells nLs) (n := 5) (Carr.cells_length nLs) (xs.set i (c.1, v, c.2.2)) (j / 5) (j % 5) hm
      have f2 := flat_get (f := Carr.cells nLs) (n := 5) (Carr.cells_length nLs) xs (j / 5) (j % 5) hm
      rw [hj'] at f1 f2
      rw [f1, Array.getElem?_setIfInBounds]
      by_cases hij : j / 5 = i
      · rw [hij, List.getElem?_set_self hlt]
        rw [hij, hi] at f2
        simp only [Option.bind_some] at f2 ⊢
        by_cases hj1 : j % 5 = 1
        · rw [if_pos (by omega), if_pos hfit, hj1]
          rfl
        · rw [if_neg (by omega), hget j hj, f2]
          match hm' : j % 5, hm, hj1 with
          | 0, _, _ => rfl
          | 2, _, _ => rfl
          | 3, _, _ => rfl
          | 4, _, _ => rfl
      · rw [if_neg (by omega), List.getElem?_set_ne (fun e => hij e.symm), ← f2]
        exact hget j hj

theorem ldNum {s : Sl} {xs : List NodeC} {i : Nat} {c : NodeC} {K : Int → Prop} (h : NodesAt w s xs) (hi : xs[i]? = some c) (k : K c.2.1) : onSome s.a fun A => ldP (.int .i64) ((A.add (i * 5)).add 1) w K := by
  have hlt : i < xs.length := (List.getElem?_eq_some_iff.1 hi).1
  have hl : s.len = xs.length := RowAt.lenN (ls := nLs) (by decide) h
  obtain ⟨h1, h2, h3⟩ := h
  rcases h3 with ⟨_, h4, _⟩ | ⟨g, o, cur, ha, hg, hcap, hget⟩
  · omega
  · rw [ha]
    refine onSome_some ?_
    rw [addr_add, addr_add]
    refine ldP_at c.2.1 hg ?_ k
    have := hget (i * 5 + 1) (by omega)
    rw [Nat.add_assoc, this, flat_get (f := Carr.cells nLs) (n := 5) (Carr.cells_length nLs) xs i 1 (by omega), hi]
    rfl

theorem hNodes_spec {F : Nat → Prop} {hb : Nat} {H : HistV} {f : Nat} {K : Sl → World → Prop} (h : HState w F hb H T) (hok : okN T.nodes f 1 = true) (hf : f ≤ 90) (hc : cntN T.nodes f 1 ≤ 12)
    (k : ∀ s w', Eff No w w' → s.len = cntN T.nodes f 1 → K s w') : may_History_Nodes_18 (some ⟨hb, 0, none⟩) w K := by
  obtain ⟨ownH, ownT, tb, XT, X, le, lf, lm, hH, hT, _⟩ := h
  refine may_History_Nodes_18_of _ w K ?_
  unfold F18
  refine cnd_f rfl ?_
  refine onSome_some ?_
  refine ldP_at (some ⟨tb, 0, none⟩) hH.top rfl ?_
  refine tNodes_spec hT hok hf hc fun s cs w4 E4 hs hcl hsb => ?_
  have hlen : s.len = cs.length := RowAt.lenN (ls := nLs) (by decide) hs
  refine loopP_count (fun n st w1 => ∃ i : Nat, st = (i : Int) ∧ i ≤ cs.length ∧ n = cs.length - i ∧ Eff No w w1 ∧ ∃ ds, NodesAt w1 s ds ∧ ds.length = cs.length) ⟨_, 0, rfl, by omega, rfl, E4, cs, hs, rfl⟩ ?_
  rintro n st w7 ⟨i, rfl, hi, rfl, E7, ds, hds, hdl⟩
  refine cnd_intro (fun hq => ?_) (fun hq => ?_)
  · have hq' : (i : Int) < (s.len : Int) := of_decide_eq_true hq
    have E7d := E7.thenDrew
    have hH7 := hH.kept0 E7d
    have hd7 : NodesAt w7.drew s ds := hds.kept0 (Eff.drew w7)
    have g : ds[i]? = some ds[i] := by simp
    generalize ds[i] = c at g
    refine onSome_some ?_
    refine ldP_at (some X.nb) hH7.top rfl ?_
    refine ⟨by omega, hq', ?_⟩
    rw [Int.toNat_natCast]
    refine ldNum hd7 g ?_
    refine ⟨_, MapO.int1 keyI und65 hH7.num.o c.2.1, ?_⟩
    refine ⟨by omega, hq', ?_⟩
    refine NodesAt.setNum hd7 g fun w14 h14 E14 => ?_
    have hw : w64 ((i : Int) + 1) = ((i + 1 : Nat) : Int) := by rw [w64_id] <;> omega
    exact ⟨_, by omega, i + 1, hw, by omega, rfl, E7d.comp E14 fun b hb' e => by have := hsb b e; omega, _, h14, by simpa using hdl⟩
  · exact k s w7 E7 (by omega)

end
end Go.Proofs.YtcpoglgnkedpaaaGreatDoor

/-
  awake.
-/
namespace Go.Proofs.YtcpoglgnkedpaaaGreatDoor
open Go Go.Vc Go.Proofs

section
variable {w : World}

/-- A file may hold nothing if it was empty. -/
theorem holds_empty {own : HOwner} {n : Int} {f : FileV} {d : Sl} (hd : d.len = 0) : HoldsOk own n f d w (decide ((0 : Int) ∈ f.sizes)) := by
  intro w1 fb ss bb lb K E1 fA k
  refine may_file_holds_64_of _ _ w1 K ?_
  unfold F64
  refine onSome_some ?_
  refine ldP_at ss fA.cells rfl ?_
  refine Contains29_spec fA.row fA.ne.2 ?_
  rw [hd]
  refine cnd_intro (fun q => ?_) (fun q => ?_)
  · have : decide ((0 : Int) ∈ f.sizes) = false := by simpa using q
    rw [this] at k
    exact k w1 (Eff.refl _ _)
  · have : decide ((0 : Int) ∈ f.sizes) = true := by simpa using q
    rw [this] at k
    refine inode_Need_50_of _ w1 _ ?_
    unfold F50
    refine cnd_t (by decide) ?_
    refine loopP_count (fun _ st w2 => st = (0 : Int) ∧ w1 = w2) ⟨0, rfl, rfl⟩ ?_
    rintro m st w2 ⟨rfl, rfl⟩
    exact cnd_f (by decide) (k w1 (Eff.refl _ _))

end

def hold0 (f : FileV) (_ : NodeC) : Bool := decide ((0 : Int) ∈ f.sizes)

def noteB (H : HistV) (T : TreeV) : Bool := T.nodes.all (fun p => (p.2.kind == 1 || p.2.kind == 2) && (!(p.2.kind == 1) || p.2.data.isEmpty)) && H.files.all (fun p => lastI p.2.sizes == 0) && H.entries.all (fun p => decide (p.2.length ≤ 999990))
def smallB (T : TreeV) : Bool := decide (T.nodes.length ≤ 1000000) && T.nodes.all fun p => decide (0 ≤ p.1) && decide (p.1 ≤ 1000000000)
def seeB (H : HistV) (ns : List NodeC) : Bool := decide (ns.length ≤ 1000000) && ns.all (fun x => decide (x.1.size ≤ 1000000) && decide (x.2.2.2.2.len = 0)) && H.entries.all (fun p => decide (p.1.2.size ≤ 1000000)) && H.files.all (fun p => !(p.2.kind == 3))

theorem all_get {α β : Type} [DecidableEq α] {l : List (α × β)} {g : α × β → Bool} (h : l.all g = true) {k : α} {v : β} (hv : aget l k = some v) : g (k, v) = true := List.all_eq_true.1 h _ (aget_mem hv)

theorem noteB_ok {H : HistV} {T : TreeV} (h : noteB H T = true) : NoteOk H T := by
  simp only [noteB, Bool.and_eq_true] at h
  obtain ⟨⟨h1, h2⟩, h3⟩ := h
  refine ⟨fun n v hv => ?_, fun n v hv hk => ?_, fun n f hf => ?_, fun e xs he => ?_⟩
  · have := all_get h1 hv
    simp at this
    exact this.1
  · have := all_get h1 hv
    simp [hk] at this
    exact this
  · have := all_get h2 hf
    simpa using this
  · have := all_get h3 he
    simpa using this

theorem smallB_ok {T : TreeV} (h : smallB T = true) : Small T := by
  simp only [smallB, Bool.and_eq_true, decide_eq_true_eq] at h
  refine ⟨h.1, fun p hp => ?_⟩
  have := List.all_eq_true.1 h.2 p hp
  simpa using this

theorem seeB_ok {H : HistV} {ns : List NodeC} {w : World} (h : seeB H ns = true) : SeeOk H w hold0 ns := by
  simp only [seeB, Bool.and_eq_true, decide_eq_true_eq] at h
  obtain ⟨⟨⟨h1, h2⟩, h3⟩, h4⟩ := h
  refine ⟨h1, fun x hx => ?_, fun p hp => ?_, fun n f hf => ?_, fun own x hx n f _ _ => holds_empty ?_⟩
  · have := List.all_eq_true.1 h2 x hx
    simp at this
    exact this.1
  · have := List.all_eq_true.1 h3 p hp
    simpa using this
  · have := all_get h4 hf
    simpa using this
  · have := List.all_eq_true.1 h2 x hx
    simp at this
    exact this.2

section
variable {w : World}

theorem nodes1 {b : Nat} {x : NodeC} (h : At w b (.cells (Carr.cells nLs x).toArray 30 (0, 0))) : NodesAt w ⟨some ⟨b, 0, none⟩, 1, 1⟩ [x] := by
  show RowAt w 30 5 _ (Carr.cells nLs x ++ [])
  rw [List.append_nil]
  exact RowAt.new h (Carr.cells_length nLs x)

theorem nodes2 {b : Nat} {x y : NodeC} (h : At w b (.cells (Carr.cells nLs x ++ Carr.cells nLs y).toArray 30 (0, 0))) : NodesAt w ⟨some ⟨b, 0, none⟩, 2, 2⟩ [x, y] := by
  show RowAt w 30 5 _ (Carr.cells nLs x ++ (Carr.cells nLs y ++ []))
  rw [List.append_nil]
  refine RowAt.new h ?_
  rw [List.length_append, Carr.cells_length, Carr.cells_length]
  rfl

/-- The node that is there now: the numbers lie in their order. -/
def freshK (T T0 : TreeV) : Int := ((T.nodes.map (·.1)).find? fun n => !((T0.nodes.map (·.1)).any fun m => m == n)).getD 0
def risingB : List Int → Bool
  | a :: b :: r => decide (a ≤ b) && risingB (b :: r)
  | _ => true
def didK (H : HistV) (T T' : TreeV) (number : Int) : HistV :=
  if freshK T' T = 0 then noteV H T' else { noteV H T' with numbers := aset (noteV H T').numbers (freshK T' T) number }

theorem rising_ok : ∀ {l : List Int}, risingB l = true → l.Pairwise fun x y => decide (x ≤ y) = true
  | [], _ => .nil
  | [a], _ => List.pairwise_singleton _ _
  | a :: b :: r, h => by
    simp only [risingB, Bool.and_eq_true, decide_eq_true_eq] at h
    have ih := rising_ok h.2
    refine List.pairwise_cons.2 ⟨fun x hx => ?_, ih⟩
    rcases List.mem_cons.1 hx with rfl | hx
    · exact decide_eq_true h.1
    · have := (List.pairwise_cons.1 ih).1 x hx
      exact decide_eq_true (Int.le_trans h.1 (of_decide_eq_true this))

theorem nums_rising {T : TreeV} (h : risingB (T.nodes.map (·.1)) = true) : numsV T = T.nodes.map (·.1) := List.mergeSort_of_pairwise (rising_ok h)

theorem freshV_eq {T T0 : TreeV} (h : risingB (T.nodes.map (·.1)) = true) : freshV T T0 = freshK T T0 := by
  unfold freshV freshK
  rw [nums_rising h]
  congr 2
  funext n
  congr 1
  rw [Bool.eq_iff_iff, decide_eq_true_eq, List.any_eq_true]
  refine ⟨fun hn => ⟨n, (List.mergeSort_perm _ _).mem_iff.1 hn, by simp⟩, fun ⟨m, hm, e⟩ => ?_⟩
  have : m = n := by simpa using e
  subst this
  exact (List.mergeSort_perm _ _).mem_iff.2 hm

theorem didV_eq {H : HistV} {T T' : TreeV} {number : Int} (h : risingB (T'.nodes.map (·.1)) = true) : didV H T T' number = didK H T T' number := by
  unfold didV didK
  rw [freshV_eq h]

def mkNode (p : Str) (n kind links : Int) : NodeC := (p, n, kind, links, ⟨none, 0, 0⟩)
def pRoot : Str := ⟨#[47]⟩
def pA : Str := ⟨#[47, 97]⟩
def nRoot : NodeC := mkNode pRoot 1 2 1
def nA : NodeC := mkNode pA 2 2 1

def aH0 : HistV := beginV [(1, 1)] tree0
def aT1 : TreeV := makeV tree0 1 ⟨#[97]⟩ 2 root0V
def aH1 : HistV := didK aH0 tree0 aT1 2
def aH2 : HistV := syncH (didK aH1 aT1 aT1 0)

theorem place_a : PlaceOk tree0 pA [] ⟨#[97]⟩ root0 root0V [] where
  ok := by kernel_rfl
  parts := by kernel_rfl
  dots := by decide
  size1 := by decide
  ok2 := by kernel_rfl
  walk := by kernel_rfl
  node := by kernel_rfl
  dir := rfl
  way := by kernel_rfl
  size2 := by decide
  len := by decide
  long := by kernel_rfl

theorem aw1 : allowsV aH0 hold0 [nRoot] = true := by kernel_rfl
theorem aw2 : allowsV aH0 hold0 [nRoot, nA] = false := by kernel_rfl
theorem aw3 : allowsV aH1 hold0 [nRoot] = true := by kernel_rfl
theorem aw4 : allowsV aH1 hold0 [nRoot, nA] = true := by kernel_rfl
theorem aw5 : allowsV aH2 hold0 [nRoot] = false := by kernel_rfl
theorem aw6 : allowsV aH2 hold0 [nRoot, nA] = true := by kernel_rfl

end
end Go.Proofs.YtcpoglgnkedpaaaGreatDoor

/-
  awake; MayNone.
-/
namespace Go.Proofs.YtcpoglgnkedpaaaGreatDoor
open Go Go.Vc Go.Proofs

section
variable {w : World}

theorem awake_spec {K : Bool → World → Prop} (k : ∀ w', Eff No w w' → K true w') : purlinlaw24_awake_10 w K := by
  refine purlinlaw24_awake_10_of w K ?_
  unfold F10
  refine New_spec fun F hb w2 E2 hS hF => ?_
  have s2 := E2.size
  have hFlt : ∀ b, F b → b < w2.heap.size := fun b hb' => hS.lt hb'
  refine newP_at fun b3 w4 e3 a3 E3 => ?_
  refine stN_all a3 rfl rfl fun w5 a5 E5 => ?_
  refine newP_at fun b6 w7 e6 a6 E6 => ?_
  refine stN_all a6 rfl rfl fun w8 a8 E8 => ?_
  have s3 := E3.size
  have s5 := E5.size
  have s6 := E6.size
  have s8 := E8.size
  have l3 := a3.lt
  have l6 := a6.lt
  have E25 : Eff No w2 w5 := E3.fresh E5 (by omega)
  have E58 : Eff No w5 w8 := E6.fresh E8 (by omega)
  have E28 := E25.trans E58
  have r3 : At w8 b3 (.cells (Carr.cells nLs nRoot).toArray 30 (0, 0)) := E58.at0 a5
  have r6 : At w8 b6 (.cells (Carr.cells nLs nA).toArray 30 (0, 0)) := a8
  have hS8 : HState w8 F hb aH0 tree0 := hS.kept0 E28
  -- looks at it
  have look1 : ∀ {wx : World} {Fx : Nat → Prop} {H : HistV} {T : TreeV} {v : Bool} {K' : Bool → World → Prop}, HState wx Fx hb H T → At wx b3 (.cells (Carr.cells nLs nRoot).toArray 30 (0, 0)) → seeB H [nRoot] = true → allowsV H hold0 [nRoot] = v → (∀ w', Eff No wx w' → K' v w') →
      ldA [.str, .int .i64, .int .i64, .int .i64, .slice] ⟨b3, 0, none⟩ wx fun c12 =>
      newP (.cells #[(.string c12.1), (.int .i64 c12.2.1), (.int .i64 c12.2.2.1), (.int .i64 c12.2.2.2.1), (.slice c12.2.2.2.2.a c12.2.2.2.2.len c12.2.2.2.2.cap)] 30) wx fun b13 w14 =>
      may_History_Allows_13 (some ⟨hb, 0, none⟩) ⟨(some ⟨b13, 0, none⟩), 1, 1⟩ w14 fun r15 w16 => K' r15 w16 := by
    intro wx Fx H T v K' h1 h2 h3 h4 h5
    refine ldA_all nRoot h2 ?_
    refine newP_at fun b13 w14 e13 a13 E13 => ?_
    refine See_spec (h1.kept0 E13) (nodes1 (x := nRoot) a13) (seeB_ok h3) fun w16 E16 => ?_
    rw [h4]
    exact h5 w16 (E13.trans E16)
  have look2 : ∀ {wx : World} {Fx : Nat → Prop} {H : HistV} {T : TreeV} {v : Bool} {K' : Bool → World → Prop}, HState wx Fx hb H T → At wx b3 (.cells (Carr.cells nLs nRoot).toArray 30 (0, 0)) → At wx b6 (.cells (Carr.cells nLs nA).toArray 30 (0, 0)) → seeB H [nRoot, nA] = true → allowsV H hold0 [nRoot, nA] = v → (∀ w', Eff No wx w' → K' v w') →
      ldA [.str, .int .i64, .int .i64, .int .i64, .slice] ⟨b3, 0, none⟩ wx fun c17 =>
      ldA [.str, .int .i64, .int .i64, .int .i64, .slice] ⟨b6, 0, none⟩ wx fun c18 =>
      newP (.cells #[(.string c17.1), (.int .i64 c17.2.1), (.int .i64 c17.2.2.1), (.int .i64 c17.2.2.2.1), (.slice c17.2.2.2.2.a c17.2.2.2.2.len c17.2.2.2.2.cap), (.string c18.1), (.int .i64 c18.2.1), (.int .i64 c18.2.2.1), (.int .i64 c18.2.2.2.1), (.slice c18.2.2.2.2.a c18.2.2.2.2.len c18.2.2.2.2.cap)] 30) wx fun b19 w20 =>
      may_History_Allows_13 (some ⟨hb, 0, none⟩) ⟨(some ⟨b19, 0, none⟩), 2, 2⟩ w20 fun r21 w22 => K' r21 w22 := by
    intro wx Fx H T v K' h1 h2 h2' h3 h4 h5
    refine ldA_all nRoot h2 ?_
    refine ldA_all nA h2' ?_
    refine newP_at fun b13 w14 e13 a13 E13 => ?_
    refine See_spec (h1.kept0 E13) (nodes2 (x := nRoot) (y := nA) a13) (seeB_ok h3) fun w16 E16 => ?_
    rw [h4]
    exact h5 w16 (E13.trans E16)
  refine ⟨fun b w11 => b = false ∧ Eff No w8 w11, ?_, ?_⟩
  · refine cnd_f rfl ?_
    refine look1 hS8 r3 (by kernel_rfl) aw1 fun w16 E16 => ?_
    refine cnd_f rfl ?_
    refine look2 (hS8.kept0 E16) (E16.at0 r3) (E16.at0 r6) (by kernel_rfl) aw2 fun w22 E22 => ?_
    exact ⟨rfl, E16.trans E22⟩
  rintro b w11 ⟨rfl, E11⟩
  refine cnd_f rfl ?_
  have hS11 := hS8.kept0 E11
  refine Did_spec (T' := aT1) (n := 0) (H3 := aH1) hS11 (smallB_ok (by kernel_rfl)) (smallB_ok (by kernel_rfl)) (noteB_ok (by kernel_rfl))
    (doOk_mkdir (T := tree0) (sp := root0) (x := root0V) (l := ⟨#[97]⟩) (ini := []) (ws := []) rfl place_a rfl (by decide) (by decide) rfl) (by decide) ?_ fun F2 w24 E24 hF2 hS24 => ?_
  · rw [didV_eq (by kernel_rfl)]
    exact lastOk_none (by decide) (by decide) (by decide) (by decide) (by decide)
  have s11 := E11.size
  have s24 := E24.size
  have hnF : ∀ b, w2.heap.size ≤ b → ¬ F b := fun b hb' hFb => by have := hFlt b hFb; omega
  have r3' := E24.at (E11.at0 r3) (hnF b3 (by omega))
  have r6' := E24.at (E11.at0 r6) (hnF b6 (by omega))
  have E224 : Eff F w2 w24 := (E28.trans E11).up.trans E24
  refine ⟨fun b w27 => b = true ∧ Eff No w24 w27, ?_, ?_⟩
  · refine look1 hS24 r3' (by kernel_rfl) aw3 fun w32 E32 => ?_
    refine cnd_t rfl ?_
    refine look2 (hS24.kept0 E32) (E32.at0 r3') (E32.at0 r6') (by kernel_rfl) aw4 fun w38 E38 => ?_
    exact ⟨rfl, E32.trans E38⟩
  rintro b w27 ⟨rfl, E27⟩
  have hS27 := hS24.kept0 E27
  refine Did_spec (T' := aT1) (n := 0) (H3 := aH2) hS27 (smallB_ok (by kernel_rfl)) (smallB_ok (by kernel_rfl)) (noteB_ok (by kernel_rfl)) (doOk_sync rfl) (by decide) ?_ fun F3 w40 E40 hF3 hS40 => ?_
  · rw [didV_eq (by kernel_rfl)]
    exact lastOk_sync rfl
  have s27 := E27.size
  have hnF2 : ∀ b, w2.heap.size ≤ b → b < w8.heap.size → ¬ F2 b := fun b hb' hb2 hFb => hnF b hb' (hF2 b (by omega) hFb)
  have r3'' := E40.at (E27.at0 r3') (hnF2 b3 (by omega) (by omega))
  have r6'' := E40.at (E27.at0 r6') (hnF2 b6 (by omega) (by omega))
  refine cnd_t rfl ?_
  refine cnd_t rfl ?_
  refine cnd_t rfl ?_
  refine look1 hS40 r3'' (by kernel_rfl) aw5 fun w45 E45 => ?_
  refine cnd_t rfl ?_
  refine look2 (hS40.kept0 E45) (E45.at0 r3'') (E45.at0 r6'') (by kernel_rfl) aw6 fun w51 E51 => ?_
  refine cnd_t rfl ?_
  refine hNodes_spec (f := 4) ((hS40.kept0 E45).kept0 E51) (by kernel_rfl) (by omega) (by decide) fun s w53 E53 hs => ?_
  have hlen : ((s.len : Int) == 2) = true := by
    rw [hs]
    have : cntN aT1.nodes 4 1 = 2 := by kernel_rfl
    rw [this]; rfl
  show K ((s.len : Int) == 2) w53
  rw [hlen]
  have E240 : Eff F w2 w40 := (E224.thenNo E27).comp E40 fun b hb' h2 => by
    have s224 := E224.size
    by_cases hlt : b < w11.heap.size
    · exact hF2 b hlt h2
    · have := E11.size; have := E28.size; omega
  have E253 : Eff F w2 w53 := ((E240.thenNo E45).thenNo E51).thenNo E53
  exact k w53 (E2.comp E253 fun b hb' hFb => by have := hF b hFb; omega)

theorem Great_spec {o : OpC} {K : Bool → World → Prop} (k : ∀ b w', Eff No w w' → K b w') : purlinlaw0_Great_19 o w K := by
  refine purlinlaw0_Great_19_of _ w K ?_
  unfold F19
  refine newP_at fun b1 w2 e1 a1 E1 => ?_
  refine ldP_at o.2.2.2.2.2.1 a1 rfl ?_
  refine cnd_intro (fun _ => k _ _ E1) (fun _ => ?_)
  refine ldP_at o.2.2.2.2.2.2.1 a1 rfl ?_
  refine cnd_intro (fun _ => k _ _ E1) (fun _ => ?_)
  refine ldP_at o.2.2.2.2.2.2.2 a1 rfl ?_
  exact k _ _ E1

theorem MayNone_spec {o : OpC} {n : NodeC} {K : Bool → World → Prop} (k : ∀ w', Eff No w w' → K true w') : purlinlaw24_MayNone_7 o n w K := by
  refine purlinlaw24_MayNone_7_of _ _ w K ?_
  unfold F7
  refine newP_at fun b1 w2 e1 a1 E1 => ?_
  refine newP_at fun b3 w4 e3 a3 E3 => ?_
  have a1' := E3.at0 a1
  have E04 := E1.trans E3
  refine ⟨fun _ w7 => Eff No w4 w7, ?_, ?_⟩
  · refine ldA_all o a1' ?_
    refine Great_spec (o := o) fun b w10 E10 => ?_
    refine cnd_intro (fun _ => E10) (fun _ => ?_)
    refine ldP_at n.1 (E10.at0 a3) rfl ?_
    refine cnd_intro (fun _ => E10) (fun _ => ?_)
    refine ldP_at n.2.2.2.2 (E10.at0 a3) rfl ?_
    exact E10
  rintro b w7 E7
  have E07 := E04.trans E7
  refine cnd_intro (fun _ => awake_spec fun w14 E14 => k w14 (E07.trans E14)) (fun _ => ?_)
  refine ldA_all o (E7.at0 a1') ?_
  -- of none
  have did0 : ∀ {o : OpC} {wx : World} {K' : Bool → World → Prop}, (∀ w', Eff No wx w' → K' false w') → may_History_Did_16 none o 0 1 wx K' := by
    intro o wx K' hk
    refine may_History_Did_16_of _ _ _ _ wx K' ?_
    unfold F16
    refine newP_at fun b1 w2 e1 a1 E1 => ?_
    exact cnd_t rfl (hk _ E1)
  have all0 : ∀ {s : Sl} {wx : World} {K' : Bool → World → Prop}, K' false wx → may_History_Allows_13 none s wx K' := by
    intro s wx K' hk
    refine may_History_Allows_13_of _ _ wx K' ?_
    unfold F13
    exact cnd_t rfl hk
  refine did0 fun w17 E17 => ?_
  refine cnd_t rfl ?_
  have a17 := (E7.trans E17).at0 a3
  refine ldA_all n a17 ?_
  refine newP_at fun b19 w20 e19 a19 E19 => ?_
  refine all0 ?_
  refine cnd_t rfl ?_
  refine ldA_all n (E19.at0 a17) ?_
  refine newP_at fun b24 w25 e24 a24 E24 => ?_
  refine may_History_Crashed_20_of _ _ w25 _ ?_
  unfold F20
  refine all0 ?_
  refine cnd_t rfl ?_
  refine cnd_t rfl ?_
  refine may_History_Nodes_18_of _ w25 _ ?_
  unfold F18
  refine cnd_t rfl ?_
  refine cnd_t rfl ?_
  exact awake_spec fun w31 E31 => k w31 ((((E07.trans E17).trans E19).trans E24).trans E31)

end
end Go.Proofs.YtcpoglgnkedpaaaGreatDoor

/-
  The given row's arguments, as the condition generator takes them; what a call leaves, as the row asks for it.
-/
namespace Go.Proofs.YtcpoglgnkedpaaaGreatDoor
open Go Go.Vc Go.Proofs Go.ChangeShapes Go.WideShapes Go.ChangeAt Go.RowKit Go.Deep

theorem rowOwn : ownKnob Tryz.prog.godebug = none := by kernel_rfl
theorem rowLaid : laidOutB Tryz.prog = true := by kernel_rfl

/-- A function with a body is called. -/
theorem calls_of_callP {P : Program} {n : FuncId} {fn : Func} {args : Array Value} {ts : List Ty} {w : World} {K : Tup ts → World → Prop} (hf : P.funcs[n]? = some fn) (hn : (fn.name == "runtime.NumGoroutine") = false) (hb : fn.body.isNone = false)
    (h : callP P n args ts w K) : Calls P n args w fun e w' => ∃ c, e = .returned (Tup.res ts c) ∧ K c w' := by
  rcases h with ⟨_, hc⟩ | ⟨c, w', hr, _⟩
  · exact hc
  · have : (callFunc n args).run P w = .ok (.enter n args) w := by
      have h1 : ¬ fn.name = "runtime.NumGoroutine" := by simpa using hn
      have h2 : ¬ fn.body = Option.none := by
        intro e
        rw [e] at hb
        cases hb
      simp [callFunc, hf, h1, h2]
    rw [this] at hr
    cases hr

section
variable {H : Type} {enc : TypeId × Value → H} {P : Program} {w : World} {base : Nat} {spare : Nat → Bool} {held : Bool}

def leafTy (P : Program) (l : Leaf) (t : TypeId) : Bool :=
  match l, P.underlying t with
  | .int k, some (.int k') => decide (k = k')
  | .bool, some .bool => true
  | .str, some .string => true
  | .slice, some (.slice _) => true
  | _, _ => false

theorem leaf_of_trod {l : Leaf} {t : TypeId} {v : Value} {fuel : Nat} {y : DataW H × List MemPlace} (hl : leafTy P l t = true) (h : DataW.trod enc P w base spare held fuel t [v] = some y) : ∃ c, l.proj v = some c := by
  unfold leafTy at hl
  split at hl
  · rename_i k k' hu
    obtain rfl : k = k' := of_decide_eq_true hl
    obtain ⟨n, e, _, _⟩ := DataW.trod_int hu h
    cases e
    exact ⟨n, by simp [Leaf.proj]⟩
  · rename_i hu
    obtain ⟨b, e, _⟩ := DataW.trod_bool hu h
    cases e
    exact ⟨b, rfl⟩
  · rename_i hu
    obtain ⟨s, e, _, _⟩ := DataW.trod_string hu h
    cases e
    exact ⟨s, rfl⟩
  · rename_i e hu
    rcases DataW.trod_slice hu h with ⟨e, _⟩ | ⟨a, len, cap, _, _, _, _, e, _⟩
    · cases e
      exact ⟨⟨none, 0, 0⟩, rfl⟩
    · cases e
      exact ⟨⟨some a, len, cap⟩, rfl⟩
  · cases hl

theorem carr_of : ∀ (ls : List Leaf) (cs : List Value), cs.length = ls.length → (∀ (i : Nat) (l : Leaf) (v : Value), ls[i]? = some l → cs[i]? = some v → ∃ c, l.proj v = some c) → ∃ c, Carr.proj ls cs = some c
  | [], [], _, _ => ⟨(), rfl⟩
  | [l], [v], _, h => by
    obtain ⟨c, hc⟩ := h 0 l v rfl rfl
    exact ⟨c, by simpa [Carr.proj] using hc⟩
  | l :: m :: r, v :: vs, hn, h => by
    obtain ⟨c, hc⟩ := h 0 l v rfl rfl
    obtain ⟨d, hd⟩ := carr_of (m :: r) vs (by simpa using hn) fun i l' v' h1 h2 => h (i + 1) l' v' (by simpa using h1) (by simpa using h2)
    exact ⟨(c, d), by simp [Carr.proj, hc, hd]⟩
  | [], _ :: _, hn, _ => by simp at hn
  | _ :: _, [], hn, _ => by simp at hn
  | [_], _ :: _ :: _, hn, _ => by simp at hn

/-- A struct of one-celled parts that is read as data. -/
theorem agg_of_trod {ls : List Leaf} {t : TypeId} {fs : Array Field} {r : Reach} {b0 : Nat} {v : Value} {d : DataW H} {p : List MemPlace} (hs : P.underlying t = some (.struct fs)) (hone : oneCellFields P fs = true) (hC : P.cellsOf t = ls.length) (hn : fs.size = ls.length)
    (hl : ∀ (i : Nat) (f : Field) (l : Leaf), fs[i]? = some f → ls[i]? = some l → leafTy P l f.type = true)
    (hv : Value.okWide P w r b0 t v) (h : DataW.Trod enc P w base spare held t v d p) : ∃ c : Carr ls, v = Ty.mk (.agg ls) c := by
  obtain ⟨cs, rfl, hsz⟩ := okWide_struct hs hv
  obtain ⟨fuel, hf⟩ := h
  obtain ⟨xs, n, _, _, _, hxs, hx⟩ := DataW.trod_struct hs hf
  obtain ⟨c, hc⟩ := carr_of ls cs.toList (by simp [hsz, hC]) fun i l v h1 h2 => by
    have hi : i < fs.size := by
      have := (List.getElem?_eq_some_iff.1 h1).1
      omega
    obtain ⟨o, k⟩ := hone_of hone i fs[i] (by simp [hi])
    have := hx i fs[i] (by simp [hi])
    rw [o, k] at this
    have hd : ((Value.agg cs).cells.toList.drop i).take 1 = [v] := by
      show (cs.toList.drop i).take 1 = [v]
      obtain ⟨hlt, e⟩ := List.getElem?_eq_some_iff.1 h2
      rw [List.drop_eq_getElem_cons hlt, e]
      rfl
    rw [hd, List.getElem?_eq_getElem (by omega)] at this
    exact leaf_of_trod (hl i fs[i] l (by simp [hi]) h1) this
  exact ⟨c, Ty.proj_mk (t := .agg ls) hc⟩

theorem below_of {w w' : World} (h : Eff No w w') : Below w.heap.size w w' := ⟨h.os, h.tape, h.output, h.size, fun k hk => h.keep k hk fun x => x⟩

theorem trodAll_stays {P : Program} (hl : laidOutB P = true) {W W' : World} (hb : Below W.heap.size W W') {sp : Nat → Bool} {before : List MemPlace} (hsp : ∀ p ∈ before, sp p.block = true) (hlt : ∀ p ∈ before, p.block < W.heap.size) :
    ∀ {ts : List TypeId} {vs : List Value} {ds : List (DataW H)} {ps : List MemPlace}, (∀ t ∈ ts, P.readableRec t = true ∧ t < P.types.size) → (∀ p ∈ ps, p ∈ before) →
      DataW.TrodAll enc P W 0 (fun _ => true) true ts vs ds ps → DataW.TrodAll enc P W' 0 sp true ts vs ds ps
  | [], _, _, _, _, _, h => by
    obtain ⟨rfl, rfl, rfl⟩ := trodAll_nil h
    exact trodAll_mk0
  | t :: ts, vs, ds, ps, ht, hp, h => by
    obtain ⟨v, vs, d, ds, p, q, rfl, rfl, rfl, h0, hr⟩ := trodAll_cons h
    refine trodAll_cons_mk ?_ (trodAll_stays hl hb hsp hlt (fun t' h' => ht t' (List.mem_cons_of_mem _ h')) (fun x hx => hp x (List.mem_append_right _ hx)) hr)
    exact WideElems.Trod_stays hl (ht t (List.mem_cons_self ..)).1 (ht t (List.mem_cons_self ..)).2 h0 (fun x hx => hb.same (hlt x (hp x (List.mem_append_left _ hx)))) (fun x hx => hsp x (hp x (List.mem_append_left _ hx)))

/-- A call that answers one bool and leaves all that was there: what its row asks. -/
theorem post_of_bool {f : Func} {s : ChangeSpec} {apart fresh handsOn again : Bool} {W W' : World} {args : Array Value} {b : Bool} {ds : List (DataW H)} {before : List MemPlace} {t : TypeId} (hl : laidOutB P = true)
    (hr : f.resultTypes = #[t]) (ht : P.underlying t = some .bool) (hpar : ∀ t ∈ f.params.toList, P.readableRec t = true ∧ t < P.types.size)
    (hv : s.vars = []) (hf : s.fn H ds = ⟨[.lit (.bool b)], ds, []⟩)
    (hW : DataW.Whole enc P f.params.toList s.vars apart W args.toList ds [] before) (he : Eff No W W') :
    s.post enc P f apart fresh handsOn again W args (.bool b) W' := by
  have hb := below_of he
  have hlt := hW.lt
  have hold : ∀ p ∈ before, (fun b => decide (b < W.heap.size)) p.block = true := fun p hp => by simpa using hlt p hp
  have hW' := hW
  obtain ⟨p, q, hA, hV, rfl, hz, hn⟩ := hW
  rw [hv] at hV
  obtain ⟨_, rfl⟩ := trodVars_none hV
  have hsize : f.resultTypes.size = 1 := by rw [hr]; rfl
  have hres : ∀ (b' : Nat) (sp : Nat → Bool) (hd : Bool), DataW.TrodAll enc P W' b' sp hd f.resultTypes.toList ((Value.bool b).resultList f.resultTypes.size) (s.fn H (ds ++ [])).results [] := fun _ _ _ => by
    rw [List.append_nil, hf, hr]
    exact trodAll_cons_mk (shut_bool ht b) trodAll_mk0
  have hargs : ∀ sp : Nat → Bool, (∀ x ∈ p ++ [], sp x.block = true) → DataW.TrodAll enc P W' 0 sp true f.params.toList args.toList (s.fn H (ds ++ [])).args p := fun sp hsp => by
    rw [List.append_nil, hf]
    exact trodAll_stays hl hb hsp hlt hpar (fun x hx => List.mem_append_left _ hx) hA
  have hvars : ∀ sp : Nat → Bool, DataW.TrodVars enc P W' sp s.vars (s.fn H (ds ++ [])).vars [] := fun sp => by
    rw [List.append_nil, hf, hv]
    exact rfl
  refine ⟨ds, [], p ++ [], [], p, [], hW', hres _ _ _, hargs _ hold, hvars _, World.keptBut_mono (fun x hx => ⟨hx, Or.inr ?_⟩) (hb.frame (· ∈ p ++ [])), fun _ => ?_⟩
  · simpa using hx
  · refine ⟨ok_one hr rfl (okWide_bool_mk ht b), _, _, ([] ++ p) ++ [], ⟨[] ++ p, [], trodAll_append (hargs _ (fun _ _ => rfl)) (hres _ _ _), hvars _, rfl, ?_, ?_⟩, ?_⟩
    · intro b' off hp
      rw [hb.frozen (p := ⟨b', off, Option.none⟩) (hlt (.cell b' off) (by simpa using hp))]
      exact hz b' off (by simpa using hp)
    · intro ha
      simpa using hn ha
    · intro x hx _
      simpa using hx
end

end Go.Proofs.YtcpoglgnkedpaaaGreatDoor
