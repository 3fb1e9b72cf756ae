/-
  MayRename: the states it goes through.
-/
import Derived.Test.YtcpoglgnkedpaaaGreatDoorM4
namespace Go.Proofs.YtcpoglgnkedpaaaGreatDoor
open Go Go.Vc Go.Proofs

def sD : Str := ⟨#[100]⟩
def pD : Str := ⟨#[47, 100]⟩
def pDG : Str := ⟨#[47, 100, 47, 103]⟩

def rT1 : TreeV := makeV tree0 1 sD 2 (ndK tree0 1)
def rH1 : HistV := didK aH0 tree0 rT1 4
def rT2 : TreeV := openV' rT1 1 sF 0
def rH2 : HistV := didOK rH1 rT1 rT2 5 0 (1, sF)
def rT3o : TreeV := openV' rT2 2 sG 1
def rH3o : HistV := didOK rH2 rT2 rT3o 6 1 (2, sG)
def rT3 (over : Bool) : TreeV := if over then rT3o else rT2
def rH3 (over : Bool) : HistV := if over then rH3o else rH2
def rH4 (over : Bool) : HistV := syncH (didK (rH3 over) (rT3 over) (rT3 over) 0)
def rM (over : Bool) : Int := if over then 4 else 0
def rTt (over : Bool) : TreeV := if over then takeV (rT3 over) 2 sG 4 (ndK (rT3 over) 2) (ndK (rT3 over) 4) else rT3 over
def rTm (over : Bool) : TreeV := moveA (rTt over) 1 sF 3 (ndK (rTt over) 1) (ndK (rT3 over) 3)
def rT5 (over : Bool) : TreeV := addV (rTm over) 2 sG 3 (ndK (rTm over) 2) { ndK (rT3 over) 3 with links := w64 ((ndK (rT3 over) 3).links - 1) }
def rH5 (over : Bool) : HistV := didK (rH4 over) (rT3 over) (rT5 over) 0
def rH6 (over last : Bool) : HistV := if last then syncH (didK (rH5 over) (rT5 over) (rT5 over) 0) else rH5 over

theorem rS1 : StepOk aH0 tree0 (mkOp 9 0 pD pE) 4 rH1 rT1 := by
  refine stepOk_of (n := 0) (by kernel_rfl) (by kernel_rfl) (by kernel_rfl)
    (doOk_mkdir (T := tree0) (o := mkOp 9 0 pD pE) (ini := []) (l := sD) (sp := root0) (ws := []) rfl (placeB_ok (by kernel_rfl)) (by kernel_rfl) (by decide) (by decide) (by kernel_rfl)) (by decide) ?_
  rw [didV_eq (by kernel_rfl)]
  exact lastOk_none (by decide) (by decide) (by decide) (by decide) (by decide)

theorem rS2 : StepOk rH1 rT1 (mkOp 1 1 pF pE) 5 rH2 rT2 := by
  refine stepOk_open (n := 0) (s := (3, 1, sF)) (by kernel_rfl) (by kernel_rfl) (by kernel_rfl)
    (doOk_open (T := rT1) (o := mkOp 1 1 pF pE) (ini := []) (l := sF) (sp := root0) (ws := []) (i := 0) rfl rfl (placeB_ok (by kernel_rfl)) (by kernel_rfl) (by decide) (by decide) (by decide) (by kernel_rfl) (by kernel_rfl)) rfl (by kernel_rfl) (by kernel_rfl) (by decide) ?_
  rw [didO_eq (by kernel_rfl)]
  exact lastOk_none (by decide) (by decide) (by decide) (by decide) (by decide)

theorem rS3 : StepOk rH2 rT2 (mkOp 1 1 pDG pE) 6 rH3o rT3o := by
  refine stepOk_open (n := 1) (s := (4, 2, sG)) (by kernel_rfl) (by kernel_rfl) (by kernel_rfl)
    (doOk_open (T := rT2) (o := mkOp 1 1 pDG pE) (ini := [sD]) (l := sG) (sp := (2, 1, sD)) (ws := [sD]) (i := 1) rfl rfl (placeB_ok (by kernel_rfl)) (by kernel_rfl) (by decide) (by decide) (by decide) (by kernel_rfl) (by kernel_rfl)) rfl (by kernel_rfl) (by kernel_rfl) (by decide) ?_
  rw [didO_eq (by kernel_rfl)]
  exact lastOk_none (by decide) (by decide) (by decide) (by decide) (by decide)

theorem rS4 (over : Bool) : StepOk (rH3 over) (rT3 over) (mkOp 21 0 pE pE) 0 (rH4 over) (rT3 over) := by
  refine stepOk_of (n := 0) (by cases over <;> kernel_rfl) (by cases over <;> kernel_rfl) (by cases over <;> kernel_rfl) (doOk_sync rfl) (by decide) ?_
  rw [didV_eq (by cases over <;> kernel_rfl)]
  exact lastOk_sync rfl

theorem rOver (over : Bool) : OverOk (rT3 over) (rTt over) 2 sG (ndK (rT3 over) 2) (rM over) := by
  cases over with
  | false => exact .inl ⟨rfl, rfl⟩
  | true => exact .inr ⟨by decide, ndK (rT3 true) 4, ndK_eq (by kernel_rfl), by decide, by decide, by kernel_rfl, rfl⟩

theorem rS5 (over : Bool) : StepOk (rH4 over) (rT3 over) (mkOp 15 0 pF pDG) 0 (rH5 over) (rT5 over) := by
  refine stepOk_of (n := 0) (by cases over <;> kernel_rfl) (by cases over <;> kernel_rfl) (by cases over <;> kernel_rfl)
    (doOk_rename (T := rT3 over) (T1 := rTt over) (o := mkOp 15 0 pF pDG) (ini1 := []) (l1 := sF) (sp1 := root0) (ws1 := []) (ini2 := [sD]) (l2 := sG) (sp2 := (2, 1, sD)) (ws2 := [sD]) (n := 3) (m := rM over) (x := ndK (rT3 over) 3) (dF := ndK (rTt over) 1) (dT := ndK (rTm over) 2) rfl
      (placeB_ok (by cases over <;> kernel_rfl)) (by cases over <;> kernel_rfl) (by decide) (ndK_eq (by cases over <;> kernel_rfl)) (by cases over <;> decide)
      (placeB_ok (by cases over <;> kernel_rfl)) (by cases over <;> kernel_rfl) (by cases over <;> decide) (rOver over)
      (ndK_eq (by cases over <;> kernel_rfl)) (by cases over <;> kernel_rfl) (by cases over <;> kernel_rfl) (by decide)
      (ndK_eq (by cases over <;> kernel_rfl)) (by cases over <;> kernel_rfl) (by decide)) (by decide) ?_
  rw [didV_eq (by cases over <;> kernel_rfl)]
  exact lastOk_none (by decide) (by decide) (by decide) (by decide) (by decide)

theorem rS6 (over : Bool) : StepOk (rH5 over) (rT5 over) (mkOp 21 0 pE pE) 0 (rH6 over true) (rT5 over) := by
  refine stepOk_of (n := 0) (by cases over <;> kernel_rfl) (by cases over <;> kernel_rfl) (by cases over <;> kernel_rfl) (doOk_sync rfl) (by decide) ?_
  rw [didV_eq (by cases over <;> kernel_rfl)]
  exact lastOk_sync rfl

def nD : NodeC := mkNode pD 4 2 1
def nNow (links : Int) : NodeC := mkNode pDG 5 1 links
def nSix : NodeC := mkNode pDG 6 1 1

theorem rA1 (over last : Bool) : allowsV (rH6 over last) hold0 [nRoot, nD, nNow 1] = true := by cases over <;> cases last <;> kernel_rfl
theorem rA2 (over last : Bool) : allowsV (rH6 over last) hold0 [nRoot, nD] = false := by cases over <;> cases last <;> kernel_rfl
theorem rA3 (over last : Bool) : allowsV (rH6 over last) hold0 [nRoot, nNow 1] = false := by cases over <;> cases last <;> kernel_rfl
theorem rA4 (over last : Bool) : allowsV (rH6 over last) hold0 [nRoot, nD, nF 2, nNow 2] = false := by cases over <;> cases last <;> kernel_rfl
theorem rA5 (over last : Bool) : allowsV (rH6 over last) hold0 [nRoot, nD, nF 1] = (!over && !last) := by cases over <;> cases last <;> kernel_rfl
theorem rA6 (over last : Bool) : allowsV (rH6 over last) hold0 [nRoot, nD, nF 1, nSix] = (over && !last) := by cases over <;> cases last <;> kernel_rfl
theorem rA7 (over last : Bool) : allowsV (rH6 over last) hold0 [nRoot, nD, nSix] = false := by cases over <;> cases last <;> kernel_rfl

end Go.Proofs.YtcpoglgnkedpaaaGreatDoor

/-
  MayRename: the walk.
-/
namespace Go.Proofs.YtcpoglgnkedpaaaGreatDoor
open Go Go.Vc Go.Proofs

section
variable {w : World}

theorem MayRename_spec {over last : Bool} {K : Bool → World → Prop} (k : ∀ w', Eff No w w' → K true w') : purlinlaw24_MayRename_4 over last w K := by
  refine purlinlaw24_MayRename_4_of _ _ w K ?_
  unfold F4
  refine New_spec fun F hb w2 E2 hS hF => ?_
  have h0 : St w2 F hb aH0 tree0 w2 := ⟨F, Eff.refl _ _, fun _ _ h => h, hS⟩
  refine ⟨fun b w' => b = false ∧ St w2 F hb rH2 rT2 w', ?_, ?_⟩
  · refine cnd_f rfl ?_
    refine h0.step rS1 fun w7 h7 => ?_
    refine cnd_f rfl ?_
    refine h7.step rS2 fun w9 h9 => ?_
    exact ⟨rfl, h9⟩
  rintro b w5 ⟨rfl, h5⟩
  refine cnd_f rfl ?_
  refine ⟨fun b w' => b = false ∧ St w2 F hb (rH5 over) (rT5 over) w', ?_, ?_⟩
  · cases over with
    | true =>
      refine cnd_t rfl ?_
      refine h5.step rS3 fun w14 h14 => ?_
      refine cnd_f rfl ?_
      refine h14.step (rS4 true) fun w16 h16 => ?_
      refine cnd_f rfl ?_
      refine h16.step (rS5 true) fun w18 h18 => ?_
      exact ⟨rfl, h18⟩
    | false =>
      refine cnd_f rfl ?_
      refine h5.step (rS4 false) fun w16 h16 => ?_
      refine cnd_f rfl ?_
      refine h16.step (rS5 false) fun w18 h18 => ?_
      exact ⟨rfl, h18⟩
  rintro b w12 ⟨rfl, h12⟩
  refine cnd_f rfl ?_
  refine ⟨fun b w' => b = false ∧ St w2 F hb (rH6 over last) (rT5 over) w', ?_, ?_⟩
  · cases last with
    | true =>
      refine cnd_t rfl ?_
      refine h12.step (rS6 over) fun w27 h27 => ?_
      exact ⟨rfl, h27⟩
    | false => exact cnd_f rfl ⟨rfl, h12⟩
  rintro b w25 ⟨rfl, F', E25, _, hS25⟩
  refine cnd_f rfl ?_
  refine node_at (x := nRoot) fun b28 w30 hb28 l28 aR E30 => ?_
  refine node_at (x := nD) fun b31 w33 hb31 l31 aD E33 => ?_
  refine node_at (x := nF 1) fun b34 w36 hb34 l34 aF E36 => ?_
  refine node_at (x := nNow 1) fun b37 w39 hb37 l37 aN E39 => ?_
  refine node_at (x := nSix) fun b40 w42 hb40 l40 aS E42 => ?_
  have s30 := E30.size
  have s33 := E33.size
  have s36 := E36.size
  have s39 := E39.size
  have s42 := E42.size
  have E2542 : Eff No w25 w42 := (((E30.trans E33).trans E36).trans E39).trans E42
  have aR1 := (((E33.trans E36).trans E39).trans E42).at0 aR
  have aD1 := ((E36.trans E39).trans E42).at0 aD
  have aF1 := (E39.trans E42).at0 aF
  have aN1 := E42.at0 aN
  have fin : ∀ wx, Eff No w25 wx → purlinlaw24_awake_10 wx fun r w71 => K r w71 := fun wx Ex =>
    awake_spec fun w71 E71 => k w71 (E2.comp ((E25.thenNo Ex).thenNo E71) fun b hb' hFb => by have := hF b hFb; omega)
  -- two, three
  refine ⟨fun s w' => ∃ bt bh, s = (some ⟨bt, 0, none⟩, some ⟨bh, 0, none⟩) ∧ w42.heap.size ≤ bt ∧ w42.heap.size ≤ bh ∧ bt ≠ bh ∧ At w' bt (.cells (Carr.cells nLs (nF 1)).toArray 30 (0, 0)) ∧ At w' bh (.cells (Carr.cells nLs (nNow 1)).toArray 30 (0, 0)) ∧ Eff No w42 w', ?_, ?_⟩
  · have Ed := Eff.drew w42
    refine ldA_all (nF 1) aF1.drew ?_
    refine ldA_all (nNow 1) aN1.drew ?_
    have hd : w42.drew.heap.size = w42.heap.size := rfl
    constructor
    · refine newP_at fun b48 w49 e48 a48 E49 => ?_
      have s49 := E49.size
      refine ⟨cellsAt_all (vs := Carr.cells nLs (nNow 1)) (E49.at0 aN1.drew), cellsAt_all (vs := Carr.cells nLs (nF 1)) (E49.at0 aF1.drew), ?_⟩
      refine newP_at fun b50 w51 e50 a50 E51 => ?_
      have l48 := a48.lt
      have l50 := a50.lt
      have s51 := E51.size
      have E4251 := E49.trans E51
      refine ⟨cellsAt_all (vs := Carr.cells nLs (nNow 1)) (E4251.at0 aN1.drew), cellsAt_all (vs := Carr.cells nLs (nF 1)) (E4251.at0 aF1.drew), ?_⟩
      refine stN_all (E51.at0 a48) rfl rfl fun w52 a52 E52 => ?_
      have s52 := E52.size
      have E4252 : Eff No w42.drew w52 := E4251.fresh E52 (by omega)
      refine ⟨cellsAt_all (vs := Carr.cells nLs (nNow 1)) (E4252.at0 aN1.drew), ?_⟩
      have hne : b48 ≠ b50 := by omega
      refine stN_all (E52.at a50 (fun e => hne (Eq.symm e))) rfl rfl fun w53 a53 E53 => ?_
      exact ⟨b48, b50, rfl, by omega, by omega, hne, E53.at a52 hne, a53, Ed.trans (E4252.fresh E53 (by omega))⟩
    · refine newP_at fun b48 w49 e48 a48 E49 => ?_
      have s49 := E49.size
      refine ⟨cellsAt_all (vs := Carr.cells nLs (nNow 1)) (E49.at0 aN1.drew), cellsAt_all (vs := Carr.cells nLs (nF 1)) (E49.at0 aF1.drew), ?_⟩
      refine newP_at fun b50 w51 e50 a50 E51 => ?_
      have l48 := a48.lt
      have l50 := a50.lt
      have s51 := E51.size
      have E4251 := E49.trans E51
      refine ⟨cellsAt_all (vs := Carr.cells nLs (nNow 1)) (E4251.at0 aN1.drew), cellsAt_all (vs := Carr.cells nLs (nF 1)) (E4251.at0 aF1.drew), ?_⟩
      refine stN_all a50 rfl rfl fun w52 a52 E52 => ?_
      have s52 := E52.size
      have E4252 : Eff No w42.drew w52 := E4251.fresh E52 (by omega)
      refine ⟨cellsAt_all (vs := Carr.cells nLs (nNow 1)) (E4252.at0 aN1.drew), ?_⟩
      have hne : b50 ≠ b48 := by omega
      refine stN_all (E52.at (E51.at0 a48) (fun e => hne (Eq.symm e))) rfl rfl fun w53 a53 E53 => ?_
      exact ⟨b50, b48, rfl, by omega, by omega, hne, E53.at a52 hne, a53, Ed.trans (E4252.fresh E53 (by omega))⟩
  rintro _ w45 ⟨bt, bh, rfl, hbt, hbh, hne, aT, aH, E45⟩
  have s45 := E45.size
  refine onSome_some ?_
  refine stP_at (i := 3) aT (by simp [Carr.cells]) rfl fun w61 aT1 E61 => ?_
  refine onSome_some ?_
  refine stP_at (i := 3) (E61.at aH (fun e => hne (Eq.symm e))) (by simp [Carr.cells]) rfl fun w63 aH1 E63 => ?_
  have aT2 : At w63 bt (.cells (Carr.cells nLs (nF 2)).toArray 30 (0, 0)) := E63.at aT1 hne
  have aH2 : At w63 bh (.cells (Carr.cells nLs (nNow 2)).toArray 30 (0, 0)) := aH1
  have s61 := E61.size
  have E4263 : Eff No w42 w63 := (E45.fresh E61 hbt).fresh E63 hbh
  have E2563 := E2542.trans E4263
  have aR2 := E4263.at0 aR1
  have aD2 := E4263.at0 aD1
  have aF2 := E4263.at0 aF1
  have aN2 := E4263.at0 aN1
  have aS2 := E4263.at0 aS
  refine ⟨fun b w' => b = false ∧ Eff No w63 w', ?_, ?_⟩
  · refine ldA_all nRoot aR2 ?_
    refine ldA_all nD aD2 ?_
    refine ldA_all (nNow 1) aN2 ?_
    refine newP_at fun b70 w71 e70 a70 E71 => ?_
    refine look_spec (ns := [nRoot, nD, nNow 1]) (hS25.kept0 (E2563.trans E71)) a70 rfl (by cases over <;> cases last <;> kernel_rfl) (rA1 over last) fun w73 E73 => ?_
    refine cnd_f rfl ?_
    have Ea := E71.trans E73
    refine ldA_all nRoot (Ea.at0 aR2) ?_
    refine ldA_all nD (Ea.at0 aD2) ?_
    refine newP_at fun b76 w77 e76 a76 E77 => ?_
    refine look_spec (ns := [nRoot, nD]) (hS25.kept0 ((E2563.trans Ea).trans E77)) a76 rfl (by cases over <;> cases last <;> kernel_rfl) (rA2 over last) fun w79 E79 => ?_
    refine cnd_f rfl ?_
    have Eb := (Ea.trans E77).trans E79
    refine ldA_all nRoot (Eb.at0 aR2) ?_
    refine ldA_all (nNow 1) (Eb.at0 aN2) ?_
    refine newP_at fun b82 w83 e82 a82 E83 => ?_
    refine look_spec (ns := [nRoot, nNow 1]) (hS25.kept0 ((E2563.trans Eb).trans E83)) a82 rfl (by cases over <;> cases last <;> kernel_rfl) (rA3 over last) fun w85 E85 => ?_
    refine cnd_f rfl ?_
    have Ec := (Eb.trans E83).trans E85
    refine ldA_all nRoot (Ec.at0 aR2) ?_
    refine ldA_all nD (Ec.at0 aD2) ?_
    refine onSome_some ?_
    refine ldA_all (nF 2) (Ec.at0 aT2) ?_
    refine onSome_some ?_
    refine ldA_all (nNow 2) (Ec.at0 aH2) ?_
    refine newP_at fun b92 w93 e92 a92 E93 => ?_
    refine look_spec (ns := [nRoot, nD, nF 2, nNow 2]) (hS25.kept0 ((E2563.trans Ec).trans E93)) a92 rfl (by cases over <;> cases last <;> kernel_rfl) (rA4 over last) fun w95 E95 => ?_
    exact ⟨rfl, (Ec.trans E93).trans E95⟩
  rintro b w66 ⟨rfl, E66⟩
  refine cnd_f rfl ?_
  refine ldA_all nRoot (E66.at0 aR2) ?_
  refine ldA_all nD (E66.at0 aD2) ?_
  refine ldA_all (nF 1) (E66.at0 aF2) ?_
  refine newP_at fun b99 w100 e99 a99 E100 => ?_
  refine look_spec (ns := [nRoot, nD, nF 1]) (hS25.kept0 ((E2563.trans E66).trans E100)) a99 rfl (by cases over <;> cases last <;> kernel_rfl) (rA5 over last) fun w102 E102 => ?_
  have Ed := (E66.trans E100).trans E102
  -- the last two looks
  have look4 : ∀ {G : Bool → World → Prop}, (∀ w110, Eff No w63 w110 → G (over && !last) w110) →
      ldA [.str, .int .i64, .int .i64, .int .i64, .slice] ⟨b28, 0, none⟩ w102 fun c103 =>
      ldA [.str, .int .i64, .int .i64, .int .i64, .slice] ⟨b31, 0, none⟩ w102 fun c104 =>
      ldA [.str, .int .i64, .int .i64, .int .i64, .slice] ⟨b34, 0, none⟩ w102 fun c105 =>
      ldA [.str, .int .i64, .int .i64, .int .i64, .slice] ⟨b40, 0, none⟩ w102 fun c106 =>
      newP (.cells #[(.string c103.1), (.int .i64 c103.2.1), (.int .i64 c103.2.2.1), (.int .i64 c103.2.2.2.1), (.slice c103.2.2.2.2.a c103.2.2.2.2.len c103.2.2.2.2.cap), (.string c104.1), (.int .i64 c104.2.1), (.int .i64 c104.2.2.1), (.int .i64 c104.2.2.2.1), (.slice c104.2.2.2.2.a c104.2.2.2.2.len c104.2.2.2.2.cap), (.string c105.1), (.int .i64 c105.2.1), (.int .i64 c105.2.2.1), (.int .i64 c105.2.2.2.1), (.slice c105.2.2.2.2.a c105.2.2.2.2.len c105.2.2.2.2.cap), (.string c106.1), (.int .i64 c106.2.1), (.int .i64 c106.2.2.1), (.int .i64 c106.2.2.2.1), (.slice c106.2.2.2.2.a c106.2.2.2.2.len c106.2.2.2.2.cap)] 30) w102 fun b107 w108 =>
      may_History_Allows_13 (some ⟨hb, 0, none⟩) ⟨(some ⟨b107, 0, none⟩), 4, 4⟩ w108 fun r109 w110 => G r109 w110 := by
    intro G hG
    refine ldA_all nRoot (Ed.at0 aR2) ?_
    refine ldA_all nD (Ed.at0 aD2) ?_
    refine ldA_all (nF 1) (Ed.at0 aF2) ?_
    refine ldA_all nSix (Ed.at0 aS2) ?_
    refine newP_at fun b107 w108 e107 a107 E108 => ?_
    refine look_spec (ns := [nRoot, nD, nF 1, nSix]) (hS25.kept0 ((E2563.trans Ed).trans E108)) a107 rfl (by cases over <;> cases last <;> kernel_rfl) (rA6 over last) fun w110 E110 => ?_
    exact hG w110 ((Ed.trans E108).trans E110)
  have look3 : ∀ {A B : World → Prop} {w110 : World}, Eff No w63 w110 → (∀ w117, Eff No w25 w117 → A w117) →
      ldA [.str, .int .i64, .int .i64, .int .i64, .slice] ⟨b28, 0, none⟩ w110 fun c111 =>
      ldA [.str, .int .i64, .int .i64, .int .i64, .slice] ⟨b31, 0, none⟩ w110 fun c112 =>
      ldA [.str, .int .i64, .int .i64, .int .i64, .slice] ⟨b40, 0, none⟩ w110 fun c113 =>
      newP (.cells #[(.string c111.1), (.int .i64 c111.2.1), (.int .i64 c111.2.2.1), (.int .i64 c111.2.2.2.1), (.slice c111.2.2.2.2.a c111.2.2.2.2.len c111.2.2.2.2.cap), (.string c112.1), (.int .i64 c112.2.1), (.int .i64 c112.2.2.1), (.int .i64 c112.2.2.2.1), (.slice c112.2.2.2.2.a c112.2.2.2.2.len c112.2.2.2.2.cap), (.string c113.1), (.int .i64 c113.2.1), (.int .i64 c113.2.2.1), (.int .i64 c113.2.2.2.1), (.slice c113.2.2.2.2.a c113.2.2.2.2.len c113.2.2.2.2.cap)] 30) w110 fun b114 w115 =>
      may_History_Allows_13 (some ⟨hb, 0, none⟩) ⟨(some ⟨b114, 0, none⟩), 3, 3⟩ w115 fun r116 w117 =>
      cnd (!r116) (A w117) (B w117) := by
    intro A B w110 Ee hA
    refine ldA_all nRoot (Ee.at0 aR2) ?_
    refine ldA_all nD (Ee.at0 aD2) ?_
    refine ldA_all nSix (Ee.at0 aS2) ?_
    refine newP_at fun b114 w115 e114 a114 E115 => ?_
    refine look_spec (ns := [nRoot, nD, nSix]) (hS25.kept0 ((E2563.trans Ee).trans E115)) a114 rfl (by cases over <;> cases last <;> kernel_rfl) (rA7 over last) fun w117 E117 => ?_
    exact cnd_t rfl (hA w117 (((E2563.trans Ee).trans E115).trans E117))
  cases over with
  | true =>
    refine cnd_f rfl ?_
    refine cnd_t rfl ?_
    refine look4 fun w110 E110 => ?_
    refine cnd_t rfl ?_
    refine cnd_t (by simp) ?_
    exact look3 E110 fin
  | false =>
    refine cnd_t rfl ?_
    refine cnd_t (by simp) ?_
    refine look4 fun w110 E110 => ?_
    refine cnd_f rfl ?_
    refine cnd_t rfl ?_
    exact look3 E110 fin

end
end Go.Proofs.YtcpoglgnkedpaaaGreatDoor
