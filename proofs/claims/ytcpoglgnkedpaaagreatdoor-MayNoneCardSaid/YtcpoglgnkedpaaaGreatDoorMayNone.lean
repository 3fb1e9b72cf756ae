/-
  purlinlaw24.MayNone answers true for every operation and every node, whatever they hold, and leaves both as they were. Condition: the two variables that the row lists read as listed (the tied card ties them to the program's text).
-/
import Derived.Test.YtcpoglgnkedpaaaGreatDoorM3
namespace Go.Proofs.YtcpoglgnkedpaaaGreatDoor
open Go Go.Vc Go.Proofs Go.ChangeShapes Go.WideShapes Go.ChangeAt Go.RowKit Go.Deep

set_option maxRecDepth 100000 in
theorem mayNone_witness {H : Type} (enc : TypeId × Value → H) (os : Os) :
    ∃ (w : World) (tape : Tape) (i : Input), w.os = os ∧ (w.forCall tape i).Shaped Tryz.prog ∧ i.vars = [] ∧ Input.okWide Tryz.prog (w.forCall tape i) .any w.heap.size 7 i ∧
      ((Rows.mayNoneSpec.pre enc Tryz.prog Tryz.f7 [] false (w.forCall tape i).memory i.args ∧ laidMetH Tryz.prog Rows.mayNoneRow.laid (w.forCall tape i).memory) ∧ sizedMet enc Tryz.prog Tryz.f7 (OpenSpec.ofChange Rows.mayNoneSpec) false (w.forCall tape i).memory i.args) ∧ ({} : Assume).holds Tryz.prog (lone (Frame.enter Tryz.prog 7 i.args .normal) [] (w.forCall tape i)) :=
  ChangeSpec.witness_shaped (enc := enc) (C := Tryz.checked) (os := os) (X := fun w _ => laidMetH Tryz.prog Rows.mayNoneRow.laid w) false (World.laidAll Tryz.prog os Rows.mayNoneRow.laid)
    #[.agg #[.int .i64 0, .int .i64 0, .int .i64 0, .int .i64 0, .int .i64 0, .string .empty, .string .empty, .slice none 0 0], .agg #[.string .empty, .int .i64 0, .int .i64 0, .int .i64 0, .slice none 0 0]] 8 (World.laidAll_os _ _ _)
      (World.shaped_of_ZipB (by kernel_rfl) (by kernel_rfl)) (by kernel_rfl) (by kernel_rfl) (by kernel_rfl)
      (by rw [MakeChecks.laidMetH_plain _ _ _ (by kernel_rfl)]; exact laidMet_laidAll _ (by kernel_rfl) (by kernel_rfl))

theorem leafTy3 : leafTy Tryz.prog (.int .i64) 3 = true := by unfold leafTy; rw [Tryz.underlying3]; rfl
theorem leafTy9 : leafTy Tryz.prog .str 9 = true := by unfold leafTy; rw [Tryz.underlying9]
theorem leafTy22 : leafTy Tryz.prog .slice 22 = true := by unfold leafTy; rw [Tryz.underlying22]

set_option maxRecDepth 100000 in
theorem mayNone_contract {H : Type} {enc : TypeId × Value → H} (W : World) (base : Nat) (args : Array Value) (ds gs : List (DataW H)) (before : List MemPlace)
    (hval : ∀ (j : Nat) t v, Tryz.f7.params[j]? = some t → args[j]? = some v → Value.okWide Tryz.prog W .any base t v)
    (hW : DataW.Whole enc Tryz.prog Tryz.f7.params.toList Rows.mayNoneSpec.vars false W args.toList ds gs before) :
    Calls Tryz.prog 7 args W fun e W' => ∃ v, e = .returned v ∧ Rows.mayNoneSpec.post enc Tryz.prog Tryz.f7 false true false false W args v W' := by
  have hW' := hW
  obtain ⟨p, q, hA0, hV, rfl, hfz, hnd⟩ := hW
  have hA : DataW.TrodAll enc Tryz.prog W 0 (fun _ => true) true Tryz.f7.params.toList args.toList ds p := hA0
  rw [Tryz.params7] at hA hval
  obtain ⟨v0, v1, d0, d1, p0, p1, rfl, rfl, hp, h0, h1⟩ := trodAll_two hA
  obtain ⟨rfl, rfl⟩ := trodVars_none hV
  obtain ⟨o, rfl⟩ := agg_of_trod (ls := [.int .i64, .int .i64, .int .i64, .int .i64, .int .i64, .str, .str, .slice]) Tryz.underlying28 (by kernel_rfl) (by kernel_rfl) rfl
    (fun i f l hf hl => by
      match i, hf, hl with
      | 0, hf, hl => cases hf; cases hl; exact leafTy3
      | 1, hf, hl => cases hf; cases hl; exact leafTy3
      | 2, hf, hl => cases hf; cases hl; exact leafTy3
      | 3, hf, hl => cases hf; cases hl; exact leafTy3
      | 4, hf, hl => cases hf; cases hl; exact leafTy3
      | 5, hf, hl => cases hf; cases hl; exact leafTy9
      | 6, hf, hl => cases hf; cases hl; exact leafTy9
      | 7, hf, hl => cases hf; cases hl; exact leafTy22) (hval 0 28 v0 rfl rfl) h0
  obtain ⟨n, rfl⟩ := agg_of_trod (ls := [.str, .int .i64, .int .i64, .int .i64, .slice]) Tryz.underlying30 (by kernel_rfl) (by kernel_rfl) rfl
    (fun i f l hf hl => by
      match i, hf, hl with
      | 0, hf, hl => cases hf; cases hl; exact leafTy9
      | 1, hf, hl => cases hf; cases hl; exact leafTy3
      | 2, hf, hl => cases hf; cases hl; exact leafTy3
      | 3, hf, hl => cases hf; cases hl; exact leafTy3
      | 4, hf, hl => cases hf; cases hl; exact leafTy22) (hval 1 30 v1 rfl rfl) h1
  refine (calls_of_callP (ts := [.one .bool]) Tryz.func7 (by kernel_rfl) (by kernel_rfl) (MayNone_spec (o := o) (n := n) (w := W) (K := fun b w' => b = true ∧ Eff No W w') fun w' E => ⟨rfl, E⟩)).mono fun e W' ⟨c, he, hc, E⟩ => ?_
  subst hc
  exact ⟨.bool true, he, post_of_bool rowLaid (by kernel_rfl) Tryz.underlying4 (fun t ht => by
    rw [Tryz.params7] at ht
    have hm : t ∈ [28, 30] := by simpa using ht
    have hall : ([28, 30].all fun u => Tryz.prog.readableRec u && decide (u < Tryz.prog.types.size)) = true := by kernel_rfl
    simpa using List.all_eq_true.1 hall t hm) rfl rfl hW' E⟩

set_option maxRecDepth 100000 in
theorem mayNone_lifted (os : Os) (started : os.Started) (H : Type) (enc : TypeId × Value → H) :
    ReturnsInHanded {} Tryz.checked os 7 .any (fun w args => (Rows.mayNoneSpec.pre enc Tryz.prog Tryz.f7 Rows.mayNoneRow.domain false w args ∧ laidMetH Tryz.prog Rows.mayNoneRow.laid w) ∧ sizedMet enc Tryz.prog Tryz.f7 (OpenSpec.ofChange Rows.mayNoneSpec) false w args)
      (Rows.mayNoneSpec.post enc Tryz.prog Tryz.f7 false true false false) :=
  returnsInHanded_of_change_and (C := Tryz.checked) (X := fun w _ => laidMetH Tryz.prog Rows.mayNoneRow.laid w) (fun _ _ _ hh h => h.of_heap hh) rowOwn started (by kernel_rfl) Tryz.func7 (mayNone_witness enc os)
    fun W base args ds gs before hval hW _ _ _ _ => mayNone_contract W base args ds gs before hval hW

theorem mayNone_said : Rows.MayNoneSaid :=
  OpenClaim.holds_of_wide 7 Tryz.f7 rfl rfl rfl rfl rfl rfl rfl ⟨rfl, rfl, rfl, rfl, rfl⟩ rfl rfl rfl rfl rfl (by kernel_rfl) Tryz.func7 (by kernel_rfl)
    (of_decide_eq_true (by kernel_rfl)) (by unfold Func.isWrapper; first | (rw [if_pos (by decide +kernel)]; kernel_rfl) | (rw [if_neg (by decide +kernel)]; exact ⟨rfl, rfl⟩))
    (fun os started H enc _ => mayNone_lifted os started H enc)

/-- THE CARD. -/
theorem mayNone_holds : Rows.MayNoneCardSaid :=
  Claim7.holds_tied_plain_at .later [] _ _ _ _ mayNone_said (fun _ h => by cases h) (by kernel_rfl) (fun _ h => by cases h) mayNone_row_tie rfl ⟨rfl, rfl⟩ (by kernel_rfl) rfl
    (fun f fn hf hfn => by
      obtain rfl : f = 7 := Option.some.inj ((show Tryz.prog.funcNamed "purlin/purlinlaw24.MayNone" = some 7 by kernel_rfl).symm.trans hf) |>.symm
      obtain rfl : fn = Tryz.f7 := (Option.some.inj (Tryz.func7.symm.trans hfn)).symm
      exact ⟨by kernel_rfl, fun j t ht => by
        rw [Tryz.params7] at ht
        have hm : t ∈ [28, 30] := by simpa using Array.mem_of_getElem? ht
        have hall : ([28, 30].all fun u => !Tryz.prog.wantsStandIn u) = true := by kernel_rfl
        exact (show Tryz.prog.wantsStandIn t = false by simpa using List.all_eq_true.1 hall t hm)⟩)
    (by kernel_rfl)

end Go.Proofs.YtcpoglgnkedpaaaGreatDoor
