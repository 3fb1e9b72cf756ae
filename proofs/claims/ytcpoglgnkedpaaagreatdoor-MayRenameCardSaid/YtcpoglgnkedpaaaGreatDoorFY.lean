/-
  What the functions' bodies ask (printed by vcgen.py).
-/
import Derived.Test.YtcpoglgnkedpaaaGreatDoorTS
namespace Go.Proofs.YtcpoglgnkedpaaaGreatDoor
open Go Go.Vc Go.Proofs


/-- slices.pdqsortCmpFunc[purlin/api.Node] -/
def F161 (p0 : Sl) (data : Int) (a : Int) (b : Int) (limit : Value) (w : World) (K : Tup [] → World → Prop) : Prop :=
  loopP (σ := Tup [.one (.int .i64), .one (.int .i64), .one (.int .i64), .one .bool, .one .bool]) (fun again1 s2 w3 =>
    cnd (decide ((w64 (s2.2.1 - s2.1)) ≤ 12)) (
      slices_insertionSortCmpFunc_188 p0 s2.1 s2.2.1 limit w3 fun _r4 w5 =>
      K () w5) (
      cnd (s2.2.2.1 == 0) (
        slices_heapSortCmpFunc_189 p0 s2.1 s2.2.1 limit w3 fun _r6 w7 =>
        K () w7) (
        joinP (σ := Tup [.one (.int .i64)]) (fun J8 =>
          cnd (!s2.2.2.2.1) (
            slices_breakPatternsCmpFunc_190 p0 s2.1 s2.2.1 limit w3 fun _r11 w12 =>
            J8 (w64 (s2.2.2.1 - 1)) w12) (
            J8 s2.2.2.1 w3)) (fun s9 w10 =>
        slices_choosePivotCmpFunc_191 p0 s2.1 s2.2.1 limit w10 fun r13 w14 =>
        joinP (σ := Tup [.one (.int .i64), .one (.int .i64)]) (fun J15 =>
          cnd (r13.2 == 2) (
            slices_reverseRangeCmpFunc_192 p0 s2.1 s2.2.1 limit w14 fun _r18 w19 =>
            J15 ((w64 ((w64 (s2.2.1 - 1)) - (w64 (r13.1 - s2.1)))), 1) w19) (
            J15 (r13.1, r13.2) w14)) (fun s16 w17 =>
        joinP (σ := Tup [.one .bool]) (fun J20 =>
          cnd s2.2.2.2.1 (
            cnd s2.2.2.2.2 (
              J20 (s16.2 == 1) w17) (
              J20 false w17)) (
            J20 false w17)) (fun s21 w22 =>
        joinP (σ := Tup []) (fun J23 =>
          cnd s21 (
            slices_partialInsertionSortCmpFunc_193 p0 s2.1 s2.2.1 limit w22 fun r26 w27 =>
            cnd r26 (
              K () w27) (
              J23 () w27)) (
            J23 () w22)) (fun _s24 w25 =>
        joinP (σ := Tup [.one .bool]) (fun J28 =>
          cnd (decide (s2.1 > 0)) (
            idxP (w64 (s2.1 - 1)) p0.len (
              onSome p0.a fun A31 =>
              ldA [.str, .int .i64, .int .i64, .int .i64, .slice] (A31.add (Int.toNat (w64 (s2.1 - 1)) * 5)) w25.drew fun c32 =>
              idxP s16.1 p0.len (
                onSome p0.a fun A33 =>
                ldA [.str, .int .i64, .int .i64, .int .i64, .slice] (A33.add (Int.toNat s16.1 * 5)) w25.drew fun c34 =>
                callV Tryz.prog limit #[(.agg #[(.string c32.1), (.int .i64 c32.2.1), (.int .i64 c32.2.2.1), (.int .i64 c32.2.2.2.1), (.slice c32.2.2.2.2.a c32.2.2.2.2.len c32.2.2.2.2.cap)]), (.agg #[(.string c34.1), (.int .i64 c34.2.1), (.int .i64 c34.2.2.1), (.int .i64 c34.2.2.2.1), (.slice c34.2.2.2.2.a c34.2.2.2.2.len c34.2.2.2.2.cap)])] [.one (.int .i64)] w25.drew fun r35 w36 =>
                J28 (!(decide (r35 < 0))) w36))) (
            J28 false w25.drew)) (fun s29 w30 =>
        cnd s29 (
          slices_partitionEqualCmpFunc_194 p0 s2.1 s2.2.1 s16.1 limit w30 fun r37 w38 =>
          again1 (r37, s2.2.1, s9, s2.2.2.2.1, s2.2.2.2.2) w38) (
          slices_partitionCmpFunc_195 p0 s2.1 s2.2.1 s16.1 limit w30 fun r39 w40 =>
          (8 : Int) ≠ 0 ∧
          cnd (decide ((w64 (r39.1 - s2.1)) < (w64 (s2.2.1 - r39.1)))) (
            slices_pdqsortCmpFunc_161 p0 s2.1 r39.1 s9 limit w40 fun _r41 w42 =>
            again1 ((w64 (r39.1 + 1)), s2.2.1, s9, (decide ((w64 (r39.1 - s2.1)) ≥ (w64 (Int.tdiv (w64 (s2.2.1 - s2.1)) 8)))), r39.2) w42) (
            slices_pdqsortCmpFunc_161 p0 (w64 (r39.1 + 1)) s2.2.1 s9 limit w40 fun _r43 w44 =>
            again1 (s2.1, r39.1, s9, (decide ((w64 (s2.2.1 - r39.1)) ≥ (w64 (Int.tdiv (w64 (s2.2.1 - s2.1)) 8)))), r39.2) w44)))))))))) (data, a, b, true, true) w
def an161 : List An := [
  .reg ⟨[], .done, []⟩,
  .reg ⟨[], .done, []⟩,
  .nop,
  .nop,
  .loop [(1, .one (.int .i64)), (2, .one (.int .i64)), (3, .one (.int .i64)), (10, .one .bool), (11, .one .bool)] [12, 13, 14, 15, 16, 17, 18, 19, 20, 21, 22, 23, 24, 25, 26, 27, 28, 29, 30, 31, 32, 33, 34, 35, 36, 37, 38, 39, 40, 41, 42, 43, 44, 45, 46, 47, 48, 49, 50, 51, 52, 53, 54, 55, 56, 57, 58, 59, 60, 61, 62, 63, 64, 65, 66, 67, 68, 69, 70, 71, 72, 73, 74, 75, 76, 77, 78, 79, 80, 81, 82, 83, 84, 85, 86, 87, 88, 89, 90, 91, 92, 93, 94, 95, 96, 97, 98, 99, 100, 101, 102, 103, 104, 105, 106, 107, 108, 109, 110, 111, 112, 113, 114, 115, 116, 117, 118, 119, 120, 121, 122, 123, 124, 125, 126, 127, 128, 129, 130, 131, 132, 133, 134, 135, 136, 137, 138, 139, 140, 141, 142, 143, 144, 145, 146, 147],
  .nop,
  .reg ⟨[], .done, []⟩,
  .reg ⟨[], .done, []⟩,
  .nop,
  .reg ⟨[(4, [])], .done, []⟩,
  .reg ⟨[], .done, []⟩,
  .nop,
  .reg ⟨[(4, [])], .done, []⟩,
  .reg ⟨[], .done, []⟩,
  .join [(3, .one (.int .i64))] [40, 41, 42, 43, 44, 45, 46],
  .reg ⟨[(4, [])], .done, []⟩,
  .reg ⟨[], .done, []⟩,
  .reg ⟨[(4, [.one (.int .i64), .one (.int .i64)])], .done, []⟩,
  .reg ⟨[], .done, []⟩,
  .join [(13, .one (.int .i64)), (14, .one (.int .i64))] [57, 58, 59, 60, 61, 62, 63, 64, 65, 66, 67],
  .reg ⟨[(4, [])], .done, []⟩,
  .reg ⟨[], .done, []⟩,
  .reg ⟨[], .done, []⟩,
  .join [(75, .one .bool)] [68, 69, 70, 71, 72, 73, 74],
  .reg ⟨[], .done, []⟩,
  .join [] [76, 77, 78, 79, 80],
  .reg ⟨[(4, [.one .bool])], .done, []⟩,
  .nop,
  .join [(97, .one .bool)] [81, 82, 83, 84, 85, 86, 87, 88, 89, 90, 91, 92, 93, 94, 95, 96],
  .reg ⟨[(13, [.one (.int .i64)])], (.nop 0 0 (.nop 1 1 (.nop 2 3 (.nop 3 7 (.nop 4 7 (.nop 5 7 (.nop 6 39 (.nop 7 119 (.nop 8 247 (.nop 9 7 (.nop 10 7 (.nop 11 1543 (.nop 12 3591 (.bar 13 8191 (.nop 14 16383 (.nop 15 32767 (.nop 16 65535 .done))) .none)))))))))))))), []⟩,
  .nop,
  .reg ⟨[(5, [.one (.int .i64)])], .done, []⟩,
  .reg ⟨[], .done, []⟩,
  .reg ⟨[(5, [.one (.int .i64), .one .bool])], .done, []⟩,
  .reg ⟨[], .done, []⟩,
  .reg ⟨[], .done, []⟩,
  .reg ⟨[], .done, []⟩,
  .reg ⟨[], .done, []⟩,
  .nop,
  .reg ⟨[], .done, []⟩,
  .reg ⟨[(5, [])], .done, []⟩,
  .reg ⟨[], .done, []⟩,
  .reg ⟨[], .done, []⟩,
  .reg ⟨[(6, [])], .done, []⟩,
  .reg ⟨[], .done, []⟩]
theorem slices_pdqsortCmpFunc_161_of (p0 : Sl) (data : Int) (a : Int) (b : Int) (limit : Value) (w : World) (K : Tup [] → World → Prop) (hF_ : F161 p0 data a b limit w K) : slices_pdqsortCmpFunc_161 p0 data a b limit w K :=
  call_of_F (l := an161) (args := [Ty.mk (.one .slice) p0, Ty.mk (.one (.int .i64)) data, Ty.mk (.one (.int .i64)) a, Ty.mk (.one (.int .i64)) b, Ty.mk (.one .any) limit]) follows tabOk Tryz.func161 (by kernel_rfl) (by kernel_rfl) (by kernel_rfl) hF_

/-- purlin/tree.long -/
def F170 (parts : Sl) (w : World) (K : Tup [.one .bool] → World → Prop) : Prop :=
  cnd (decide ((parts.len : Int) > 20)) (
    K true w) (
    path_Join_181 parts w fun r1 w2 =>
    K (decide ((r1.size : Int) > 200)) w2)
def an170 : List An := [
  .reg ⟨[], .done, []⟩,
  .reg ⟨[(5, [.one .str])], .done, []⟩]
theorem tree_long_170_of (parts : Sl) (w : World) (K : Tup [.one .bool] → World → Prop) (hF_ : F170 parts w K) : tree_long_170 parts w K :=
  call_of_F (l := an170) (args := [Ty.mk (.one .slice) parts]) follows tabOk Tryz.func170 (by kernel_rfl) (by kernel_rfl) (by kernel_rfl) hF_

/-- slices.IndexFunc[[]purlin/table.slot,purlin/table.slot] -/
def F171 (p0 : Sl) (s : Value) (w : World) (K : Tup [.one (.int .i64)] → World → Prop) : Prop :=
  loopP (σ := Tup [.one (.int .i64)]) (fun again1 s2 w3 =>
    cnd (decide (s2 < (p0.len : Int))) (
      idxP s2 p0.len (
        onSome p0.a fun A4 =>
        ldA [.int .i64, .int .i64, .int .i64, .bool] (A4.add (Int.toNat s2 * 4)) w3 fun c5 =>
        callV Tryz.prog s #[(.agg #[(.int .i64 c5.1), (.int .i64 c5.2.1), (.int .i64 c5.2.2.1), (.bool c5.2.2.2)])] [.one .bool] w3 fun r6 w7 =>
        cnd r6 (
          K s2 w7) (
          again1 (w64 (s2 + 1)) w7))) (
      K (-1) w3)) 0 w
def an171 : List An := [
  .reg ⟨[], .done, []⟩,
  .reg ⟨[], .done, []⟩,
  .nop,
  .nop,
  .loop [(8, .one (.int .i64))] [4, 5, 9, 10, 11, 12, 13, 14, 15, 16, 17, 18],
  .reg ⟨[], .done, []⟩,
  .nop,
  .nop,
  .reg ⟨[], .done, []⟩,
  .reg ⟨[(5, [.one .bool])], .done, []⟩,
  .nop,
  .reg ⟨[], .done, []⟩,
  .reg ⟨[], .done, []⟩,
  .reg ⟨[], .done, []⟩]
theorem slices_IndexFunc_171_of (p0 : Sl) (s : Value) (w : World) (K : Tup [.one (.int .i64)] → World → Prop) (hF_ : F171 p0 s w K) : slices_IndexFunc_171 p0 s w K :=
  call_of_F (l := an171) (args := [Ty.mk (.one .slice) p0, Ty.mk (.one .any) s]) follows tabOk Tryz.func171 (by kernel_rfl) (by kernel_rfl) (by kernel_rfl) hF_

/-- (*purlin/table.Table).Open$1 -/
def F172 (s : Carr [.int .i64, .int .i64, .int .i64, .bool]) (w : World) (K : Tup [.one .bool] → World → Prop) : Prop :=
  newP (.cells #[(.int .i64 s.1), (.int .i64 s.2.1), (.int .i64 s.2.2.1), (.bool s.2.2.2)] 142) w fun b1 w2 =>
  ldP (.bool) ⟨b1, 3, none⟩ w2 fun x3 =>
  K (!x3) w2
def an172 : List An := [
  .reg ⟨[], .done, []⟩,
  .reg ⟨[], .done, []⟩]
theorem table_Table_Open_1_172_of (s : Carr [.int .i64, .int .i64, .int .i64, .bool]) (w : World) (K : Tup [.one .bool] → World → Prop) (hF_ : F172 s w K) : table_Table_Open_1_172 s w K :=
  call_of_F (l := an172) (args := [Ty.mk (.agg [.int .i64, .int .i64, .int .i64, .bool]) s]) follows tabOk Tryz.func172 (by kernel_rfl) (by kernel_rfl) (by kernel_rfl) hF_

/-- (*purlin/table.Table).at -/
def F173 (t : Option Addr) (fd : Int) (w : World) (K : Tup [.one .ptr, .one (.int .i64)] → World → Prop) : Prop :=
  cnd (Option.isNone t) (
    K (none, 1) w) (
    joinP (σ := Tup [.one .bool]) (fun J1 =>
      cnd (decide (fd < 0)) (
        J1 true w) (
        cnd (decide (fd ≥ 16)) (
          J1 true w) (
          onSome t fun A4 =>
          idxP fd 16 (
            ldP (.bool) ((A4.add (Int.toNat fd * 4)).add 3) w fun x5 =>
            J1 (!x5) w)))) (fun s2 w3 =>
    cnd s2 (
      K (none, 10) w3) (
      onSome t fun A6 =>
      idxP fd 16 (
        K ((some (A6.add (Int.toNat fd * 4))), 0) w3))))
def an173 : List An := [
  .reg ⟨[], .done, []⟩,
  .nop,
  .reg ⟨[], .done, []⟩,
  .nop,
  .reg ⟨[], .done, []⟩,
  .join [(9, .one .bool)] [10, 11, 12, 13, 14, 15, 16, 17, 18, 19, 20, 21, 22, 23, 24, 25],
  .reg ⟨[], .done, []⟩,
  .nop,
  .reg ⟨[], .done, []⟩,
  .reg ⟨[], .done, []⟩]
theorem table_Table_at_173_of (t : Option Addr) (fd : Int) (w : World) (K : Tup [.one .ptr, .one (.int .i64)] → World → Prop) (hF_ : F173 t fd w K) : table_Table_at_173 t fd w K :=
  call_of_F (l := an173) (args := [Ty.mk (.one .ptr) t, Ty.mk (.one (.int .i64)) fd]) follows tabOk Tryz.func173 (by kernel_rfl) (by kernel_rfl) (by kernel_rfl) hF_

/-- (*purlin/table.Table).Holds -/
def F174 (t : Option Addr) (node : Int) (w : World) (K : Tup [.one .bool] → World → Prop) : Prop :=
  newP (.cells #[(.int .i64 node)] 3) w fun b1 w2 =>
  cnd (!(Option.isNone t)) (
    onSome t fun A3 =>
    slcP ⟨some A3, 16, 16⟩ 0 none 4 fun s4 =>
    slices_ContainsFunc_208 s4 (.func (.func 209) #[] #[(.pointer (some ⟨b1, 0, none⟩))]) w2 fun r5 w6 =>
    K r5 w6) (
    K false w2)
def an174 : List An := [
  .reg ⟨[], .done, []⟩,
  .reg ⟨[(8, [.one .bool])], .done, []⟩]
theorem table_Table_Holds_174_of (t : Option Addr) (node : Int) (w : World) (K : Tup [.one .bool] → World → Prop) (hF_ : F174 t node w K) : table_Table_Holds_174 t node w K :=
  call_of_F (l := an174) (args := [Ty.mk (.one .ptr) t, Ty.mk (.one (.int .i64)) node]) follows tabOk Tryz.func174 (by kernel_rfl) (by kernel_rfl) (by kernel_rfl) hF_

/-- purlin/path.parts -/
def F176 (s : ByteArray) (w : World) (K : Tup [.one .slice, .one .bool] → World → Prop) : Prop :=
  strings_Split_211 s (⟨#[47]⟩ : ByteArray) w fun r1 w2 =>
  loopP (σ := Tup [.one .slice, .one (.int .i64)]) (fun again3 s4 w5 =>
    cnd (decide (s4.2 < (r1.len : Int))) (
      idxP s4.2 r1.len (
        onSome r1.a fun A6 =>
        ldP (.str) (A6.add (Int.toNat s4.2 * 1)) w5 fun x7 =>
        joinP (σ := Tup [.one .bool]) (fun J8 =>
          cnd (x7.toList == (⟨#[]⟩ : ByteArray).toList) (
            J8 true w5) (
            J8 (x7.toList == (⟨#[46]⟩ : ByteArray).toList) w5)) (fun s9 w10 =>
        cnd s9 (
          again3 (s4.1, (w64 (s4.2 + 1))) w10) (
          cnd (decide ((x7.size : Int) > 24)) (
            K (⟨none, 0, 0⟩, false) w10) (
            strings_Clone_212 x7 w10 fun r11 w12 =>
            newP (.cells #[(.string r11)] 9) w12 fun b13 w14 =>
            runP Tryz.prog (Builtin.append_ #[41, 41] 41 #[(.slice s4.1.a s4.1.len s4.1.cap), (.slice (some ⟨b13, 0, none⟩) 1 1)]) [.one .slice] w14 fun c15 w16 =>
            again3 (c15, (w64 (s4.2 + 1))) w16))))) (
      K (s4.1, (decide ((s4.1.len : Int) ≤ 20))) w5)) (⟨none, 0, 0⟩, 0) w2
def an176 : List An := [
  .reg ⟨[], .done, []⟩,
  .reg ⟨[], .done, []⟩,
  .reg ⟨[(1, [.one .slice])], .done, []⟩,
  .nop,
  .nop,
  .loop [(4, .one .slice), (10, .one (.int .i64))] [2, 3, 6, 11, 12, 13, 14, 15, 16, 17, 18, 19, 20, 21, 22, 23, 24, 25, 26, 27, 28, 29, 30],
  .reg ⟨[], .done, []⟩,
  .nop,
  .nop,
  .reg ⟨[], .done, []⟩,
  .nop,
  .join [(14, .one .bool)] [15, 16, 17, 18, 19, 20],
  .reg ⟨[], .done, []⟩,
  .nop,
  .reg ⟨[], .done, []⟩,
  .nop,
  .reg ⟨[], .done, []⟩,
  .reg ⟨[(2, [.one .str]), (4, [.one .slice])], .done, []⟩,
  .reg ⟨[], .done, []⟩,
  .reg ⟨[], .done, []⟩]
theorem path_parts_176_of (s : ByteArray) (w : World) (K : Tup [.one .slice, .one .bool] → World → Prop) (hF_ : F176 s w K) : path_parts_176 s w K :=
  call_of_F (l := an176) (args := [Ty.mk (.one .str) s]) follows tabOk Tryz.func176 (by kernel_rfl) (by kernel_rfl) (by kernel_rfl) hF_

/-- purlin/path.Join -/
def F181 (parts : Sl) (w : World) (K : Tup [.one .str] → World → Prop) : Prop :=
  strings_Join_216 parts (⟨#[47]⟩ : ByteArray) w fun r1 w2 =>
  (((⟨#[47]⟩ : ByteArray).size + r1.size : Nat) : Int) ≤ IntKind.i64.max ∧
  K ((⟨#[47]⟩ : ByteArray) ++ r1) w2
def an181 : List An := [
  .reg ⟨[], .done, []⟩,
  .reg ⟨[(1, [.one .str])], .done, []⟩]
theorem path_Join_181_of (parts : Sl) (w : World) (K : Tup [.one .str] → World → Prop) (hF_ : F181 parts w K) : path_Join_181 parts w K :=
  call_of_F (l := an181) (args := [Ty.mk (.one .slice) parts]) follows tabOk Tryz.func181 (by kernel_rfl) (by kernel_rfl) (by kernel_rfl) hF_

/-- slices.Reverse[[]string,string] -/
def F183 (p0 : Sl) (w : World) (K : Tup [] → World → Prop) : Prop :=
  loopP (σ := Tup [.one (.int .i64), .one (.int .i64)]) (fun again1 s2 w3 =>
    cnd (decide (s2.1 < s2.2)) (
      idxP s2.2 p0.len (
        onSome p0.a fun A4 =>
        ldP (.str) (A4.add (Int.toNat s2.2 * 1)) w3.drew fun x5 =>
        idxP s2.1 p0.len (
          onSome p0.a fun A6 =>
          ldP (.str) (A6.add (Int.toNat s2.1 * 1)) w3.drew fun x7 =>
          idxP s2.1 p0.len (
            onSome p0.a fun A8 =>
            stP (A8.add (Int.toNat s2.1 * 1)) (.string x5) w3.drew fun w9 =>
            idxP s2.2 p0.len (
              onSome p0.a fun A10 =>
              stP (A10.add (Int.toNat s2.2 * 1)) (.string x7) w9 fun w11 =>
              again1 ((w64 (s2.1 + 1)), (w64 (s2.2 - 1))) w11))))) (
      K () w3)) (0, (w64 ((p0.len : Int) - 1))) w
def an183 : List An := [
  .reg ⟨[], .done, []⟩,
  .nop,
  .nop,
  .loop [(2, .one (.int .i64)), (3, .one (.int .i64))] [7, 8, 9, 10, 11, 12, 13, 14, 15, 16, 17, 18, 19, 20, 21, 22, 23, 24, 25, 26, 27],
  .reg ⟨[], .done, []⟩,
  .nop,
  .nop,
  .reg ⟨[], (.nop 0 0 (.nop 1 0 (.nop 2 0 (.nop 3 0 (.nop 4 0 (.nop 5 0 (.nop 6 48 (.nop 7 112 (.nop 8 0 (.nop 9 0 (.nop 10 768 (.nop 11 1792 (.nop 12 4083 (.bar 13 8179 (.nop 14 16383 (.bar 15 32767 .done .none)) .none)))))))))))))), []⟩,
  .reg ⟨[], .done, []⟩]
theorem slices_Reverse_183_of (p0 : Sl) (w : World) (K : Tup [] → World → Prop) (hF_ : F183 p0 w K) : slices_Reverse_183 p0 w K :=
  call_of_F (l := an183) (args := [Ty.mk (.one .slice) p0]) follows tabOk Tryz.func183 (by kernel_rfl) (by kernel_rfl) (by kernel_rfl) hF_

/-- slices.insertionSortCmpFunc[purlin/api.Node] -/
def F188 (p0 : Sl) (data : Int) (a : Int) (b : Value) (w : World) (K : Tup [] → World → Prop) : Prop :=
  loopP (σ := Tup [.one (.int .i64)]) (fun again1 s2 w3 =>
    cnd (decide (s2 < a)) (
      loopP (σ := Tup [.one (.int .i64)]) (fun again4 s5 w6 =>
        joinP (σ := Tup [.one .bool]) (fun J7 =>
          cnd (decide (s5 > data)) (
            idxP s5 p0.len (
              onSome p0.a fun A10 =>
              ldA [.str, .int .i64, .int .i64, .int .i64, .slice] (A10.add (Int.toNat s5 * 5)) w6.drew fun c11 =>
              idxP (w64 (s5 - 1)) p0.len (
                onSome p0.a fun A12 =>
                ldA [.str, .int .i64, .int .i64, .int .i64, .slice] (A12.add (Int.toNat (w64 (s5 - 1)) * 5)) w6.drew fun c13 =>
                callV Tryz.prog b #[(.agg #[(.string c11.1), (.int .i64 c11.2.1), (.int .i64 c11.2.2.1), (.int .i64 c11.2.2.2.1), (.slice c11.2.2.2.2.a c11.2.2.2.2.len c11.2.2.2.2.cap)]), (.agg #[(.string c13.1), (.int .i64 c13.2.1), (.int .i64 c13.2.2.1), (.int .i64 c13.2.2.2.1), (.slice c13.2.2.2.2.a c13.2.2.2.2.len c13.2.2.2.2.cap)])] [.one (.int .i64)] w6.drew fun r14 w15 =>
                J7 (decide (r14 < 0)) w15))) (
            J7 false w6.drew)) (fun s8 w9 =>
        cnd s8 (
          idxP (w64 (s5 - 1)) p0.len (
            onSome p0.a fun A16 =>
            ldA [.str, .int .i64, .int .i64, .int .i64, .slice] (A16.add (Int.toNat (w64 (s5 - 1)) * 5)) w9.drew fun c17 =>
            idxP s5 p0.len (
              onSome p0.a fun A18 =>
              ldA [.str, .int .i64, .int .i64, .int .i64, .slice] (A18.add (Int.toNat s5 * 5)) w9.drew fun c19 =>
              idxP s5 p0.len (
                onSome p0.a fun A20 =>
                stN (A20.add (Int.toNat s5 * 5)) [(.string c17.1), (.int .i64 c17.2.1), (.int .i64 c17.2.2.1), (.int .i64 c17.2.2.2.1), (.slice c17.2.2.2.2.a c17.2.2.2.2.len c17.2.2.2.2.cap)] w9.drew fun w21 =>
                idxP (w64 (s5 - 1)) p0.len (
                  onSome p0.a fun A22 =>
                  stN (A22.add (Int.toNat (w64 (s5 - 1)) * 5)) [(.string c19.1), (.int .i64 c19.2.1), (.int .i64 c19.2.2.1), (.int .i64 c19.2.2.2.1), (.slice c19.2.2.2.2.a c19.2.2.2.2.len c19.2.2.2.2.cap)] w21 fun w23 =>
                  again4 (w64 (s5 - 1)) w23))))) (
          again1 (w64 (s2 + 1)) w9))) s2 w3) (
      K () w3)) (w64 (data + 1)) w
def an188 : List An := [
  .reg ⟨[], .done, []⟩,
  .nop,
  .nop,
  .loop [(8, .one (.int .i64))] [9, 12, 13, 14, 15, 16, 17, 18, 19, 20, 21, 22, 23, 24, 25, 26, 27, 28, 29, 30, 31, 32, 33, 34, 35, 36, 37, 38, 39, 40, 41, 42, 43, 44, 45, 46, 47, 48, 49, 50, 51, 52],
  .reg ⟨[], .done, []⟩,
  .nop,
  .nop,
  .reg ⟨[], .done, []⟩,
  .nop,
  .nop,
  .loop [(9, .one (.int .i64))] [18, 19, 20, 21, 22, 23, 24, 25, 26, 27, 28, 29, 30, 31, 32, 33, 34, 35, 36, 37, 38, 39, 40, 41, 42, 43, 44, 45, 46, 47, 48, 49, 50, 51, 52],
  .join [(34, .one .bool)] [18, 19, 20, 21, 22, 23, 24, 25, 26, 27, 28, 29, 30, 31, 32, 33],
  .reg ⟨[(14, [.one (.int .i64)])], (.nop 0 0 (.nop 1 0 (.nop 2 3 (.nop 3 7 (.nop 4 15 (.nop 5 15 (.nop 6 15 (.nop 7 111 (.nop 8 239 (.nop 9 15 (.nop 10 15 (.nop 11 1039 (.nop 12 3599 (.nop 13 7695 (.bar 14 16383 (.nop 15 32767 (.nop 16 65535 .done)) .none))))))))))))))), []⟩,
  .nop,
  .nop,
  .reg ⟨[], (.nop 0 0 (.nop 1 0 (.nop 2 0 (.nop 3 0 (.nop 4 8 (.nop 5 0 (.nop 6 0 (.nop 7 64 (.nop 8 224 (.nop 9 480 (.nop 10 0 (.nop 11 0 (.nop 12 3072 (.nop 13 7168 (.nop 14 16355 (.bar 15 32739 (.nop 16 65535 (.bar 17 131071 .done .none)) .none)))))))))))))))), []⟩,
  .reg ⟨[], .done, []⟩,
  .reg ⟨[], .done, []⟩]
theorem slices_insertionSortCmpFunc_188_of (p0 : Sl) (data : Int) (a : Int) (b : Value) (w : World) (K : Tup [] → World → Prop) (hF_ : F188 p0 data a b w K) : slices_insertionSortCmpFunc_188 p0 data a b w K :=
  call_of_F (l := an188) (args := [Ty.mk (.one .slice) p0, Ty.mk (.one (.int .i64)) data, Ty.mk (.one (.int .i64)) a, Ty.mk (.one .any) b]) follows tabOk Tryz.func188 (by kernel_rfl) (by kernel_rfl) (by kernel_rfl) hF_

end Go.Proofs.YtcpoglgnkedpaaaGreatDoor

/-
  What the functions' bodies ask (printed by vcgen.py).
-/
namespace Go.Proofs.YtcpoglgnkedpaaaGreatDoor
open Go Go.Vc Go.Proofs


/-- (*purlin/tree.Tree).fresh -/
def F77 (t : Option Addr) (p : ByteArray) (w : World) (K : Tup [.agg [.int .i64, .int .i64, .str], .one (.int .i64)] → World → Prop) : Prop :=
  newP (.cells #[(.int .i64 0), (.int .i64 0), (.string (⟨#[]⟩ : ByteArray))] 151) w fun b1 w2 =>
  tree_Tree_place_129 t p w2 fun r3 w4 =>
  newP (.cells #[(.int .i64 0), (.int .i64 0), (.string (⟨#[]⟩ : ByteArray))] 151) w4 fun b5 w6 =>
  stN ⟨b5, 0, none⟩ [(.int .i64 r3.1.1), (.int .i64 r3.1.2.1), (.string r3.1.2.2)] w6 fun w7 =>
  cnd (r3.2 != 0) (
    stN ⟨b1, 0, none⟩ [(.int .i64 0), (.int .i64 0), (.string (⟨#[]⟩ : ByteArray))] w7 fun w8 =>
    ldA [.int .i64, .int .i64, .str] ⟨b1, 0, none⟩ w8 fun c9 =>
    K ((c9.1, c9.2.1, c9.2.2), r3.2) w8) (
    ldP (.int .i64) ⟨b5, 0, none⟩ w7 fun x10 =>
    cnd (x10 != 0) (
      stN ⟨b1, 0, none⟩ [(.int .i64 0), (.int .i64 0), (.string (⟨#[]⟩ : ByteArray))] w7 fun w11 =>
      ldA [.int .i64, .int .i64, .str] ⟨b1, 0, none⟩ w11 fun c12 =>
      K ((c12.1, c12.2.1, c12.2.2), 6) w11) (
      ldA [.int .i64, .int .i64, .str] ⟨b5, 0, none⟩ w7 fun c13 =>
      stN ⟨b1, 0, none⟩ [(.int .i64 c13.1), (.int .i64 c13.2.1), (.string c13.2.2)] w7 fun w14 =>
      ldA [.int .i64, .int .i64, .str] ⟨b1, 0, none⟩ w14 fun c15 =>
      K ((c15.1, c15.2.1, c15.2.2), 0) w14))
def an77 : List An := [
  .reg ⟨[], .done, []⟩,
  .reg ⟨[(2, [.agg [.int .i64, .int .i64, .str], .one (.int .i64)])], .done, []⟩,
  .nop,
  .reg ⟨[], .done, []⟩,
  .nop,
  .reg ⟨[], .done, []⟩,
  .reg ⟨[], .done, []⟩,
  .nop,
  .reg ⟨[], .done, []⟩,
  .reg ⟨[], .done, []⟩]
theorem tree_Tree_fresh_77_of (t : Option Addr) (p : ByteArray) (w : World) (K : Tup [.agg [.int .i64, .int .i64, .str], .one (.int .i64)] → World → Prop) (hF_ : F77 t p w K) : tree_Tree_fresh_77 t p w K :=
  call_of_F (l := an77) (args := [Ty.mk (.one .ptr) t, Ty.mk (.one .str) p]) follows tabOk Tryz.func77 (by kernel_rfl) (by kernel_rfl) (by kernel_rfl) hF_

/-- (*purlin/tree.Tree).make -/
def F78 (t : Option Addr) (s : Carr [.int .i64, .int .i64, .str]) (kind : Int) (data : ByteArray) (w : World) (K : Tup [.one (.int .i64)] → World → Prop) : Prop :=
  newP (.cells #[(.int .i64 s.1), (.int .i64 s.2.1), (.string s.2.2)] 151) w fun b1 w2 =>
  onSome t fun A3 =>
  ldP (.int .i64) (A3.add 1) w2 fun x4 =>
  onSome t fun A5 =>
  stP (A5.add 1) (.int .i64 (w64 (x4 + 1))) w2 fun w6 =>
  newP (.cells #[(.int .i64 kind), (.slice none 0 0), (.slice none 0 0), (.map none), (.int .i64 0), (.int .i64 0), (.int .i64 0)] 126) w6 fun b7 w8 =>
  joinP (σ := Tup []) (fun J9 =>
    joinP (σ := Tup []) (fun J12 =>
      cnd (kind == 2) (
        newP (.map #[] 0) w8 fun b15 w16 =>
        stP ⟨b7, 3, none⟩ (.map (some b15)) w16 fun w17 =>
        J12 () w17) (
        joinP (σ := Tup []) (fun J18 =>
          cnd (kind == 3) (
            runP Tryz.prog (convert 9 22 (.string data)) [.one .slice] w8 fun c21 w22 =>
            stP ⟨b7, 1, none⟩ (.slice c21.a c21.len c21.cap) w22 fun w23 =>
            J18 () w23) (
            J18 () w8)) (fun _s19 w20 =>
        J12 () w20))) (fun _s13 w14 =>
    J9 () w14)) (fun _s10 w11 =>
  onSome t fun A24 =>
  ldP (.map) A24 w11.drew fun x25 =>
  onSome t fun A26 =>
  ldP (.int .i64) (A26.add 1) w11.drew fun x27 =>
  runU Tryz.prog (Instr.mapUpdate 127 (.map x25) (.int .i64 x27) (.pointer (some ⟨b7, 0, none⟩))) w11.drew fun w28 =>
  ldP (.int .i64) ⟨b1, 1, none⟩ w28.drew fun x29 =>
  ldP (.str) ⟨b1, 2, none⟩ w28.drew fun x30 =>
  onSome t fun A31 =>
  ldP (.int .i64) (A31.add 1) w28.drew fun x32 =>
  tree_Tree_add_137 t x29 x30 x32 w28.drew fun _r33 w34 =>
  onSome t fun A35 =>
  ldP (.int .i64) (A35.add 1) w34 fun x36 =>
  K x36 w34)
def an78 : List An := [
  .reg ⟨[], .done, []⟩,
  .reg ⟨[], .done, []⟩,
  .reg ⟨[], .done, []⟩,
  .reg ⟨[], .done, []⟩,
  .join [] [21, 22, 23, 24, 25, 26, 27, 28, 29, 30, 31, 32, 33],
  .reg ⟨[], .done, []⟩,
  .join [] [23, 24, 25, 26, 27, 28, 29, 30, 31, 32, 33],
  .reg ⟨[], .done, []⟩,
  .reg ⟨[], .done, []⟩,
  .join [] [29, 30, 31, 32, 33],
  .reg ⟨[], .done, []⟩,
  .reg ⟨[], (.nop 0 0 (.nop 1 1 (.nop 2 3 (.nop 3 7 (.nop 4 0 (.nop 5 16 (.nop 6 48 (.nop 7 112 (.nop 8 0 (.bar 9 511 .done .none)))))))))), []⟩,
  .reg ⟨[(9, [])], (.nop 0 0 (.nop 1 0 (.nop 2 2 (.nop 3 0 (.nop 4 8 (.nop 5 0 (.nop 6 32 (.nop 7 96 (.nop 8 224 (.bar 9 511 .done .none)))))))))), []⟩,
  .reg ⟨[], .done, []⟩]
theorem tree_Tree_make_78_of (t : Option Addr) (s : Carr [.int .i64, .int .i64, .str]) (kind : Int) (data : ByteArray) (w : World) (K : Tup [.one (.int .i64)] → World → Prop) (hF_ : F78 t s kind data w K) : tree_Tree_make_78 t s kind data w K :=
  call_of_F (l := an78) (args := [Ty.mk (.one .ptr) t, Ty.mk (.agg [.int .i64, .int .i64, .str]) s, Ty.mk (.one (.int .i64)) kind, Ty.mk (.one .str) data]) follows tabOk Tryz.func78 (by kernel_rfl) (by kernel_rfl) (by kernel_rfl) hF_

/-- (*purlin/tree.Tree).remove -/
def F79 (t : Option Addr) (o : Carr [.int .i64, .int .i64, .int .i64, .int .i64, .int .i64, .str, .str, .slice]) (w : World) (K : Tup [.agg [.int .i64, .int .i64, .int .i64, .int .i64, .slice, .slice]] → World → Prop) : Prop :=
  newP (.cells #[(.int .i64 o.1), (.int .i64 o.2.1), (.int .i64 o.2.2.1), (.int .i64 o.2.2.2.1), (.int .i64 o.2.2.2.2.1), (.string o.2.2.2.2.2.1), (.string o.2.2.2.2.2.2.1), (.slice o.2.2.2.2.2.2.2.a o.2.2.2.2.2.2.2.len o.2.2.2.2.2.2.2.cap)] 28) w fun b1 w2 =>
  newP (.cells #[(.int .i64 0), (.int .i64 0), (.int .i64 0), (.int .i64 0), (.slice none 0 0), (.slice none 0 0)] 43) w2 fun b3 w4 =>
  ldP (.str) ⟨b1, 5, none⟩ w4 fun x5 =>
  tree_Tree_place_129 t x5 w4 fun r6 w7 =>
  newP (.cells #[(.int .i64 0), (.int .i64 0), (.string (⟨#[]⟩ : ByteArray))] 151) w7 fun b8 w9 =>
  stN ⟨b8, 0, none⟩ [(.int .i64 r6.1.1), (.int .i64 r6.1.2.1), (.string r6.1.2.2)] w9 fun w10 =>
  cnd (r6.2 != 0) (
    tree_code_70 r6.2 w10 fun r11 w12 =>
    stN ⟨b3, 0, none⟩ [(.int .i64 r11.1), (.int .i64 r11.2.1), (.int .i64 r11.2.2.1), (.int .i64 r11.2.2.2.1), (.slice r11.2.2.2.2.1.a r11.2.2.2.2.1.len r11.2.2.2.2.1.cap), (.slice r11.2.2.2.2.2.a r11.2.2.2.2.2.len r11.2.2.2.2.2.cap)] w12 fun w13 =>
    ldA [.int .i64, .int .i64, .int .i64, .int .i64, .slice, .slice] ⟨b3, 0, none⟩ w13 fun c14 =>
    K (c14.1, c14.2.1, c14.2.2.1, c14.2.2.2.1, c14.2.2.2.2.1, c14.2.2.2.2.2) w13) (
    ldP (.int .i64) ⟨b8, 0, none⟩ w10 fun x15 =>
    cnd (x15 == 0) (
      tree_code_70 5 w10 fun r16 w17 =>
      stN ⟨b3, 0, none⟩ [(.int .i64 r16.1), (.int .i64 r16.2.1), (.int .i64 r16.2.2.1), (.int .i64 r16.2.2.2.1), (.slice r16.2.2.2.2.1.a r16.2.2.2.2.1.len r16.2.2.2.2.1.cap), (.slice r16.2.2.2.2.2.a r16.2.2.2.2.2.len r16.2.2.2.2.2.cap)] w17 fun w18 =>
      ldA [.int .i64, .int .i64, .int .i64, .int .i64, .slice, .slice] ⟨b3, 0, none⟩ w18 fun c19 =>
      K (c19.1, c19.2.1, c19.2.2.1, c19.2.2.2.1, c19.2.2.2.2.1, c19.2.2.2.2.2) w18) (
      onSome t fun A20 =>
      ldP (.map) A20 w10.drew fun x21 =>
      ldP (.int .i64) ⟨b8, 0, none⟩ w10.drew fun x22 =>
      rdP Tryz.prog (Instr.lookup 127 (.map x21) (.int .i64 x22) false) [.one .ptr] w10.drew fun c23 =>
      joinP (σ := Tup [.one .bool]) (fun J24 =>
        ldP (.int .i64) ⟨b1, 0, none⟩ w10.drew fun x27 =>
        cnd (x27 == 10) (
          onSome c23 fun A28 =>
          ldP (.int .i64) A28 w10.drew fun x29 =>
          J24 (x29 != 2) w10.drew) (
          J24 false w10.drew)) (fun s25 w26 =>
      cnd s25 (
        tree_code_70 7 w26 fun r30 w31 =>
        stN ⟨b3, 0, none⟩ [(.int .i64 r30.1), (.int .i64 r30.2.1), (.int .i64 r30.2.2.1), (.int .i64 r30.2.2.2.1), (.slice r30.2.2.2.2.1.a r30.2.2.2.2.1.len r30.2.2.2.2.1.cap), (.slice r30.2.2.2.2.2.a r30.2.2.2.2.2.len r30.2.2.2.2.2.cap)] w31 fun w32 =>
        ldA [.int .i64, .int .i64, .int .i64, .int .i64, .slice, .slice] ⟨b3, 0, none⟩ w32 fun c33 =>
        K (c33.1, c33.2.1, c33.2.2.1, c33.2.2.2.1, c33.2.2.2.2.1, c33.2.2.2.2.2) w32) (
        joinP (σ := Tup [.one .bool]) (fun J34 =>
          ldP (.int .i64) ⟨b1, 0, none⟩ w26 fun x37 =>
          cnd (x37 == 10) (
            onSome c23 fun A38 =>
            ldP (.map) (A38.add 3) w26 fun x39 =>
            rdP Tryz.prog (Builtin.len_ #[66] 3 #[(.map x39)]) [.one (.int .i64)] w26 fun c40 =>
            J34 (decide (c40 > 0)) w26) (
            J34 false w26)) (fun s35 w36 =>
        cnd s35 (
          tree_code_70 9 w36 fun r41 w42 =>
          stN ⟨b3, 0, none⟩ [(.int .i64 r41.1), (.int .i64 r41.2.1), (.int .i64 r41.2.2.1), (.int .i64 r41.2.2.2.1), (.slice r41.2.2.2.2.1.a r41.2.2.2.2.1.len r41.2.2.2.2.1.cap), (.slice r41.2.2.2.2.2.a r41.2.2.2.2.2.len r41.2.2.2.2.2.cap)] w42 fun w43 =>
          ldA [.int .i64, .int .i64, .int .i64, .int .i64, .slice, .slice] ⟨b3, 0, none⟩ w43 fun c44 =>
          K (c44.1, c44.2.1, c44.2.2.1, c44.2.2.2.1, c44.2.2.2.2.1, c44.2.2.2.2.2) w43) (
          ldP (.int .i64) ⟨b1, 0, none⟩ w36 fun x45 =>
          cnd (x45 == 11) (
            onSome c23 fun A46 =>
            ldP (.int .i64) A46 w36 fun x47 =>
            cnd (x47 == 2) (
              tree_code_70 8 w36 fun r48 w49 =>
              stN ⟨b3, 0, none⟩ [(.int .i64 r48.1), (.int .i64 r48.2.1), (.int .i64 r48.2.2.1), (.int .i64 r48.2.2.2.1), (.slice r48.2.2.2.2.1.a r48.2.2.2.2.1.len r48.2.2.2.2.1.cap), (.slice r48.2.2.2.2.2.a r48.2.2.2.2.2.len r48.2.2.2.2.2.cap)] w49 fun w50 =>
              ldA [.int .i64, .int .i64, .int .i64, .int .i64, .slice, .slice] ⟨b3, 0, none⟩ w50 fun c51 =>
              K (c51.1, c51.2.1, c51.2.2.1, c51.2.2.2.1, c51.2.2.2.2.1, c51.2.2.2.2.2) w50) (
              ldP (.int .i64) ⟨b8, 1, none⟩ w36 fun x52 =>
              ldP (.str) ⟨b8, 2, none⟩ w36 fun x53 =>
              tree_Tree_take_138 t x52 x53 w36 fun _r54 w55 =>
              stN ⟨b3, 0, none⟩ [(.int .i64 0), (.int .i64 0), (.int .i64 0), (.int .i64 0), (.slice none 0 0), (.slice none 0 0)] w55 fun w56 =>
              ldA [.int .i64, .int .i64, .int .i64, .int .i64, .slice, .slice] ⟨b3, 0, none⟩ w56 fun c57 =>
              K (c57.1, c57.2.1, c57.2.2.1, c57.2.2.2.1, c57.2.2.2.2.1, c57.2.2.2.2.2) w56)) (
            ldP (.int .i64) ⟨b8, 1, none⟩ w36 fun x58 =>
            ldP (.str) ⟨b8, 2, none⟩ w36 fun x59 =>
            tree_Tree_take_138 t x58 x59 w36 fun _r60 w61 =>
            stN ⟨b3, 0, none⟩ [(.int .i64 0), (.int .i64 0), (.int .i64 0), (.int .i64 0), (.slice none 0 0), (.slice none 0 0)] w61 fun w62 =>
            ldA [.int .i64, .int .i64, .int .i64, .int .i64, .slice, .slice] ⟨b3, 0, none⟩ w62 fun c63 =>
            K (c63.1, c63.2.1, c63.2.2.1, c63.2.2.2.1, c63.2.2.2.2.1, c63.2.2.2.2.2) w62)))))))
def an79 : List An := [
  .reg ⟨[], .done, []⟩,
  .reg ⟨[(3, [.agg [.int .i64, .int .i64, .str], .one (.int .i64)])], .done, []⟩,
  .reg ⟨[], .done, []⟩,
  .nop,
  .reg ⟨[(1, [.agg [.int .i64, .int .i64, .int .i64, .int .i64, .slice, .slice]])], .done, []⟩,
  .reg ⟨[], .done, []⟩,
  .nop,
  .reg ⟨[(0, [.agg [.int .i64, .int .i64, .int .i64, .int .i64, .slice, .slice]])], .done, []⟩,
  .reg ⟨[], (.nop 0 0 (.nop 1 1 (.nop 2 3 (.nop 3 7 (.nop 4 0 (.nop 5 16 (.nop 6 63 (.nop 7 127 .done)))))))), []⟩,
  .nop,
  .join [(30, .one .bool)] [31, 32, 33, 34, 35, 36, 37, 38, 39, 40],
  .reg ⟨[], .done, []⟩,
  .nop,
  .reg ⟨[(0, [.agg [.int .i64, .int .i64, .int .i64, .int .i64, .slice, .slice]])], .done, []⟩,
  .join [(42, .one .bool)] [43, 44, 45, 46, 47, 48, 49, 50, 51, 52, 53],
  .reg ⟨[], .done, []⟩,
  .nop,
  .reg ⟨[(0, [.agg [.int .i64, .int .i64, .int .i64, .int .i64, .slice, .slice]])], .done, []⟩,
  .reg ⟨[], .done, []⟩,
  .nop,
  .reg ⟨[(0, [.agg [.int .i64, .int .i64, .int .i64, .int .i64, .slice, .slice]])], .done, []⟩,
  .reg ⟨[(5, [])], .done, []⟩,
  .reg ⟨[], .done, []⟩]
theorem tree_Tree_remove_79_of (t : Option Addr) (o : Carr [.int .i64, .int .i64, .int .i64, .int .i64, .int .i64, .str, .str, .slice]) (w : World) (K : Tup [.agg [.int .i64, .int .i64, .int .i64, .int .i64, .slice, .slice]] → World → Prop) (hF_ : F79 t o w K) : tree_Tree_remove_79 t o w K :=
  call_of_F (l := an79) (args := [Ty.mk (.one .ptr) t, Ty.mk (.agg [.int .i64, .int .i64, .int .i64, .int .i64, .int .i64, .str, .str, .slice]) o]) follows tabOk Tryz.func79 (by kernel_rfl) (by kernel_rfl) (by kernel_rfl) hF_

/-- (*purlin/tree.Tree).link -/
def F80 (t : Option Addr) (o : Carr [.int .i64, .int .i64, .int .i64, .int .i64, .int .i64, .str, .str, .slice]) (w : World) (K : Tup [.agg [.int .i64, .int .i64, .int .i64, .int .i64, .slice, .slice]] → World → Prop) : Prop :=
  newP (.cells #[(.int .i64 o.1), (.int .i64 o.2.1), (.int .i64 o.2.2.1), (.int .i64 o.2.2.2.1), (.int .i64 o.2.2.2.2.1), (.string o.2.2.2.2.2.1), (.string o.2.2.2.2.2.2.1), (.slice o.2.2.2.2.2.2.2.a o.2.2.2.2.2.2.2.len o.2.2.2.2.2.2.2.cap)] 28) w fun b1 w2 =>
  newP (.cells #[(.int .i64 0), (.int .i64 0), (.int .i64 0), (.int .i64 0), (.slice none 0 0), (.slice none 0 0)] 43) w2 fun b3 w4 =>
  ldP (.str) ⟨b1, 5, none⟩ w4 fun x5 =>
  tree_Tree_find_91 t x5 false w4 fun r6 w7 =>
  newP (.cells #[(.int .i64 0), (.int .i64 0), (.string (⟨#[]⟩ : ByteArray))] 151) w7 fun b8 w9 =>
  stN ⟨b8, 0, none⟩ [(.int .i64 r6.1.1), (.int .i64 r6.1.2.1), (.string r6.1.2.2)] w9 fun w10 =>
  cnd (r6.2 != 0) (
    tree_code_70 r6.2 w10 fun r11 w12 =>
    stN ⟨b3, 0, none⟩ [(.int .i64 r11.1), (.int .i64 r11.2.1), (.int .i64 r11.2.2.1), (.int .i64 r11.2.2.2.1), (.slice r11.2.2.2.2.1.a r11.2.2.2.2.1.len r11.2.2.2.2.1.cap), (.slice r11.2.2.2.2.2.a r11.2.2.2.2.2.len r11.2.2.2.2.2.cap)] w12 fun w13 =>
    ldA [.int .i64, .int .i64, .int .i64, .int .i64, .slice, .slice] ⟨b3, 0, none⟩ w13 fun c14 =>
    K (c14.1, c14.2.1, c14.2.2.1, c14.2.2.2.1, c14.2.2.2.2.1, c14.2.2.2.2.2) w13) (
    onSome t fun A15 =>
    ldP (.map) A15 w10.drew fun x16 =>
    ldP (.int .i64) ⟨b8, 0, none⟩ w10.drew fun x17 =>
    rdP Tryz.prog (Instr.lookup 127 (.map x16) (.int .i64 x17) false) [.one .ptr] w10.drew fun c18 =>
    onSome c18 fun A19 =>
    ldP (.int .i64) A19 w10.drew fun x20 =>
    cnd (x20 == 2) (
      tree_code_70 16 w10.drew fun r21 w22 =>
      stN ⟨b3, 0, none⟩ [(.int .i64 r21.1), (.int .i64 r21.2.1), (.int .i64 r21.2.2.1), (.int .i64 r21.2.2.2.1), (.slice r21.2.2.2.2.1.a r21.2.2.2.2.1.len r21.2.2.2.2.1.cap), (.slice r21.2.2.2.2.2.a r21.2.2.2.2.2.len r21.2.2.2.2.2.cap)] w22 fun w23 =>
      ldA [.int .i64, .int .i64, .int .i64, .int .i64, .slice, .slice] ⟨b3, 0, none⟩ w23 fun c24 =>
      K (c24.1, c24.2.1, c24.2.2.1, c24.2.2.2.1, c24.2.2.2.2.1, c24.2.2.2.2.2) w23) (
      ldP (.str) ⟨b1, 6, none⟩ w10.drew fun x25 =>
      tree_Tree_fresh_77 t x25 w10.drew fun r26 w27 =>
      newP (.cells #[(.int .i64 0), (.int .i64 0), (.string (⟨#[]⟩ : ByteArray))] 151) w27 fun b28 w29 =>
      stN ⟨b28, 0, none⟩ [(.int .i64 r26.1.1), (.int .i64 r26.1.2.1), (.string r26.1.2.2)] w29 fun w30 =>
      cnd (r26.2 != 0) (
        tree_code_70 r26.2 w30 fun r31 w32 =>
        stN ⟨b3, 0, none⟩ [(.int .i64 r31.1), (.int .i64 r31.2.1), (.int .i64 r31.2.2.1), (.int .i64 r31.2.2.2.1), (.slice r31.2.2.2.2.1.a r31.2.2.2.2.1.len r31.2.2.2.2.1.cap), (.slice r31.2.2.2.2.2.a r31.2.2.2.2.2.len r31.2.2.2.2.2.cap)] w32 fun w33 =>
        ldA [.int .i64, .int .i64, .int .i64, .int .i64, .slice, .slice] ⟨b3, 0, none⟩ w33 fun c34 =>
        K (c34.1, c34.2.1, c34.2.2.1, c34.2.2.2.1, c34.2.2.2.2.1, c34.2.2.2.2.2) w33) (
        ldP (.int .i64) ⟨b28, 1, none⟩ w30 fun x35 =>
        ldP (.str) ⟨b28, 2, none⟩ w30 fun x36 =>
        ldP (.int .i64) ⟨b8, 0, none⟩ w30 fun x37 =>
        tree_Tree_add_137 t x35 x36 x37 w30 fun _r38 w39 =>
        stN ⟨b3, 0, none⟩ [(.int .i64 0), (.int .i64 0), (.int .i64 0), (.int .i64 0), (.slice none 0 0), (.slice none 0 0)] w39 fun w40 =>
        ldA [.int .i64, .int .i64, .int .i64, .int .i64, .slice, .slice] ⟨b3, 0, none⟩ w40 fun c41 =>
        K (c41.1, c41.2.1, c41.2.2.1, c41.2.2.2.1, c41.2.2.2.2.1, c41.2.2.2.2.2) w40)))
def an80 : List An := [
  .reg ⟨[], .done, []⟩,
  .reg ⟨[(3, [.agg [.int .i64, .int .i64, .str], .one (.int .i64)])], .done, []⟩,
  .nop,
  .reg ⟨[], .done, []⟩,
  .nop,
  .reg ⟨[(1, [.agg [.int .i64, .int .i64, .int .i64, .int .i64, .slice, .slice]])], .done, []⟩,
  .reg ⟨[], (.nop 0 0 (.nop 1 1 (.nop 2 3 (.nop 3 7 (.nop 4 0 (.nop 5 16 (.nop 6 63 (.nop 7 127 (.nop 8 255 (.nop 9 511 (.nop 10 1023 (.nop 11 2047 .done)))))))))))), []⟩,
  .nop,
  .reg ⟨[(0, [.agg [.int .i64, .int .i64, .int .i64, .int .i64, .slice, .slice]])], .done, []⟩,
  .reg ⟨[(3, [.agg [.int .i64, .int .i64, .str], .one (.int .i64)])], .done, []⟩,
  .reg ⟨[], .done, []⟩,
  .nop,
  .reg ⟨[(1, [.agg [.int .i64, .int .i64, .int .i64, .int .i64, .slice, .slice]])], .done, []⟩,
  .reg ⟨[(7, [])], .done, []⟩,
  .reg ⟨[], .done, []⟩]
theorem tree_Tree_link_80_of (t : Option Addr) (o : Carr [.int .i64, .int .i64, .int .i64, .int .i64, .int .i64, .str, .str, .slice]) (w : World) (K : Tup [.agg [.int .i64, .int .i64, .int .i64, .int .i64, .slice, .slice]] → World → Prop) (hF_ : F80 t o w K) : tree_Tree_link_80 t o w K :=
  call_of_F (l := an80) (args := [Ty.mk (.one .ptr) t, Ty.mk (.agg [.int .i64, .int .i64, .int .i64, .int .i64, .int .i64, .str, .str, .slice]) o]) follows tabOk Tryz.func80 (by kernel_rfl) (by kernel_rfl) (by kernel_rfl) hF_

end Go.Proofs.YtcpoglgnkedpaaaGreatDoor

/-
  What the functions' bodies ask (printed by vcgen.py).
-/
namespace Go.Proofs.YtcpoglgnkedpaaaGreatDoor
open Go Go.Vc Go.Proofs


/-- slices.ContainsFunc[[]purlin/table.slot,purlin/table.slot] -/
def F208 (p0 : Sl) (s : Value) (w : World) (K : Tup [.one .bool] → World → Prop) : Prop :=
  slices_IndexFunc_171 p0 s w fun r1 w2 =>
  K (decide (r1 ≥ 0)) w2
def an208 : List An := [
  .reg ⟨[], .done, []⟩,
  .reg ⟨[(2, [.one (.int .i64)])], .done, []⟩]
theorem slices_ContainsFunc_208_of (p0 : Sl) (s : Value) (w : World) (K : Tup [.one .bool] → World → Prop) (hF_ : F208 p0 s w K) : slices_ContainsFunc_208 p0 s w K :=
  call_of_F (l := an208) (args := [Ty.mk (.one .slice) p0, Ty.mk (.one .any) s]) follows tabOk Tryz.func208 (by kernel_rfl) (by kernel_rfl) (by kernel_rfl) hF_

/-- (*purlin/table.Table).Holds$1 -/
def F209 (s : Carr [.int .i64, .int .i64, .int .i64, .bool]) (p1 : Option Addr) (w : World) (K : Tup [.one .bool] → World → Prop) : Prop :=
  newP (.cells #[(.int .i64 s.1), (.int .i64 s.2.1), (.int .i64 s.2.2.1), (.bool s.2.2.2)] 142) w fun b1 w2 =>
  ldP (.bool) ⟨b1, 3, none⟩ w2 fun x3 =>
  cnd x3 (
    ldP (.int .i64) ⟨b1, 0, none⟩ w2 fun x4 =>
    onSome p1 fun A5 =>
    ldP (.int .i64) A5 w2 fun x6 =>
    K (x4 == x6) w2) (
    K false w2)
def an209 : List An := [
  .reg ⟨[], .done, []⟩,
  .reg ⟨[], .done, []⟩]
theorem table_Table_Holds_1_209_of (s : Carr [.int .i64, .int .i64, .int .i64, .bool]) (p1 : Option Addr) (w : World) (K : Tup [.one .bool] → World → Prop) (hF_ : F209 s p1 w K) : table_Table_Holds_1_209 s p1 w K :=
  call_of_F (l := an209) (args := [Ty.mk (.agg [.int .i64, .int .i64, .int .i64, .bool]) s, Ty.mk (.one .ptr) p1]) follows tabOk Tryz.func209 (by kernel_rfl) (by kernel_rfl) (by kernel_rfl) hF_

/-- strings.Split -/
def F211 (s : ByteArray) (sep : ByteArray) (w : World) (K : Tup [.one .slice] → World → Prop) : Prop :=
  strings_genSplit_228 s sep 0 (-1) w fun r1 w2 =>
  K r1 w2
def an211 : List An := [
  .reg ⟨[], .done, []⟩,
  .reg ⟨[(2, [.one .slice])], .done, []⟩]
theorem strings_Split_211_of (s : ByteArray) (sep : ByteArray) (w : World) (K : Tup [.one .slice] → World → Prop) (hF_ : F211 s sep w K) : strings_Split_211 s sep w K :=
  call_of_F (l := an211) (args := [Ty.mk (.one .str) s, Ty.mk (.one .str) sep]) follows tabOk Tryz.func211 (by kernel_rfl) (by kernel_rfl) (by kernel_rfl) hF_

/-- strings.Clone -/
def F212 (s : ByteArray) (w : World) (K : Tup [.one .str] → World → Prop) : Prop :=
  stringslite_Clone_229 s w fun r1 w2 =>
  K r1 w2
def an212 : List An := [
  .reg ⟨[], .done, []⟩,
  .reg ⟨[(1, [.one .str])], .done, []⟩]
theorem strings_Clone_212_of (s : ByteArray) (w : World) (K : Tup [.one .str] → World → Prop) (hF_ : F212 s w K) : strings_Clone_212 s w K :=
  call_of_F (l := an212) (args := [Ty.mk (.one .str) s]) follows tabOk Tryz.func212 (by kernel_rfl) (by kernel_rfl) (by kernel_rfl) hF_

/-- strings.genSplit -/
def F228 (s : ByteArray) (sep : ByteArray) (sepSave : Int) (n : Int) (w : World) (K : Tup [.one .slice] → World → Prop) : Prop :=
  cnd (n == 0) (
    K ⟨none, 0, 0⟩ w) (
    cnd (sep.toList == (⟨#[]⟩ : ByteArray).toList) (
      strings_explode_248 s n w fun r1 w2 =>
      K r1 w2) (
      joinP (σ := Tup [.one (.int .i64)]) (fun J3 =>
        cnd (decide (n < 0)) (
          strings_Count_249 s sep w fun r6 w7 =>
          J3 (w64 (r6 + 1)) w7) (
          J3 n w)) (fun s4 w5 =>
      mkSlP (minI s4 (w64 ((s.size : Int) + 1))) (minI s4 (w64 ((s.size : Int) + 1))) 16 (newP (.cells (zrow #[(.string (⟨#[]⟩ : ByteArray))] (Int.toNat (minI s4 (w64 ((s.size : Int) + 1))) * 1)) 9) w5 fun b8 w9 =>
      loopP (σ := Tup [.one .str, .one (.int .i64)]) (fun again10 s11 w12 =>
        cnd (decide (s11.2 < (w64 ((minI s4 (w64 ((s.size : Int) + 1))) - 1)))) (
          strings_Index_210 s11.1 sep w12 fun r13 w14 =>
          cnd (decide (r13 < 0)) (
            idxP s11.2 (Int.toNat (minI s4 (w64 ((s.size : Int) + 1)))) (
              stP ((⟨b8, 0, none⟩ : Addr).add (Int.toNat s11.2 * 1)) (.string s11.1) w14 fun w15 =>
              slcP ⟨(some ⟨b8, 0, none⟩), (Int.toNat (minI s4 (w64 ((s.size : Int) + 1)))), (Int.toNat (minI s4 (w64 ((s.size : Int) + 1))))⟩ 0 (some (w64 (s11.2 + 1))) 1 fun s16 =>
              K s16 w15)) (
            strP s11.1 0 (some (w64 (r13 + sepSave))) fun x17 =>
            idxP s11.2 (Int.toNat (minI s4 (w64 ((s.size : Int) + 1)))) (
              stP ((⟨b8, 0, none⟩ : Addr).add (Int.toNat s11.2 * 1)) (.string x17) w14 fun w18 =>
              strP s11.1 (w64 (r13 + (sep.size : Int))) none fun x19 =>
              again10 (x19, (w64 (s11.2 + 1))) w18))) (
          idxP s11.2 (Int.toNat (minI s4 (w64 ((s.size : Int) + 1)))) (
            stP ((⟨b8, 0, none⟩ : Addr).add (Int.toNat s11.2 * 1)) (.string s11.1) w12 fun w20 =>
            slcP ⟨(some ⟨b8, 0, none⟩), (Int.toNat (minI s4 (w64 ((s.size : Int) + 1)))), (Int.toNat (minI s4 (w64 ((s.size : Int) + 1))))⟩ 0 (some (w64 (s11.2 + 1))) 1 fun s21 =>
            K s21 w20))) (s, 0) w9))))
def an228 : List An := [
  .reg ⟨[], .done, []⟩,
  .reg ⟨[], .done, []⟩,
  .nop,
  .reg ⟨[], .done, []⟩,
  .reg ⟨[], .done, []⟩,
  .nop,
  .reg ⟨[(2, [.one .slice])], .done, []⟩,
  .reg ⟨[], .done, []⟩,
  .join [(3, .one (.int .i64))] [21, 22, 23, 24],
  .reg ⟨[(2, [.one (.int .i64)])], .done, []⟩,
  .reg ⟨[], .done, []⟩,
  .reg ⟨[], .done, []⟩,
  .reg ⟨[], .done, []⟩,
  .reg ⟨[], .done, []⟩,
  .nop,
  .nop,
  .loop [(0, .one .str), (10, .one (.int .i64))] [11, 34, 35, 36, 37, 38, 39, 40, 41, 42, 43, 44, 45, 46, 47, 48, 49, 50, 51, 52, 53, 54, 55, 56, 57],
  .reg ⟨[], .done, []⟩,
  .nop,
  .nop,
  .reg ⟨[(2, [.one (.int .i64)])], .done, []⟩,
  .reg ⟨[], .done, []⟩,
  .nop,
  .reg ⟨[], .done, []⟩,
  .reg ⟨[], .done, []⟩,
  .reg ⟨[], .done, []⟩,
  .reg ⟨[], .done, []⟩,
  .reg ⟨[], .done, []⟩]
theorem strings_genSplit_228_of (s : ByteArray) (sep : ByteArray) (sepSave : Int) (n : Int) (w : World) (K : Tup [.one .slice] → World → Prop) (hF_ : F228 s sep sepSave n w K) : strings_genSplit_228 s sep sepSave n w K :=
  call_of_F (l := an228) (args := [Ty.mk (.one .str) s, Ty.mk (.one .str) sep, Ty.mk (.one (.int .i64)) sepSave, Ty.mk (.one (.int .i64)) n]) follows tabOk Tryz.func228 (by kernel_rfl) (by kernel_rfl) (by kernel_rfl) hF_

end Go.Proofs.YtcpoglgnkedpaaaGreatDoor

/-
  What the functions' bodies ask (printed by vcgen.py).
-/
namespace Go.Proofs.YtcpoglgnkedpaaaGreatDoor
open Go Go.Vc Go.Proofs


/-- (*purlin/may.History).Nodes -/
def F18 (h : Option Addr) (w : World) (K : Tup [.one .slice] → World → Prop) : Prop :=
  cnd (Option.isNone h) (
    K ⟨none, 0, 0⟩ w) (
    onSome h fun A1 =>
    ldP (.ptr) A1 w fun x2 =>
    tree_Tree_Nodes_49 x2 w fun r3 w4 =>
    loopP (σ := Tup [.one (.int .i64)]) (fun again5 s6 w7 =>
      cnd (decide (s6 < (r3.len : Int))) (
        onSome h fun A8 =>
        ldP (.map) (A8.add 1) w7.drew fun x9 =>
        idxP s6 r3.len (
          onSome r3.a fun A10 =>
          ldP (.int .i64) ((A10.add (Int.toNat s6 * 5)).add 1) w7.drew fun x11 =>
          rdP Tryz.prog (Instr.lookup 65 (.map x9) (.int .i64 x11) false) [.one (.int .i64)] w7.drew fun c12 =>
          idxP s6 r3.len (
            onSome r3.a fun A13 =>
            stP ((A13.add (Int.toNat s6 * 5)).add 1) (.int .i64 c12) w7.drew fun w14 =>
            again5 (w64 (s6 + 1)) w14))) (
        K r3 w7)) 0 w4)
def an18 : List An := [
  .reg ⟨[], .done, []⟩,
  .reg ⟨[], .done, []⟩,
  .nop,
  .reg ⟨[], .done, []⟩,
  .reg ⟨[(4, [.one .slice])], .done, []⟩,
  .reg ⟨[], .done, []⟩,
  .nop,
  .nop,
  .loop [(14, .one (.int .i64))] [4, 15, 16, 17, 18, 19, 20, 21, 22, 23, 24, 25, 26, 27, 28, 29, 30, 31],
  .reg ⟨[], .done, []⟩,
  .nop,
  .nop,
  .reg ⟨[], .done, []⟩,
  .reg ⟨[], (.nop 0 0 (.nop 1 0 (.nop 2 0 (.nop 3 4 (.nop 4 12 (.nop 5 28 (.nop 6 0 (.nop 7 0 (.nop 8 192 (.nop 9 448 (.nop 10 960 (.nop 11 2044 (.nop 12 4095 (.nop 13 8191 (.bar 14 16383 .done .none))))))))))))))), []⟩,
  .reg ⟨[], .done, []⟩,
  .reg ⟨[], .done, []⟩]
theorem may_History_Nodes_18_of (h : Option Addr) (w : World) (K : Tup [.one .slice] → World → Prop) (hF_ : F18 h w K) : may_History_Nodes_18 h w K :=
  call_of_F (l := an18) (args := [Ty.mk (.one .ptr) h]) follows tabOk Tryz.func18 (by kernel_rfl) (by kernel_rfl) (by kernel_rfl) hF_

/-- purlin/purlinlaw0.Great -/
def F19 (o : Carr [.int .i64, .int .i64, .int .i64, .int .i64, .int .i64, .str, .str, .slice]) (w : World) (K : Tup [.one .bool] → World → Prop) : Prop :=
  newP (.cells #[(.int .i64 o.1), (.int .i64 o.2.1), (.int .i64 o.2.2.1), (.int .i64 o.2.2.2.1), (.int .i64 o.2.2.2.2.1), (.string o.2.2.2.2.2.1), (.string o.2.2.2.2.2.2.1), (.slice o.2.2.2.2.2.2.2.a o.2.2.2.2.2.2.2.len o.2.2.2.2.2.2.2.cap)] 28) w fun b1 w2 =>
  ldP (.str) ⟨b1, 5, none⟩ w2 fun x3 =>
  cnd (decide ((x3.size : Int) > 300)) (
    K true w2) (
    ldP (.str) ⟨b1, 6, none⟩ w2 fun x4 =>
    cnd (decide ((x4.size : Int) > 300)) (
      K true w2) (
      ldP (.slice) ⟨b1, 7, none⟩ w2 fun x5 =>
      K (decide ((x5.len : Int) > 3000)) w2))
def an19 : List An := [
  .reg ⟨[], .done, []⟩,
  .reg ⟨[], .done, []⟩]
theorem purlinlaw0_Great_19_of (o : Carr [.int .i64, .int .i64, .int .i64, .int .i64, .int .i64, .str, .str, .slice]) (w : World) (K : Tup [.one .bool] → World → Prop) (hF_ : F19 o w K) : purlinlaw0_Great_19 o w K :=
  call_of_F (l := an19) (args := [Ty.mk (.agg [.int .i64, .int .i64, .int .i64, .int .i64, .int .i64, .str, .str, .slice]) o]) follows tabOk Tryz.func19 (by kernel_rfl) (by kernel_rfl) (by kernel_rfl) hF_

/-- (*purlin/may.History).Crashed -/
def F20 (h : Option Addr) (ns : Sl) (w : World) (K : Tup [.one .bool] → World → Prop) : Prop :=
  may_History_Allows_13 h ns w fun r1 w2 =>
  cnd (!r1) (
    K false w2) (
    may_History_seen_27 h ns w2 fun r3 w4 =>
    newP (.map #[] 0) w4 fun b5 w6 =>
    newP (.map #[] 0) w6 fun b7 w8 =>
    loopP (σ := Tup [.one (.int .i64)]) (fun again9 s10 w11 =>
      cnd (decide (s10 < (ns.len : Int))) (
        idxP s10 ns.len (
          onSome ns.a fun A12 =>
          ldA [.str, .int .i64, .int .i64, .int .i64, .slice] (A12.add (Int.toNat s10 * 5)) w11 fun c13 =>
          newP (.cells #[(.string (⟨#[]⟩ : ByteArray)), (.int .i64 0), (.int .i64 0), (.int .i64 0), (.slice none 0 0)] 30) w11 fun b14 w15 =>
          stN ⟨b14, 0, none⟩ [(.string c13.1), (.int .i64 c13.2.1), (.int .i64 c13.2.2.1), (.int .i64 c13.2.2.2.1), (.slice c13.2.2.2.2.a c13.2.2.2.2.len c13.2.2.2.2.cap)] w15 fun w16 =>
          ldP (.str) ⟨b14, 0, none⟩ w16 fun x17 =>
          rdP Tryz.prog (Instr.lookup 66 (.map r3.1) (.string x17) false) [.one (.int .i64)] w16 fun c18 =>
          ldP (.int .i64) ⟨b14, 1, none⟩ w16 fun x19 =>
          runU Tryz.prog (Instr.mapUpdate 65 (.map (some b5)) (.int .i64 c18) (.int .i64 x19)) w16 fun w20 =>
          ldP (.slice) ⟨b14, 4, none⟩ w20 fun x21 =>
          inode_Need_50 (x21.len : Int) w20 fun r22 w23 =>
          mkSlP r22 r22 1 (newP (.cells (zrow #[(.bool false)] (Int.toNat r22 * 1)) 4) w23 fun b24 w25 =>
          loopP (σ := Tup [.one (.int .i64)]) (fun again26 s27 w28 =>
            cnd (decide (s27 < ((Int.toNat r22) : Int))) (
              idxP s27 (Int.toNat r22) (
                stP ((⟨b24, 0, none⟩ : Addr).add (Int.toNat s27 * 1)) (.bool true) w28 fun w29 =>
                again26 (w64 (s27 + 1)) w29)) (
              ldP (.int .i64) ⟨b14, 2, none⟩ w28 fun x30 =>
              joinP (σ := Tup [.one .slice]) (fun J31 =>
                cnd (x30 != 1) (
                  J31 ⟨none, 0, 0⟩ w28) (
                  J31 ⟨(some ⟨b24, 0, none⟩), (Int.toNat r22), (Int.toNat r22)⟩ w28)) (fun s32 w33 =>
              ldP (.int .i64) ⟨b14, 2, none⟩ w33 fun x34 =>
              ldP (.int .i64) ⟨b14, 3, none⟩ w33 fun x35 =>
              ldP (.slice) ⟨b14, 4, none⟩ w33 fun x36 =>
              newP (.map #[] 0) w33 fun b37 w38 =>
              newP (.cells #[(.int .i64 c18), (.int .i64 x34), (.int .i64 x35), (.slice x36.a x36.len x36.cap), (.slice s32.a s32.len s32.cap), (.map (some b37))] 108) w38 fun b39 w40 =>
              runU Tryz.prog (Instr.mapUpdate 104 (.map (some b7)) (.int .i64 c18) (.pointer (some ⟨b39, 0, none⟩))) w40 fun w41 =>
              again9 (w64 (s10 + 1)) w41))) 0 w25))) (
        runP Tryz.prog (Instr.range 66 (.map r3.1)) [.one .ptr] w11 fun c42 w43 =>
        loopP (σ := Tup []) (fun again44 _s45 w46 =>
          nextP Tryz.prog (Instr.next (.pointer c42) false 0) [.one .str, .one (.int .i64)] w46 (fun w47 =>
            maps_Keys_53 (some b7) w47 fun r50 w51 =>
            slices_Sorted_52 r50 w51 fun r52 w53 =>
            loopP (σ := Tup [.one .slice, .one (.int .i64)]) (fun again54 s55 w56 =>
              cnd (decide (s55.2 < (r52.len : Int))) (
                idxP s55.2 r52.len (
                  onSome r52.a fun A57 =>
                  ldP (.int .i64) (A57.add (Int.toNat s55.2 * 1)) w56 fun x58 =>
                  rdP Tryz.prog (Instr.lookup 104 (.map (some b7)) (.int .i64 x58) false) [.one .ptr] w56 fun c59 =>
                  onSome c59 fun A60 =>
                  ldA [.int .i64, .int .i64, .int .i64, .slice, .slice, .map] A60 w56 fun c61 =>
                  newP (.cells #[(.int .i64 c61.1), (.int .i64 c61.2.1), (.int .i64 c61.2.2.1), (.slice c61.2.2.2.1.a c61.2.2.2.1.len c61.2.2.2.1.cap), (.slice c61.2.2.2.2.1.a c61.2.2.2.2.1.len c61.2.2.2.2.1.cap), (.map c61.2.2.2.2.2)] 108) w56 fun b62 w63 =>
                  runP Tryz.prog (Builtin.append_ #[111, 111] 111 #[(.slice s55.1.a s55.1.len s55.1.cap), (.slice (some ⟨b62, 0, none⟩) 1 1)]) [.one .slice] w63 fun c64 w65 =>
                  again54 (c64, (w64 (s55.2 + 1))) w65)) (
                tree_Load_54 s55.1 w56 fun r66 w67 =>
                may_begin_25 r66 (some b5) w67 fun r68 w69 =>
                onSome r68 fun A70 =>
                ldA [.ptr, .map, .map, .map, .map, .map] A70 w69 fun c71 =>
                onSome h fun A72 =>
                stN A72 [(.pointer c71.1), (.map c71.2.1), (.map c71.2.2.1), (.map c71.2.2.2.1), (.map c71.2.2.2.2.1), (.map c71.2.2.2.2.2)] w69 fun w73 =>
                K true w73)) (⟨none, 0, 0⟩, 0) w53) (fun _c49 w48 =>
            rdP Tryz.prog (Instr.entry (.pointer c42)) [.one .str, .one (.int .i64)] w48 fun c74 =>
            may_parted_51 c74.1 w48 fun r75 w76 =>
            cnd r75.2.2 (
              rdP Tryz.prog (Instr.lookup 66 (.map r3.1) (.string r75.1) false) [.one (.int .i64)] w76 fun c77 =>
              rdP Tryz.prog (Instr.lookup 104 (.map (some b7)) (.int .i64 c77) false) [.one .ptr] w76 fun c78 =>
              onSome c78 fun A79 =>
              ldP (.map) (A79.add 5) w76 fun x80 =>
              runU Tryz.prog (Instr.mapUpdate 66 (.map x80) (.string r75.2.1) (.int .i64 c74.2)) w76 fun w81 =>
              again44 () w81) (
              again44 () w76))) () w43)) 0 w8)
def an20 : List An := [
  .reg ⟨[], .done, []⟩,
  .reg ⟨[(2, [.one .bool])], .done, []⟩,
  .nop,
  .reg ⟨[], .done, []⟩,
  .reg ⟨[(2, [.one .map, .one .bool])], .done, []⟩,
  .reg ⟨[], .done, []⟩,
  .reg ⟨[], .done, []⟩,
  .reg ⟨[], .done, []⟩,
  .nop,
  .nop,
  .loop [(36, .one (.int .i64))] [10, 11, 12, 13, 37, 38, 39, 40, 41, 42, 43, 44, 45, 46, 47, 48, 49, 50, 51, 52, 53, 54, 55, 56, 57, 58, 59, 60, 61, 62, 63, 64, 65, 66, 67, 68, 69, 70, 71, 72, 73, 74, 75, 76, 77, 78],
  .reg ⟨[], .done, []⟩,
  .nop,
  .nop,
  .reg ⟨[], .done, []⟩,
  .reg ⟨[], .done, []⟩,
  .reg ⟨[], .done, []⟩,
  .reg ⟨[(3, [.one (.int .i64)])], .done, []⟩,
  .reg ⟨[], .done, []⟩,
  .nop,
  .nop,
  .loop [(55, .one (.int .i64))] [13, 56, 57, 58, 59, 60, 61],
  .reg ⟨[], .done, []⟩,
  .nop,
  .nop,
  .reg ⟨[], .done, []⟩,
  .reg ⟨[], .done, []⟩,
  .reg ⟨[], .done, []⟩,
  .reg ⟨[], .done, []⟩,
  .join [(12, .one .slice)] [],
  .reg ⟨[], .done, []⟩,
  .reg ⟨[], .done, []⟩,
  .reg ⟨[], .done, []⟩,
  .reg ⟨[], .done, []⟩,
  .nop,
  .nop,
  .loop [] [14, 15, 16, 17, 18, 81, 82, 83, 84, 85, 86, 87, 88, 89, 90, 91, 92, 93, 94, 95, 96, 97, 98, 99, 100, 101, 102],
  .reg ⟨[(0, [.one .str, .one (.int .i64)])], .done, []⟩,
  .nop,
  .nop,
  .reg ⟨[(0, [.one .str, .one (.int .i64)])], .done, []⟩,
  .reg ⟨[(1, [.one .str, .one .str, .one .bool])], .done, []⟩,
  .reg ⟨[], .done, []⟩,
  .nop,
  .reg ⟨[], .done, []⟩,
  .reg ⟨[], .done, []⟩,
  .reg ⟨[(1, [.one .any]), (2, [.one .slice])], .done, []⟩,
  .nop,
  .nop,
  .loop [(19, .one .slice), (107, .one (.int .i64))] [21, 108, 109, 110, 111, 112, 113, 114, 115, 116, 117, 118, 119],
  .reg ⟨[], .done, []⟩,
  .nop,
  .nop,
  .reg ⟨[], .done, []⟩,
  .reg ⟨[(7, [.one .slice])], .done, []⟩,
  .reg ⟨[], .done, []⟩,
  .reg ⟨[(2, [.one .ptr]), (4, [.one .ptr])], .done, []⟩,
  .reg ⟨[], .done, []⟩]
theorem may_History_Crashed_20_of (h : Option Addr) (ns : Sl) (w : World) (K : Tup [.one .bool] → World → Prop) (hF_ : F20 h ns w K) : may_History_Crashed_20 h ns w K :=
  call_of_F (l := an20) (args := [Ty.mk (.one .ptr) h, Ty.mk (.one .slice) ns]) follows tabOk Tryz.func20 (by kernel_rfl) (by kernel_rfl) (by kernel_rfl) hF_

/-- purlin/may.begin -/
def F25 (t : Option Addr) (numbers : Option Nat) (w : World) (K : Tup [.one .ptr] → World → Prop) : Prop :=
  newP (.map #[] 0) w fun b1 w2 =>
  newP (.map #[] 0) w2 fun b3 w4 =>
  newP (.map #[] 0) w4 fun b5 w6 =>
  newP (.map #[] 0) w6 fun b7 w8 =>
  newP (.cells #[(.pointer t), (.map numbers), (.map (some b1)), (.map (some b3)), (.map (some b5)), (.map (some b7))] 75) w8 fun b9 w10 =>
  may_History_note_34 (some ⟨b9, 0, none⟩) t w10 fun _r11 w12 =>
  ldP (.map) ⟨b9, 4, none⟩ w12 fun x13 =>
  runP Tryz.prog (Instr.range 72 (.map x13)) [.one .ptr] w12 fun c14 w15 =>
  loopP (σ := Tup []) (fun again16 _s17 w18 =>
    nextP Tryz.prog (Instr.next (.pointer c14) false 0) [.agg [.int .i64, .str], .one .slice] w18 (fun w19 =>
      ldP (.map) ⟨b9, 2, none⟩ w19 fun x22 =>
      runP Tryz.prog (Instr.range 70 (.map x22)) [.one .ptr] w19 fun c23 w24 =>
      loopP (σ := Tup []) (fun again25 _s26 w27 =>
        nextP Tryz.prog (Instr.next (.pointer c23) false 0) [.one (.int .i64), .one .ptr] w27 (fun w28 =>
          K (some ⟨b9, 0, none⟩) w28) (fun _c30 w29 =>
          rdP Tryz.prog (Instr.entry (.pointer c23)) [.one (.int .i64), .one .ptr] w29 fun c31 =>
          may_History_firm_60 (some ⟨b9, 0, none⟩) c31.1 w29 fun _r32 w33 =>
          again25 () w33)) () w24) (fun _c21 w20 =>
      rdP Tryz.prog (Instr.entry (.pointer c14)) [.agg [.int .i64, .str], .one .slice] w20 fun c34 =>
      newP (.cells #[(.int .i64 0), (.string (⟨#[]⟩ : ByteArray))] 77) w20 fun b35 w36 =>
      stN ⟨b35, 0, none⟩ [(.int .i64 c34.1.1), (.string c34.1.2)] w36 fun w37 =>
      ldA [.int .i64, .str] ⟨b35, 0, none⟩ w37 fun c38 =>
      may_History_last_59 (some ⟨b9, 0, none⟩) (c38.1, c38.2) w37 fun _r39 w40 =>
      again16 () w40)) () w15
def an25 : List An := [
  .reg ⟨[], .done, []⟩,
  .reg ⟨[], .done, []⟩,
  .reg ⟨[(2, [])], .done, []⟩,
  .reg ⟨[], .done, []⟩,
  .nop,
  .nop,
  .loop [] [6, 24, 25, 26, 27, 28, 29, 30],
  .reg ⟨[(0, [.agg [.int .i64, .str], .one .slice])], .done, []⟩,
  .nop,
  .nop,
  .reg ⟨[(0, [.agg [.int .i64, .str], .one .slice])], .done, []⟩,
  .reg ⟨[(2, [])], .done, []⟩,
  .reg ⟨[], .done, []⟩,
  .nop,
  .nop,
  .loop [] [7, 36, 37, 38, 39, 40, 41, 42],
  .reg ⟨[(0, [.one (.int .i64), .one .ptr])], .done, []⟩,
  .nop,
  .nop,
  .reg ⟨[(0, [.one (.int .i64), .one .ptr])], .done, []⟩,
  .reg ⟨[(2, [])], .done, []⟩,
  .reg ⟨[], .done, []⟩]
theorem may_begin_25_of (t : Option Addr) (numbers : Option Nat) (w : World) (K : Tup [.one .ptr] → World → Prop) (hF_ : F25 t numbers w K) : may_begin_25 t numbers w K :=
  call_of_F (l := an25) (args := [Ty.mk (.one .ptr) t, Ty.mk (.one .map) numbers]) follows tabOk Tryz.func25 (by kernel_rfl) (by kernel_rfl) (by kernel_rfl) hF_

/-- purlin/tree.New -/
def F26  (w : World) (K : Tup [.one .ptr] → World → Prop) : Prop :=
  newP (.map #[] 0) w fun b1 w2 =>
  newP (.map #[] 0) w2 fun b3 w4 =>
  newP (.cells #[(.int .i64 2), (.slice none 0 0), (.slice none 0 0), (.map (some b3)), (.int .i64 0), (.int .i64 1), (.int .i64 0)] 126) w4 fun b5 w6 =>
  runU Tryz.prog (Instr.mapUpdate 127 (.map (some b1)) (.int .i64 1) (.pointer (some ⟨b5, 0, none⟩))) w6 fun w7 =>
  table_New_61  w7 fun r8 w9 =>
  newP (.cells #[(.map (some b1)), (.int .i64 1), (.pointer r8)] 131) w9 fun b10 w11 =>
  K (some ⟨b10, 0, none⟩) w11
def an26 : List An := [
  .reg ⟨[], .done, []⟩,
  .reg ⟨[(6, [.one .ptr])], .done, []⟩]
theorem tree_New_26_of (w : World) (K : Tup [.one .ptr] → World → Prop) (hF_ : F26  w K) : tree_New_26  w K :=
  call_of_F (l := an26) (args := []) follows tabOk Tryz.func26 (by kernel_rfl) (by kernel_rfl) (by kernel_rfl) hF_

/-- (*purlin/may.History).seen -/
def F27 (h : Option Addr) (ns : Sl) (w : World) (K : Tup [.one .map, .one .bool] → World → Prop) : Prop :=
  newP (.map #[] 0) w fun b1 w2 =>
  loopP (σ := Tup [.one (.int .i64)]) (fun again3 s4 w5 =>
    cnd (decide (s4 < (ns.len : Int))) (
      idxP s4 ns.len (
        onSome ns.a fun A6 =>
        ldA [.str, .int .i64, .int .i64, .int .i64, .slice] (A6.add (Int.toNat s4 * 5)) w5 fun c7 =>
        newP (.cells #[(.string (⟨#[]⟩ : ByteArray)), (.int .i64 0), (.int .i64 0), (.int .i64 0), (.slice none 0 0)] 30) w5 fun b8 w9 =>
        stN ⟨b8, 0, none⟩ [(.string c7.1), (.int .i64 c7.2.1), (.int .i64 c7.2.2.1), (.int .i64 c7.2.2.2.1), (.slice c7.2.2.2.2.a c7.2.2.2.2.len c7.2.2.2.2.cap)] w9 fun w10 =>
        ldP (.int .i64) ⟨b8, 1, none⟩ w10 fun x11 =>
        may_History_node_62 h x11 w10 fun r12 w13 =>
        ldP (.str) ⟨b8, 0, none⟩ w13 fun x14 =>
        rdP Tryz.prog (Instr.lookup 66 (.map (some b1)) (.string x14) true) [.one (.int .i64), .one .bool] w13 fun c15 =>
        joinP (σ := Tup [.one .bool]) (fun J16 =>
          cnd c15.2 (
            J16 true w13.drew) (
            cnd (r12 == 0) (
              J16 true w13.drew) (
              onSome h fun A19 =>
              ldP (.map) (A19.add 2) w13.drew fun x20 =>
              rdP Tryz.prog (Instr.lookup 70 (.map x20) (.int .i64 r12) false) [.one .ptr] w13.drew fun c21 =>
              cnd (Option.isNone c21) (
                J16 true w13.drew) (
                onSome h fun A22 =>
                ldP (.map) (A22.add 2) w13.drew fun x23 =>
                rdP Tryz.prog (Instr.lookup 70 (.map x23) (.int .i64 r12) false) [.one .ptr] w13.drew fun c24 =>
                onSome c24 fun A25 =>
                ldP (.int .i64) A25 w13.drew fun x26 =>
                ldP (.int .i64) ⟨b8, 2, none⟩ w13.drew fun x27 =>
                J16 (x26 != x27) w13.drew)))) (fun s17 w18 =>
        cnd s17 (
          K (none, false) w18) (
          ldP (.str) ⟨b8, 0, none⟩ w18 fun x28 =>
          runU Tryz.prog (Instr.mapUpdate 66 (.map (some b1)) (.string x28) (.int .i64 r12)) w18 fun w29 =>
          again3 (w64 (s4 + 1)) w29)))) (
      rdP Tryz.prog (Instr.lookup 66 (.map (some b1)) (.string (⟨#[47]⟩ : ByteArray)) false) [.one (.int .i64)] w5 fun c30 =>
      cnd (c30 != 1) (
        K (none, false) w5) (
        K ((some b1), true) w5))) 0 w2
def an27 : List An := [
  .reg ⟨[], .done, []⟩,
  .reg ⟨[], .done, []⟩,
  .reg ⟨[], .done, []⟩,
  .nop,
  .nop,
  .loop [(15, .one (.int .i64))] [4, 5, 8, 9, 10, 11, 16, 17, 18, 19, 20, 21, 22, 23, 24, 25, 26, 27, 28, 29, 30, 31, 32, 33, 34, 35, 36, 37, 38, 39, 40, 41, 42, 43, 44, 45, 46, 47, 48, 49, 50, 51, 52, 53, 54, 55, 56, 57, 58, 59, 60, 61, 62],
  .reg ⟨[], .done, []⟩,
  .nop,
  .nop,
  .reg ⟨[], .done, []⟩,
  .reg ⟨[(3, [.one (.int .i64)])], .done, []⟩,
  .reg ⟨[], .done, []⟩,
  .join [(57, .one .bool)] [30, 31, 32, 33, 34, 35, 36, 37, 38, 39, 40, 41, 42, 43, 44, 45, 46, 47, 48, 49, 50, 51, 52, 53, 54, 55, 56],
  .reg ⟨[], (.nop 0 0 (.nop 1 1 (.nop 2 3 (.nop 3 7 (.nop 4 15 (.nop 5 31 (.nop 6 63 (.nop 7 127 (.nop 8 255 (.nop 9 511 (.nop 10 63 (.nop 11 2047 (.nop 12 4095 (.nop 13 8191 (.nop 14 16383 (.nop 15 32767 (.nop 16 65535 (.nop 17 131071 (.nop 18 262143 (.nop 19 32767 (.nop 20 1048575 (.nop 21 2097151 (.nop 22 4194303 (.nop 23 8388607 (.nop 24 32767 (.nop 25 16809983 (.nop 26 67108863 (.nop 27 134217727 .done)))))))))))))))))))))))))))), []⟩,
  .nop,
  .reg ⟨[], .done, []⟩,
  .reg ⟨[], .done, []⟩,
  .reg ⟨[], .done, []⟩,
  .reg ⟨[], .done, []⟩,
  .nop,
  .reg ⟨[], .done, []⟩,
  .reg ⟨[], .done, []⟩]
theorem may_History_seen_27_of (h : Option Addr) (ns : Sl) (w : World) (K : Tup [.one .map, .one .bool] → World → Prop) (hF_ : F27 h ns w K) : may_History_seen_27 h ns w K :=
  call_of_F (l := an27) (args := [Ty.mk (.one .ptr) h, Ty.mk (.one .slice) ns]) follows tabOk Tryz.func27 (by kernel_rfl) (by kernel_rfl) (by kernel_rfl) hF_

/-- (*purlin/may.History).fits -/
def F28 (h : Option Addr) (x : Carr [.str, .int .i64, .int .i64, .int .i64, .slice]) (at_ : Option Nat) (many : Option Nat) (w : World) (K : Tup [.one .bool] → World → Prop) : Prop :=
  newP (.cells #[(.string x.1), (.int .i64 x.2.1), (.int .i64 x.2.2.1), (.int .i64 x.2.2.2.1), (.slice x.2.2.2.2.a x.2.2.2.2.len x.2.2.2.2.cap)] 30) w fun b1 w2 =>
  ldP (.str) ⟨b1, 0, none⟩ w2 fun x3 =>
  rdP Tryz.prog (Instr.lookup 66 (.map at_) (.string x3) false) [.one (.int .i64)] w2 fun c4 =>
  onSome h fun A5 =>
  ldP (.map) (A5.add 2) w2 fun x6 =>
  rdP Tryz.prog (Instr.lookup 70 (.map x6) (.int .i64 c4) false) [.one .ptr] w2 fun c7 =>
  ldP (.str) ⟨b1, 0, none⟩ w2 fun x8 =>
  joinP (σ := Tup []) (fun J9 =>
    cnd (!(x8.toList == (⟨#[47]⟩ : ByteArray).toList)) (
      ldP (.str) ⟨b1, 0, none⟩ w2 fun x12 =>
      may_parted_51 x12 w2 fun r13 w14 =>
      rdP Tryz.prog (Instr.lookup 66 (.map at_) (.string r13.1) false) [.one (.int .i64)] w14 fun c15 =>
      joinP (σ := Tup [.one .bool]) (fun J16 =>
        cnd (!r13.2.2) (
          J16 true w14) (
          cnd (c15 == 0) (
            J16 true w14) (
            onSome h fun A19 =>
            ldP (.map) (A19.add 2) w14 fun x20 =>
            rdP Tryz.prog (Instr.lookup 70 (.map x20) (.int .i64 c15) false) [.one .ptr] w14 fun c21 =>
            onSome c21 fun A22 =>
            ldP (.int .i64) A22 w14 fun x23 =>
            cnd (x23 != 2) (
              J16 true w14) (
              may_History_values_63 h (c15, r13.2.1) w14 fun r24 w25 =>
              slices_Contains_29 r24 c4 w25 fun r26 w27 =>
              J16 (!r26) w27)))) (fun s17 w18 =>
      cnd s17 (
        K false w18) (
        J9 () w18))) (
      J9 () w2)) (fun _s10 w11 =>
  onSome c7 fun A28 =>
  ldP (.int .i64) A28 w11 fun x29 =>
  cnd (x29 == 2) (
    ldP (.int .i64) ⟨b1, 3, none⟩ w11 fun x30 =>
    cnd (x30 == 1) (
      ldP (.slice) ⟨b1, 4, none⟩ w11 fun x31 =>
      K ((x31.len : Int) == 0) w11) (
      K false w11)) (
    cnd (x29 == 3) (
      ldP (.int .i64) ⟨b1, 3, none⟩ w11.drew fun x32 =>
      rdP Tryz.prog (Instr.lookup 65 (.map many) (.int .i64 c4) false) [.one (.int .i64)] w11.drew fun c33 =>
      cnd (x32 == c33) (
        ldP (.slice) ⟨b1, 4, none⟩ w11.drew fun x34 =>
        rdP Tryz.prog (convert 22 9 (.slice x34.a x34.len x34.cap)) [.one .str] w11.drew fun c35 =>
        onSome c7 fun A36 =>
        ldP (.str) (A36.add 1) w11.drew fun x37 =>
        K (c35.toList == x37.toList) w11.drew) (
        K false w11.drew)) (
      ldP (.int .i64) ⟨b1, 3, none⟩ w11 fun x38 =>
      rdP Tryz.prog (Instr.lookup 65 (.map many) (.int .i64 c4) false) [.one (.int .i64)] w11 fun c39 =>
      cnd (x38 == c39) (
        ldP (.slice) ⟨b1, 4, none⟩ w11 fun x40 =>
        may_file_holds_64 c7 x40 w11 fun r41 w42 =>
        K r41 w42) (
        K false w11))))
def an28 : List An := [
  .reg ⟨[], .done, []⟩,
  .reg ⟨[], .done, []⟩,
  .reg ⟨[], .done, []⟩,
  .reg ⟨[], .done, []⟩,
  .join [] [8, 11, 12, 13, 14, 28, 29, 30, 31, 32, 33, 34, 35, 36, 37, 38, 39, 40, 41, 42, 43, 44, 45, 46, 47, 48, 49, 50, 51, 52, 53, 54, 55, 56, 57, 58, 59, 60, 61, 62, 63, 64, 65],
  .reg ⟨[(2, [.one .str, .one .str, .one .bool])], .done, []⟩,
  .reg ⟨[], .done, []⟩,
  .join [(65, .one .bool)] [38, 39, 40, 41, 42, 43, 44, 45, 46, 47, 48, 49, 50, 51, 52, 53, 54, 55, 56, 57, 58, 59, 60, 61, 62, 63, 64],
  .reg ⟨[(23, [.one .slice]), (25, [.one .bool])], .done, []⟩,
  .nop,
  .reg ⟨[], .done, []⟩,
  .reg ⟨[], .done, []⟩,
  .nop,
  .reg ⟨[], .done, []⟩,
  .nop,
  .reg ⟨[], .done, []⟩,
  .reg ⟨[], .done, []⟩,
  .nop,
  .reg ⟨[], (.nop 0 0 (.nop 1 1 (.nop 2 0 (.nop 3 0 (.nop 4 12 (.nop 5 31 (.nop 6 63 (.nop 7 127 (.nop 8 255 (.nop 9 511 (.nop 10 127 (.nop 11 1151 (.nop 12 3199 (.nop 13 7295 (.nop 14 16383 (.nop 15 32767 (.nop 16 65535 .done))))))))))))))))), []⟩,
  .reg ⟨[(10, [.one .bool])], .done, []⟩]
theorem may_History_fits_28_of (h : Option Addr) (x : Carr [.str, .int .i64, .int .i64, .int .i64, .slice]) (at_ : Option Nat) (many : Option Nat) (w : World) (K : Tup [.one .bool] → World → Prop) (hF_ : F28 h x at_ many w K) : may_History_fits_28 h x at_ many w K :=
  call_of_F (l := an28) (args := [Ty.mk (.one .ptr) h, Ty.mk (.agg [.str, .int .i64, .int .i64, .int .i64, .slice]) x, Ty.mk (.one .map) at_, Ty.mk (.one .map) many]) follows tabOk Tryz.func28 (by kernel_rfl) (by kernel_rfl) (by kernel_rfl) hF_

/-- slices.Contains[[]int,int] -/
def F29 (p0 : Sl) (s : Int) (w : World) (K : Tup [.one .bool] → World → Prop) : Prop :=
  slices_Index_65 p0 s w fun r1 w2 =>
  K (decide (r1 ≥ 0)) w2
def an29 : List An := [
  .reg ⟨[], .done, []⟩,
  .reg ⟨[(2, [.one (.int .i64)])], .done, []⟩]
theorem slices_Contains_29_of (p0 : Sl) (s : Int) (w : World) (K : Tup [.one .bool] → World → Prop) (hF_ : F29 p0 s w K) : slices_Contains_29 p0 s w K :=
  call_of_F (l := an29) (args := [Ty.mk (.one .slice) p0, Ty.mk (.one (.int .i64)) s]) follows tabOk Tryz.func29 (by kernel_rfl) (by kernel_rfl) (by kernel_rfl) hF_

end Go.Proofs.YtcpoglgnkedpaaaGreatDoor

/-
  What the functions' bodies ask (printed by vcgen.py).
-/
namespace Go.Proofs.YtcpoglgnkedpaaaGreatDoor
open Go Go.Vc Go.Proofs


/-- purlin/purlinlaw24.awake -/
def F10  (w : World) (K : Tup [.one .bool] → World → Prop) : Prop :=
  may_New_11  w fun r1 w2 =>
  newP (.cells #[(.string (⟨#[]⟩ : ByteArray)), (.int .i64 0), (.int .i64 0), (.int .i64 0), (.slice none 0 0)] 30) w2 fun b3 w4 =>
  stN ⟨b3, 0, none⟩ [(.string (⟨#[47]⟩ : ByteArray)), (.int .i64 1), (.int .i64 2), (.int .i64 1), (.slice none 0 0)] w4 fun w5 =>
  newP (.cells #[(.string (⟨#[]⟩ : ByteArray)), (.int .i64 0), (.int .i64 0), (.int .i64 0), (.slice none 0 0)] 30) w5 fun b6 w7 =>
  stN ⟨b6, 0, none⟩ [(.string (⟨#[47, 97]⟩ : ByteArray)), (.int .i64 2), (.int .i64 2), (.int .i64 1), (.slice none 0 0)] w7 fun w8 =>
  joinP (σ := Tup [.one .bool]) (fun J9 =>
    cnd (Option.isNone r1) (
      J9 true w8) (
      ldA [.str, .int .i64, .int .i64, .int .i64, .slice] ⟨b3, 0, none⟩ w8 fun c12 =>
      newP (.cells #[(.string c12.1), (.int .i64 c12.2.1), (.int .i64 c12.2.2.1), (.int .i64 c12.2.2.2.1), (.slice c12.2.2.2.2.a c12.2.2.2.2.len c12.2.2.2.2.cap)] 30) w8 fun b13 w14 =>
      may_History_Allows_13 r1 ⟨(some ⟨b13, 0, none⟩), 1, 1⟩ w14 fun r15 w16 =>
      cnd (!r15) (
        J9 true w16) (
        ldA [.str, .int .i64, .int .i64, .int .i64, .slice] ⟨b3, 0, none⟩ w16 fun c17 =>
        ldA [.str, .int .i64, .int .i64, .int .i64, .slice] ⟨b6, 0, none⟩ w16 fun c18 =>
        newP (.cells #[(.string c17.1), (.int .i64 c17.2.1), (.int .i64 c17.2.2.1), (.int .i64 c17.2.2.2.1), (.slice c17.2.2.2.2.a c17.2.2.2.2.len c17.2.2.2.2.cap), (.string c18.1), (.int .i64 c18.2.1), (.int .i64 c18.2.2.1), (.int .i64 c18.2.2.2.1), (.slice c18.2.2.2.2.a c18.2.2.2.2.len c18.2.2.2.2.cap)] 30) w16 fun b19 w20 =>
        may_History_Allows_13 r1 ⟨(some ⟨b19, 0, none⟩), 2, 2⟩ w20 fun r21 w22 =>
        J9 r21 w22))) (fun s10 w11 =>
  cnd s10 (
    K false w11) (
    may_History_Did_16 r1 (9, 0, 0, 0, 0, (⟨#[47, 97]⟩ : ByteArray), (⟨#[]⟩ : ByteArray), ⟨none, 0, 0⟩) 0 2 w11 fun r23 w24 =>
    joinP (σ := Tup [.one .bool]) (fun J25 =>
      ldA [.str, .int .i64, .int .i64, .int .i64, .slice] ⟨b3, 0, none⟩ w24 fun c28 =>
      newP (.cells #[(.string c28.1), (.int .i64 c28.2.1), (.int .i64 c28.2.2.1), (.int .i64 c28.2.2.2.1), (.slice c28.2.2.2.2.a c28.2.2.2.2.len c28.2.2.2.2.cap)] 30) w24 fun b29 w30 =>
      may_History_Allows_13 r1 ⟨(some ⟨b29, 0, none⟩), 1, 1⟩ w30 fun r31 w32 =>
      cnd r31 (
        ldA [.str, .int .i64, .int .i64, .int .i64, .slice] ⟨b3, 0, none⟩ w32 fun c33 =>
        ldA [.str, .int .i64, .int .i64, .int .i64, .slice] ⟨b6, 0, none⟩ w32 fun c34 =>
        newP (.cells #[(.string c33.1), (.int .i64 c33.2.1), (.int .i64 c33.2.2.1), (.int .i64 c33.2.2.2.1), (.slice c33.2.2.2.2.a c33.2.2.2.2.len c33.2.2.2.2.cap), (.string c34.1), (.int .i64 c34.2.1), (.int .i64 c34.2.2.1), (.int .i64 c34.2.2.2.1), (.slice c34.2.2.2.2.a c34.2.2.2.2.len c34.2.2.2.2.cap)] 30) w32 fun b35 w36 =>
        may_History_Allows_13 r1 ⟨(some ⟨b35, 0, none⟩), 2, 2⟩ w36 fun r37 w38 =>
        J25 r37 w38) (
        J25 false w32)) (fun s26 w27 =>
    may_History_Did_16 r1 (21, 0, 0, 0, 0, (⟨#[]⟩ : ByteArray), (⟨#[]⟩ : ByteArray), ⟨none, 0, 0⟩) 0 0 w27 fun r39 w40 =>
    cnd r23 (
      cnd s26 (
        cnd r39 (
          ldA [.str, .int .i64, .int .i64, .int .i64, .slice] ⟨b3, 0, none⟩ w40 fun c41 =>
          newP (.cells #[(.string c41.1), (.int .i64 c41.2.1), (.int .i64 c41.2.2.1), (.int .i64 c41.2.2.2.1), (.slice c41.2.2.2.2.a c41.2.2.2.2.len c41.2.2.2.2.cap)] 30) w40 fun b42 w43 =>
          may_History_Allows_13 r1 ⟨(some ⟨b42, 0, none⟩), 1, 1⟩ w43 fun r44 w45 =>
          cnd (!r44) (
            ldA [.str, .int .i64, .int .i64, .int .i64, .slice] ⟨b3, 0, none⟩ w45 fun c46 =>
            ldA [.str, .int .i64, .int .i64, .int .i64, .slice] ⟨b6, 0, none⟩ w45 fun c47 =>
            newP (.cells #[(.string c46.1), (.int .i64 c46.2.1), (.int .i64 c46.2.2.1), (.int .i64 c46.2.2.2.1), (.slice c46.2.2.2.2.a c46.2.2.2.2.len c46.2.2.2.2.cap), (.string c47.1), (.int .i64 c47.2.1), (.int .i64 c47.2.2.1), (.int .i64 c47.2.2.2.1), (.slice c47.2.2.2.2.a c47.2.2.2.2.len c47.2.2.2.2.cap)] 30) w45 fun b48 w49 =>
            may_History_Allows_13 r1 ⟨(some ⟨b48, 0, none⟩), 2, 2⟩ w49 fun r50 w51 =>
            cnd r50 (
              may_History_Nodes_18 r1 w51 fun r52 w53 =>
              K ((r52.len : Int) == 2) w53) (
              K false w51)) (
            K false w45)) (
          K false w40)) (
        K false w40)) (
      K false w40))))
def an10 : List An := [
  .reg ⟨[], .done, []⟩,
  .reg ⟨[(0, [.one .ptr])], .done, []⟩,
  .reg ⟨[], .done, []⟩,
  .reg ⟨[], .done, []⟩,
  .join [(25, .one .bool)] [10, 11, 12, 13, 14, 15, 16, 17, 18, 19, 20, 21, 22, 23, 24],
  .reg ⟨[(6, [.one .bool]), (14, [.one .bool])], .done, []⟩,
  .nop,
  .reg ⟨[], .done, []⟩,
  .reg ⟨[(2, [.one .bool])], .done, []⟩,
  .join [(5, .one .bool)] [29, 30, 31, 32, 33, 34, 35, 36, 37, 38, 39],
  .reg ⟨[(3, [.one .bool]), (9, [.one .bool])], .done, []⟩,
  .reg ⟨[(2, [.one .bool])], .done, []⟩,
  .reg ⟨[(11, [.one .bool]), (19, [.one .bool]), (23, [.one .slice])], .done, []⟩]
theorem purlinlaw24_awake_10_of (w : World) (K : Tup [.one .bool] → World → Prop) (hF_ : F10  w K) : purlinlaw24_awake_10  w K :=
  call_of_F (l := an10) (args := []) follows tabOk Tryz.func10 (by kernel_rfl) (by kernel_rfl) (by kernel_rfl) hF_

/-- purlin/may.New -/
def F11  (w : World) (K : Tup [.one .ptr] → World → Prop) : Prop :=
  tree_New_26  w fun r1 w2 =>
  newP (.map #[] 0) w2 fun b3 w4 =>
  runU Tryz.prog (Instr.mapUpdate 65 (.map (some b3)) (.int .i64 1) (.int .i64 1)) w4 fun w5 =>
  may_begin_25 r1 (some b3) w5 fun r6 w7 =>
  K r6 w7
def an11 : List An := [
  .reg ⟨[], .done, []⟩,
  .reg ⟨[(0, [.one .ptr]), (4, [.one .ptr])], .done, []⟩]
theorem may_New_11_of (w : World) (K : Tup [.one .ptr] → World → Prop) (hF_ : F11  w K) : may_New_11  w K :=
  call_of_F (l := an11) (args := []) follows tabOk Tryz.func11 (by kernel_rfl) (by kernel_rfl) (by kernel_rfl) hF_

/-- purlin/purlinlaw24.one -/
def F12 (h : Option Addr) (o : Carr [.int .i64, .int .i64, .int .i64, .int .i64, .int .i64, .str, .str, .slice]) (number : Int) (w : World) (K : Tup [.one .bool] → World → Prop) : Prop :=
  newP (.cells #[(.int .i64 o.1), (.int .i64 o.2.1), (.int .i64 o.2.2.1), (.int .i64 o.2.2.2.1), (.int .i64 o.2.2.2.2.1), (.string o.2.2.2.2.2.1), (.string o.2.2.2.2.2.2.1), (.slice o.2.2.2.2.2.2.2.a o.2.2.2.2.2.2.2.len o.2.2.2.2.2.2.2.cap)] 28) w fun b1 w2 =>
  ldA [.int .i64, .int .i64, .int .i64, .int .i64, .int .i64, .str, .str, .slice] ⟨b1, 0, none⟩ w2 fun c3 =>
  may_History_Did_16 h (c3.1, c3.2.1, c3.2.2.1, c3.2.2.2.1, c3.2.2.2.2.1, c3.2.2.2.2.2.1, c3.2.2.2.2.2.2.1, c3.2.2.2.2.2.2.2) 0 number w2 fun r4 w5 =>
  K r4 w5
def an12 : List An := [
  .reg ⟨[], .done, []⟩,
  .reg ⟨[(3, [.one .bool])], .done, []⟩]
theorem purlinlaw24_one_12_of (h : Option Addr) (o : Carr [.int .i64, .int .i64, .int .i64, .int .i64, .int .i64, .str, .str, .slice]) (number : Int) (w : World) (K : Tup [.one .bool] → World → Prop) (hF_ : F12 h o number w K) : purlinlaw24_one_12 h o number w K :=
  call_of_F (l := an12) (args := [Ty.mk (.one .ptr) h, Ty.mk (.agg [.int .i64, .int .i64, .int .i64, .int .i64, .int .i64, .str, .str, .slice]) o, Ty.mk (.one (.int .i64)) number]) follows tabOk Tryz.func12 (by kernel_rfl) (by kernel_rfl) (by kernel_rfl) hF_

/-- (*purlin/may.History).Allows -/
def F13 (h : Option Addr) (ns : Sl) (w : World) (K : Tup [.one .bool] → World → Prop) : Prop :=
  cnd (Option.isNone h) (
    K false w) (
    may_History_seen_27 h ns w fun r1 w2 =>
    cnd (!r1.2) (
      K false w2) (
      newP (.map #[] 0) w2 fun b3 w4 =>
      runP Tryz.prog (Instr.range 66 (.map r1.1)) [.one .ptr] w4 fun c5 w6 =>
      loopP (σ := Tup []) (fun again7 _s8 w9 =>
        nextP Tryz.prog (Instr.next (.pointer c5) false 0) [.one .str, .one (.int .i64)] w9 (fun w10 =>
          loopP (σ := Tup [.one (.int .i64)]) (fun again13 s14 w15 =>
            cnd (decide (s14 < (ns.len : Int))) (
              idxP s14 ns.len (
                onSome ns.a fun A16 =>
                ldA [.str, .int .i64, .int .i64, .int .i64, .slice] (A16.add (Int.toNat s14 * 5)) w15 fun c17 =>
                newP (.cells #[(.string (⟨#[]⟩ : ByteArray)), (.int .i64 0), (.int .i64 0), (.int .i64 0), (.slice none 0 0)] 30) w15 fun b18 w19 =>
                stN ⟨b18, 0, none⟩ [(.string c17.1), (.int .i64 c17.2.1), (.int .i64 c17.2.2.1), (.int .i64 c17.2.2.2.1), (.slice c17.2.2.2.2.a c17.2.2.2.2.len c17.2.2.2.2.cap)] w19 fun w20 =>
                ldA [.str, .int .i64, .int .i64, .int .i64, .slice] ⟨b18, 0, none⟩ w20 fun c21 =>
                may_History_fits_28 h (c21.1, c21.2.1, c21.2.2.1, c21.2.2.2.1, c21.2.2.2.2) r1.1 (some b3) w20 fun r22 w23 =>
                cnd (!r22) (
                  K false w23) (
                  again13 (w64 (s14 + 1)) w23))) (
              onSome h fun A24 =>
              ldP (.map) (A24.add 4) w15 fun x25 =>
              runP Tryz.prog (Instr.range 72 (.map x25)) [.one .ptr] w15 fun c26 w27 =>
              loopP (σ := Tup []) (fun again28 _s29 w30 =>
                nextP Tryz.prog (Instr.next (.pointer c26) false 0) [.agg [.int .i64, .str], .one .slice] w30 (fun w31 =>
                  onSome h fun A34 =>
                  ldP (.map) (A34.add 3) w31 fun x35 =>
                  runP Tryz.prog (Instr.range 71 (.map x35)) [.one .ptr] w31 fun c36 w37 =>
                  loopP (σ := Tup []) (fun again38 _s39 w40 =>
                    nextP Tryz.prog (Instr.next (.pointer c36) false 0) [.one (.int .i64), .agg [.bool, .bool, .bool]] w40 (fun w41 =>
                      K true w41) (fun _c43 w42 =>
                      rdP Tryz.prog (Instr.entry (.pointer c36)) [.one (.int .i64), .agg [.bool, .bool, .bool]] w42 fun c44 =>
                      newP (.cells #[(.bool false), (.bool false), (.bool false)] 82) w42 fun b45 w46 =>
                      stN ⟨b45, 0, none⟩ [(.bool c44.2.1), (.bool c44.2.2.1), (.bool c44.2.2.2)] w46 fun w47 =>
                      joinP (σ := Tup [.one .bool]) (fun J48 =>
                        ldP (.bool) ⟨b45, 0, none⟩ w47 fun x51 =>
                        cnd (!x51) (
                          J48 true w47) (
                          ldP (.bool) ⟨b45, 1, none⟩ w47 fun x52 =>
                          cnd (!x52) (
                            J48 true w47) (
                            J48 (c44.1 == 1) w47))) (fun s49 w50 =>
                      cnd s49 (
                        again38 () w50) (
                        rdP Tryz.prog (Instr.lookup 65 (.map (some b3)) (.int .i64 c44.1) false) [.one (.int .i64)] w50 fun c53 =>
                        cnd (c53 == 0) (
                          K false w50) (
                          ldP (.bool) ⟨b45, 2, none⟩ w50 fun x54 =>
                          cnd x54 (
                            rdP Tryz.prog (Instr.lookup 65 (.map (some b3)) (.int .i64 c44.1) false) [.one (.int .i64)] w50 fun c55 =>
                            cnd (c55 != 1) (
                              K false w50) (
                              again38 () w50)) (
                            again38 () w50)))))) () w37) (fun _c33 w32 =>
                  rdP Tryz.prog (Instr.entry (.pointer c26)) [.agg [.int .i64, .str], .one .slice] w32 fun c56 =>
                  newP (.cells #[(.int .i64 0), (.string (⟨#[]⟩ : ByteArray))] 77) w32 fun b57 w58 =>
                  stN ⟨b57, 0, none⟩ [(.int .i64 c56.1.1), (.string c56.1.2)] w58 fun w59 =>
                  slices_Contains_29 c56.2 0 w59 fun r60 w61 =>
                  cnd r60 (
                    again28 () w61) (
                    runP Tryz.prog (Instr.range 66 (.map r1.1)) [.one .ptr] w61 fun c62 w63 =>
                    loopP (σ := Tup []) (fun again64 _s65 w66 =>
                      nextP Tryz.prog (Instr.next (.pointer c62) false 0) [.one .str, .one (.int .i64)] w66 (fun w67 =>
                        again28 () w67) (fun _c69 w68 =>
                        rdP Tryz.prog (Instr.entry (.pointer c62)) [.one .str, .one (.int .i64)] w68 fun c70 =>
                        ldP (.str) ⟨b57, 1, none⟩ w68.drew fun x71 =>
                        strings_TrimSuffix_30 c70.1 (⟨#[47]⟩ : ByteArray) w68.drew fun r72 w73 =>
                        (w73.cell? ⟨b57, 1, none⟩ = some (.string x71)) ∧
                        ((r72.size + (⟨#[47]⟩ : ByteArray).size : Nat) : Int) ≤ IntKind.i64.max ∧
                        (((r72 ++ (⟨#[47]⟩ : ByteArray)).size + x71.size : Nat) : Int) ≤ IntKind.i64.max ∧
                        rdP Tryz.prog (Instr.lookup 66 (.map r1.1) (.string ((r72 ++ (⟨#[47]⟩ : ByteArray)) ++ x71)) true) [.one (.int .i64), .one .bool] w73 fun c74 =>
                        ldP (.int .i64) ⟨b57, 0, none⟩ w73 fun x75 =>
                        cnd (c70.2 == x75) (
                          cnd (!c74.2) (
                            K false w73) (
                            again64 () w73)) (
                          again64 () w73))) () w63))) () w27)) 0 w10) (fun _c12 w11 =>
          rdP Tryz.prog (Instr.entry (.pointer c5)) [.one .str, .one (.int .i64)] w11 fun c76 =>
          rdP Tryz.prog (Instr.lookup 65 (.map (some b3)) (.int .i64 c76.2) false) [.one (.int .i64)] w11 fun c77 =>
          runU Tryz.prog (Instr.mapUpdate 65 (.map (some b3)) (.int .i64 c76.2) (.int .i64 (w64 (c77 + 1)))) w11 fun w78 =>
          again7 () w78)) () w6))
def an13 : List An := [
  .reg ⟨[], .done, []⟩,
  .reg ⟨[], .done, []⟩,
  .nop,
  .reg ⟨[], .done, []⟩,
  .reg ⟨[(2, [.one .map, .one .bool])], .done, []⟩,
  .reg ⟨[], .done, []⟩,
  .nop,
  .reg ⟨[], .done, []⟩,
  .reg ⟨[], .done, []⟩,
  .reg ⟨[], .done, []⟩,
  .nop,
  .nop,
  .loop [] [9, 33, 34, 35, 36, 37, 38, 39, 40],
  .reg ⟨[(0, [.one .str, .one (.int .i64)])], .done, []⟩,
  .nop,
  .nop,
  .reg ⟨[(0, [.one .str, .one (.int .i64)])], .done, []⟩,
  .reg ⟨[], .done, []⟩,
  .reg ⟨[], .done, []⟩,
  .nop,
  .nop,
  .loop [(43, .one (.int .i64))] [4, 11, 44, 45, 46, 47, 48, 49, 50, 51, 52, 53],
  .reg ⟨[], .done, []⟩,
  .nop,
  .nop,
  .reg ⟨[], .done, []⟩,
  .reg ⟨[(4, [.one .bool])], .done, []⟩,
  .nop,
  .reg ⟨[], .done, []⟩,
  .reg ⟨[], .done, []⟩,
  .reg ⟨[], .done, []⟩,
  .nop,
  .nop,
  .loop [] [4, 12, 13, 14, 15, 16, 17, 59, 60, 61, 62, 63, 64, 65, 66, 67, 68, 69, 70, 71, 72, 73, 74, 75, 76, 77, 78, 79, 80, 81, 82, 83, 84, 85, 86, 87, 88, 89, 90, 91],
  .reg ⟨[(0, [.agg [.int .i64, .str], .one .slice])], .done, []⟩,
  .nop,
  .nop,
  .reg ⟨[(0, [.agg [.int .i64, .str], .one .slice])], .done, []⟩,
  .reg ⟨[(1, [.one .bool])], .done, []⟩,
  .nop,
  .reg ⟨[], .done, []⟩,
  .nop,
  .nop,
  .loop [] [4, 14, 15, 16, 17, 68, 69, 70, 71, 72, 73, 74, 75, 76, 77, 78, 79, 80, 81, 82, 83, 84, 85, 86, 87, 88, 89, 90, 91],
  .reg ⟨[(0, [.one .str, .one (.int .i64)])], .done, []⟩,
  .nop,
  .nop,
  .reg ⟨[(0, [.one .str, .one (.int .i64)])], .done, []⟩,
  .reg ⟨[(2, [.one .str])], (.nop 0 0 (.nop 1 0 (.nop 4 0 (.nop 5 16 (.bar 2 2 (.nop 3 6 (.nop 6 62 (.nop 7 127 (.nop 8 255 (.nop 9 511 (.nop 10 511 (.nop 11 1023 (.nop 12 4095 .done)))))))) .none))))), []⟩,
  .reg ⟨[], .done, []⟩,
  .nop,
  .reg ⟨[], .done, []⟩,
  .reg ⟨[], .done, []⟩,
  .nop,
  .nop,
  .loop [] [4, 18, 19, 97, 98, 99, 100, 101, 102, 103, 104, 105, 106, 107, 108, 109, 110, 111, 112, 113, 114, 115, 116, 117, 118, 119, 120, 121, 122, 123, 124, 125, 126, 127],
  .reg ⟨[(0, [.one (.int .i64), .agg [.bool, .bool, .bool]])], .done, []⟩,
  .nop,
  .nop,
  .reg ⟨[(0, [.one (.int .i64), .agg [.bool, .bool, .bool]])], .done, []⟩,
  .join [(113, .one .bool)] [102, 103, 104, 105, 106, 107, 108, 109, 110, 111, 112],
  .reg ⟨[], .done, []⟩,
  .nop,
  .reg ⟨[], .done, []⟩,
  .nop,
  .reg ⟨[], .done, []⟩,
  .reg ⟨[], .done, []⟩]
theorem may_History_Allows_13_of (h : Option Addr) (ns : Sl) (w : World) (K : Tup [.one .bool] → World → Prop) (hF_ : F13 h ns w K) : may_History_Allows_13 h ns w K :=
  call_of_F (l := an13) (args := [Ty.mk (.one .ptr) h, Ty.mk (.one .slice) ns]) follows tabOk Tryz.func13 (by kernel_rfl) (by kernel_rfl) (by kernel_rfl) hF_

/-- (*purlin/may.History).Did -/
def F16 (h : Option Addr) (o : Carr [.int .i64, .int .i64, .int .i64, .int .i64, .int .i64, .str, .str, .slice]) (code : Int) (number : Int) (w : World) (K : Tup [.one .bool] → World → Prop) : Prop :=
  newP (.cells #[(.int .i64 o.1), (.int .i64 o.2.1), (.int .i64 o.2.2.1), (.int .i64 o.2.2.2.1), (.int .i64 o.2.2.2.2.1), (.string o.2.2.2.2.2.1), (.string o.2.2.2.2.2.2.1), (.slice o.2.2.2.2.2.2.2.a o.2.2.2.2.2.2.2.len o.2.2.2.2.2.2.2.cap)] 28) w fun b1 w2 =>
  cnd (Option.isNone h) (
    K false w2) (
    onSome h fun A3 =>
    ldP (.ptr) A3 w2 fun x4 =>
    tree_Tree_Copy_31 x4 w2 fun r5 w6 =>
    ldA [.int .i64, .int .i64, .int .i64, .int .i64, .int .i64, .str, .str, .slice] ⟨b1, 0, none⟩ w6 fun c7 =>
    tree_Tree_Do_32 r5 (c7.1, c7.2.1, c7.2.2.1, c7.2.2.2.1, c7.2.2.2.2.1, c7.2.2.2.2.2.1, c7.2.2.2.2.2.2.1, c7.2.2.2.2.2.2.2) w6 fun r8 w9 =>
    newP (.cells #[(.int .i64 0), (.int .i64 0), (.int .i64 0), (.int .i64 0), (.slice none 0 0), (.slice none 0 0)] 43) w9 fun b10 w11 =>
    stN ⟨b10, 0, none⟩ [(.int .i64 r8.1), (.int .i64 r8.2.1), (.int .i64 r8.2.2.1), (.int .i64 r8.2.2.2.1), (.slice r8.2.2.2.2.1.a r8.2.2.2.2.1.len r8.2.2.2.2.1.cap), (.slice r8.2.2.2.2.2.a r8.2.2.2.2.2.len r8.2.2.2.2.2.cap)] w11 fun w12 =>
    cnd (code == 4) (
      ldP (.int .i64) ⟨b10, 0, none⟩ w12 fun x13 =>
      cnd (x13 == 0) (
        onSome h fun A14 =>
        ldP (.ptr) A14 w12 fun x15 =>
        may_fresh_33 r5 x15 w12 fun r16 w17 =>
        cnd (r16 != 0) (
          onSome h fun A18 =>
          ldP (.map) (A18.add 1) w17 fun x19 =>
          runU Tryz.prog (Instr.mapUpdate 65 (.map x19) (.int .i64 r16) (.int .i64 0)) w17 fun w20 =>
          may_History_note_34 h r5 w20 fun _r21 w22 =>
          K true w22) (
          may_History_note_34 h r5 w17 fun _r23 w24 =>
          K true w24)) (
        K true w12)) (
      cnd (code == 13) (
        K true w12) (
        ldP (.int .i64) ⟨b10, 0, none⟩ w12 fun x25 =>
        cnd (x25 != code) (
          K false w12) (
          cnd (code != 0) (
            K true w12) (
            onSome h fun A26 =>
            ldP (.ptr) A26 w12 fun x27 =>
            may_fresh_33 r5 x27 w12 fun r28 w29 =>
            onSome h fun A30 =>
            stP A30 (.pointer r5) w29 fun w31 =>
            may_History_note_34 h r5 w31 fun _r32 w33 =>
            joinP (σ := Tup []) (fun J34 =>
              cnd (r28 != 0) (
                onSome h fun A37 =>
                ldP (.map) (A37.add 1) w33 fun x38 =>
                runU Tryz.prog (Instr.mapUpdate 65 (.map x38) (.int .i64 r28) (.int .i64 number)) w33 fun w39 =>
                J34 () w39) (
                J34 () w33)) (fun _s35 w36 =>
            ldP (.int .i64) ⟨b1, 0, none⟩ w36 fun x40 =>
            cnd (x40 == 1) (
              onSome h fun A41 =>
              ldP (.map) (A41.add 5) w36.drew fun x42 =>
              ldP (.int .i64) ⟨b10, 1, none⟩ w36.drew fun x43 =>
              runP Tryz.prog (Builtin.delete_ #[73, 3] 0 #[(.map x42), (.int .i64 x43)]) [] w36.drew fun _c44 w45 =>
              ldP (.str) ⟨b1, 5, none⟩ w45 fun x46 =>
              tree_Tree_Where_35 r5 x46 w45 fun r47 w48 =>
              cnd r47.2.2 (
                onSome h fun A49 =>
                ldP (.map) (A49.add 5) w48.drew fun x50 =>
                ldP (.int .i64) ⟨b10, 1, none⟩ w48.drew fun x51 =>
                runU Tryz.prog (Instr.mapUpdate 73 (.map x50) (.int .i64 x51) (.agg #[(.int .i64 r47.1), (.string r47.2.1)])) w48.drew fun w52 =>
                ldA [.int .i64, .int .i64, .int .i64, .int .i64, .int .i64, .str, .str, .slice] ⟨b1, 0, none⟩ w52 fun c53 =>
                may_History_lasts_36 h (c53.1, c53.2.1, c53.2.2.1, c53.2.2.2.1, c53.2.2.2.2.1, c53.2.2.2.2.2.1, c53.2.2.2.2.2.2.1, c53.2.2.2.2.2.2.2) w52 fun _r54 w55 =>
                K true w55) (
                ldA [.int .i64, .int .i64, .int .i64, .int .i64, .int .i64, .str, .str, .slice] ⟨b1, 0, none⟩ w48 fun c56 =>
                may_History_lasts_36 h (c56.1, c56.2.1, c56.2.2.1, c56.2.2.2.1, c56.2.2.2.2.1, c56.2.2.2.2.2.1, c56.2.2.2.2.2.2.1, c56.2.2.2.2.2.2.2) w48 fun _r57 w58 =>
                K true w58)) (
              ldA [.int .i64, .int .i64, .int .i64, .int .i64, .int .i64, .str, .str, .slice] ⟨b1, 0, none⟩ w36 fun c59 =>
              may_History_lasts_36 h (c59.1, c59.2.1, c59.2.2.1, c59.2.2.2.1, c59.2.2.2.2.1, c59.2.2.2.2.2.1, c59.2.2.2.2.2.2.1, c59.2.2.2.2.2.2.2) w36 fun _r60 w61 =>
              K true w61)))))))
def an16 : List An := [
  .reg ⟨[], .done, []⟩,
  .reg ⟨[], .done, []⟩,
  .nop,
  .reg ⟨[], .done, []⟩,
  .reg ⟨[(4, [.one .ptr])], .done, []⟩,
  .reg ⟨[(2, [.agg [.int .i64, .int .i64, .int .i64, .int .i64, .slice, .slice]])], .done, []⟩,
  .nop,
  .reg ⟨[], .done, []⟩,
  .nop,
  .reg ⟨[], .done, []⟩,
  .nop,
  .reg ⟨[(5, [.one (.int .i64)])], .done, []⟩,
  .reg ⟨[], .done, []⟩,
  .nop,
  .reg ⟨[], .done, []⟩,
  .reg ⟨[(2, [])], .done, []⟩,
  .reg ⟨[], .done, []⟩,
  .reg ⟨[], .done, []⟩,
  .nop,
  .reg ⟨[], .done, []⟩,
  .reg ⟨[], .done, []⟩,
  .nop,
  .reg ⟨[], .done, []⟩,
  .reg ⟨[], .done, []⟩,
  .nop,
  .reg ⟨[], .done, []⟩,
  .reg ⟨[(5, [.one (.int .i64)])], .done, []⟩,
  .reg ⟨[], .done, []⟩,
  .reg ⟨[(2, [])], .done, []⟩,
  .reg ⟨[], .done, []⟩,
  .join [] [74, 75, 76, 77, 78, 79],
  .reg ⟨[], .done, []⟩,
  .reg ⟨[], .done, []⟩,
  .nop,
  .reg ⟨[(6, [])], (.nop 0 0 (.nop 1 1 (.nop 2 3 (.nop 3 7 (.nop 4 0 (.nop 5 16 (.bar 6 63 .done .none))))))), []⟩,
  .reg ⟨[(3, [.one (.int .i64), .one .str, .one .bool])], .done, []⟩,
  .reg ⟨[], .done, []⟩,
  .nop,
  .reg ⟨[], (.nop 0 0 (.nop 1 1 (.nop 2 3 (.nop 3 7 (.nop 4 0 (.nop 5 16 (.nop 6 0 (.nop 7 0 (.nop 8 192 (.bar 9 511 .done .none)))))))))), []⟩,
  .reg ⟨[(2, [])], .done, []⟩,
  .reg ⟨[], .done, []⟩]
theorem may_History_Did_16_of (h : Option Addr) (o : Carr [.int .i64, .int .i64, .int .i64, .int .i64, .int .i64, .str, .str, .slice]) (code : Int) (number : Int) (w : World) (K : Tup [.one .bool] → World → Prop) (hF_ : F16 h o code number w K) : may_History_Did_16 h o code number w K :=
  call_of_F (l := an16) (args := [Ty.mk (.one .ptr) h, Ty.mk (.agg [.int .i64, .int .i64, .int .i64, .int .i64, .int .i64, .str, .str, .slice]) o, Ty.mk (.one (.int .i64)) code, Ty.mk (.one (.int .i64)) number]) follows tabOk Tryz.func16 (by kernel_rfl) (by kernel_rfl) (by kernel_rfl) hF_

end Go.Proofs.YtcpoglgnkedpaaaGreatDoor
