/-
  What the functions' bodies ask (printed by vcgen.py).
-/
import Derived.Test.YtcpoglgnkedpaaaGreatDoorTS
namespace Go.Proofs.YtcpoglgnkedpaaaGreatDoor
open Go Go.Vc Go.Proofs


/-- (*purlin/tree.Tree).place -/
def F129 (t : Option Addr) (p : ByteArray) (w : World) (K : Tup [.agg [.int .i64, .int .i64, .str], .one (.int .i64)] → World → Prop) : Prop :=
  newP (.cells #[(.int .i64 0), (.int .i64 0), (.string (⟨#[]⟩ : ByteArray))] 151) w fun b1 w2 =>
  path_Last_142 p w2 fun r3 w4 =>
  cnd (r3.2.2 != 0) (
    stN ⟨b1, 0, none⟩ [(.int .i64 0), (.int .i64 0), (.string (⟨#[]⟩ : ByteArray))] w4 fun w5 =>
    ldA [.int .i64, .int .i64, .str] ⟨b1, 0, none⟩ w5 fun c6 =>
    K ((c6.1, c6.2.1, c6.2.2), r3.2.2) w5) (
    tree_Tree_find_91 t r3.1 true w4 fun r7 w8 =>
    newP (.cells #[(.int .i64 0), (.int .i64 0), (.string (⟨#[]⟩ : ByteArray))] 151) w8 fun b9 w10 =>
    stN ⟨b9, 0, none⟩ [(.int .i64 r7.1.1), (.int .i64 r7.1.2.1), (.string r7.1.2.2)] w10 fun w11 =>
    cnd (r7.2 != 0) (
      stN ⟨b1, 0, none⟩ [(.int .i64 0), (.int .i64 0), (.string (⟨#[]⟩ : ByteArray))] w11 fun w12 =>
      ldA [.int .i64, .int .i64, .str] ⟨b1, 0, none⟩ w12 fun c13 =>
      K ((c13.1, c13.2.1, c13.2.2), r7.2) w12) (
      onSome t fun A14 =>
      ldP (.map) A14 w11.drew fun x15 =>
      ldP (.int .i64) ⟨b9, 0, none⟩ w11.drew fun x16 =>
      rdP Tryz.prog (Instr.lookup 127 (.map x15) (.int .i64 x16) false) [.one .ptr] w11.drew fun c17 =>
      onSome c17 fun A18 =>
      ldP (.int .i64) A18 w11.drew fun x19 =>
      cnd (x19 != 2) (
        stN ⟨b1, 0, none⟩ [(.int .i64 0), (.int .i64 0), (.string (⟨#[]⟩ : ByteArray))] w11.drew fun w20 =>
        ldA [.int .i64, .int .i64, .str] ⟨b1, 0, none⟩ w20 fun c21 =>
        K ((c21.1, c21.2.1, c21.2.2), 7) w20) (
        ldP (.int .i64) ⟨b9, 0, none⟩ w11.drew fun x22 =>
        tree_Tree_way_145 t x22 w11.drew fun r23 w24 =>
        newP (.cells #[(.string r3.2.1)] 9) w24 fun b25 w26 =>
        runP Tryz.prog (Builtin.append_ #[41, 41] 41 #[(.slice r23.a r23.len r23.cap), (.slice (some ⟨b25, 0, none⟩) 1 1)]) [.one .slice] w26 fun c27 w28 =>
        tree_long_170 c27 w28 fun r29 w30 =>
        cnd r29 (
          stN ⟨b1, 0, none⟩ [(.int .i64 0), (.int .i64 0), (.string (⟨#[]⟩ : ByteArray))] w30 fun w31 =>
          ldA [.int .i64, .int .i64, .str] ⟨b1, 0, none⟩ w31 fun c32 =>
          K ((c32.1, c32.2.1, c32.2.2), 11) w31) (
          onSome c17 fun A33 =>
          ldP (.map) (A33.add 3) w30.drew fun x34 =>
          rdP Tryz.prog (Instr.lookup 66 (.map x34) (.string r3.2.1) false) [.one (.int .i64)] w30.drew fun c35 =>
          ldP (.int .i64) ⟨b9, 0, none⟩ w30.drew fun x36 =>
          stN ⟨b1, 0, none⟩ [(.int .i64 c35), (.int .i64 x36), (.string r3.2.1)] w30.drew fun w37 =>
          ldA [.int .i64, .int .i64, .str] ⟨b1, 0, none⟩ w37 fun c38 =>
          K ((c38.1, c38.2.1, c38.2.2), 0) w37))))
def an129 : List An := [
  .reg ⟨[], .done, []⟩,
  .reg ⟨[(1, [.one .str, .one .str, .one (.int .i64)])], .done, []⟩,
  .reg ⟨[], .done, []⟩,
  .nop,
  .reg ⟨[], .done, []⟩,
  .reg ⟨[(2, [.agg [.int .i64, .int .i64, .str], .one (.int .i64)])], .done, []⟩,
  .reg ⟨[], .done, []⟩,
  .nop,
  .reg ⟨[], .done, []⟩,
  .reg ⟨[], (.nop 0 0 (.nop 1 1 (.nop 2 3 (.nop 3 7 (.nop 4 0 (.nop 5 16 (.nop 6 63 (.nop 7 127 .done)))))))), []⟩,
  .nop,
  .reg ⟨[], .done, []⟩,
  .nop,
  .reg ⟨[], .done, []⟩,
  .reg ⟨[(3, [.one .slice]), (6, [.one .slice]), (7, [.one .bool])], .done, []⟩,
  .nop,
  .reg ⟨[], .done, []⟩,
  .reg ⟨[], (.nop 0 0 (.nop 1 1 (.nop 2 3 (.nop 3 7 (.nop 4 0 (.nop 5 31 (.nop 6 0 (.nop 7 64 (.nop 8 0 (.nop 9 511 (.bar 10 1023 (.nop 11 2047 .done) .none))))))))))), []⟩]
theorem tree_Tree_place_129_of (t : Option Addr) (p : ByteArray) (w : World) (K : Tup [.agg [.int .i64, .int .i64, .str], .one (.int .i64)] → World → Prop) (hF_ : F129 t p w K) : tree_Tree_place_129 t p w K :=
  call_of_F (l := an129) (args := [Ty.mk (.one .ptr) t, Ty.mk (.one .str) p]) follows tabOk Tryz.func129 (by kernel_rfl) (by kernel_rfl) (by kernel_rfl) hF_

/-- (*purlin/table.Table).Open -/
def F132 (t : Option Addr) (node : Int) (flags : Int) (w : World) (K : Tup [.one (.int .i64), .one (.int .i64)] → World → Prop) : Prop :=
  cnd (Option.isNone t) (
    K (0, 1) w) (
    onSome t fun A1 =>
    slcP ⟨some A1, 16, 16⟩ 0 none 4 fun s2 =>
    slices_IndexFunc_171 s2 (.func (.func 172) #[] #[]) w fun r3 w4 =>
    cnd (decide (r3 < 0)) (
      K (0, 14) w4) (
      onSome t fun A5 =>
      idxP r3 16 (
        stN (A5.add (Int.toNat r3 * 4)) [(.int .i64 node), (.int .i64 0), (.int .i64 flags), (.bool true)] w4 fun w6 =>
        K (r3, 0) w6)))
def an132 : List An := [
  .reg ⟨[], .done, []⟩,
  .reg ⟨[], .done, []⟩,
  .nop,
  .reg ⟨[], .done, []⟩,
  .reg ⟨[(4, [.one (.int .i64)])], .done, []⟩,
  .reg ⟨[], .done, []⟩,
  .nop,
  .reg ⟨[], .done, []⟩,
  .reg ⟨[], .done, []⟩,
  .reg ⟨[], .done, []⟩]
theorem table_Table_Open_132_of (t : Option Addr) (node : Int) (flags : Int) (w : World) (K : Tup [.one (.int .i64), .one (.int .i64)] → World → Prop) (hF_ : F132 t node flags w K) : table_Table_Open_132 t node flags w K :=
  call_of_F (l := an132) (args := [Ty.mk (.one .ptr) t, Ty.mk (.one (.int .i64)) node, Ty.mk (.one (.int .i64)) flags]) follows tabOk Tryz.func132 (by kernel_rfl) (by kernel_rfl) (by kernel_rfl) hF_

/-- (*purlin/tree.Tree).forget -/
def F134 (t : Option Addr) (n : Int) (w : World) (K : Tup [] → World → Prop) : Prop :=
  onSome t fun A1 =>
  ldP (.map) A1 w fun x2 =>
  rdP Tryz.prog (Instr.lookup 127 (.map x2) (.int .i64 n) false) [.one .ptr] w fun c3 =>
  joinP (σ := Tup [.one .bool]) (fun J4 =>
    cnd (!(Option.isNone c3)) (
      onSome c3 fun A7 =>
      ldP (.int .i64) (A7.add 5) w fun x8 =>
      cnd (x8 == 0) (
        cnd (n != 1) (
          onSome t fun A9 =>
          ldP (.ptr) (A9.add 2) w fun x10 =>
          table_Table_Holds_174 x10 n w fun r11 w12 =>
          J4 (!r11) w12) (
          J4 false w)) (
        J4 false w)) (
      J4 false w)) (fun s5 w6 =>
  cnd s5 (
    onSome t fun A13 =>
    ldP (.map) A13 w6 fun x14 =>
    runP Tryz.prog (Builtin.delete_ #[127, 3] 0 #[(.map x14), (.int .i64 n)]) [] w6 fun _c15 w16 =>
    K () w16) (
    K () w6))
def an134 : List An := [
  .reg ⟨[], .done, []⟩,
  .join [(32, .one .bool)] [11, 12, 13, 14, 15, 16, 17, 18, 19, 20, 21, 22, 23, 24, 25, 26, 27, 28, 29, 30, 31],
  .reg ⟨[(19, [.one .bool])], .done, []⟩,
  .nop,
  .reg ⟨[(5, [])], .done, []⟩]
theorem tree_Tree_forget_134_of (t : Option Addr) (n : Int) (w : World) (K : Tup [] → World → Prop) (hF_ : F134 t n w K) : tree_Tree_forget_134 t n w K :=
  call_of_F (l := an134) (args := [Ty.mk (.one .ptr) t, Ty.mk (.one (.int .i64)) n]) follows tabOk Tryz.func134 (by kernel_rfl) (by kernel_rfl) (by kernel_rfl) hF_

/-- (*purlin/tree.Tree).add -/
def F137 (t : Option Addr) (dir : Int) (name : ByteArray) (n : Int) (w : World) (K : Tup [] → World → Prop) : Prop :=
  onSome t fun A1 =>
  ldP (.map) A1 w.drew fun x2 =>
  rdP Tryz.prog (Instr.lookup 127 (.map x2) (.int .i64 dir) false) [.one .ptr] w.drew fun c3 =>
  onSome t fun A4 =>
  ldP (.map) A4 w.drew fun x5 =>
  rdP Tryz.prog (Instr.lookup 127 (.map x5) (.int .i64 n) false) [.one .ptr] w.drew fun c6 =>
  onSome c3 fun A7 =>
  ldP (.map) (A7.add 3) w.drew fun x8 =>
  runU Tryz.prog (Instr.mapUpdate 66 (.map x8) (.string name) (.int .i64 n)) w.drew fun w9 =>
  onSome c3 fun A10 =>
  ldP (.int .i64) (A10.add 4) w9.drew fun x11 =>
  onSome c3 fun A12 =>
  ldP (.map) (A12.add 3) w9.drew fun x13 =>
  rdP Tryz.prog (Builtin.len_ #[66] 3 #[(.map x13)]) [.one (.int .i64)] w9.drew fun c14 =>
  onSome c3 fun A15 =>
  stP (A15.add 4) (.int .i64 (maxI x11 c14)) w9.drew fun w16 =>
  onSome c6 fun A17 =>
  ldP (.int .i64) (A17.add 5) w16 fun x18 =>
  onSome c6 fun A19 =>
  stP (A19.add 5) (.int .i64 (w64 (x18 + 1))) w16 fun w20 =>
  onSome c6 fun A21 =>
  ldP (.int .i64) A21 w20 fun x22 =>
  cnd (x22 == 2) (
    onSome c6 fun A23 =>
    stP (A23.add 6) (.int .i64 dir) w20 fun w24 =>
    onSome c6 fun A25 =>
    stP (A25.add 5) (.int .i64 1) w24 fun w26 =>
    K () w26) (
    K () w20)
def an137 : List An := [
  .reg ⟨[], (.nop 0 0 (.nop 1 1 (.nop 2 3 (.nop 3 7 (.nop 4 0 (.nop 5 31 (.nop 6 0 (.nop 7 64 (.nop 8 192 (.nop 9 448 (.nop 10 0 (.nop 11 1984 (.nop 12 63 (.nop 13 8191 .done)))))))))))))), []⟩,
  .reg ⟨[], .done, []⟩,
  .reg ⟨[], (.nop 0 0 (.nop 1 0 (.nop 2 2 (.nop 3 6 (.nop 4 14 (.nop 5 0 (.nop 6 32 (.nop 7 96 (.nop 8 224 (.nop 9 480 (.nop 10 1022 (.nop 11 2047 (.nop 12 4095 (.bar 13 8191 .done .none)))))))))))))), []⟩,
  .reg ⟨[], .done, []⟩,
  .reg ⟨[], .done, []⟩,
  .nop,
  .reg ⟨[], .done, []⟩]
theorem tree_Tree_add_137_of (t : Option Addr) (dir : Int) (name : ByteArray) (n : Int) (w : World) (K : Tup [] → World → Prop) (hF_ : F137 t dir name n w K) : tree_Tree_add_137 t dir name n w K :=
  call_of_F (l := an137) (args := [Ty.mk (.one .ptr) t, Ty.mk (.one (.int .i64)) dir, Ty.mk (.one .str) name, Ty.mk (.one (.int .i64)) n]) follows tabOk Tryz.func137 (by kernel_rfl) (by kernel_rfl) (by kernel_rfl) hF_

/-- (*purlin/tree.Tree).take -/
def F138 (t : Option Addr) (dir : Int) (name : ByteArray) (w : World) (K : Tup [] → World → Prop) : Prop :=
  onSome t fun A1 =>
  ldP (.map) A1 w fun x2 =>
  rdP Tryz.prog (Instr.lookup 127 (.map x2) (.int .i64 dir) false) [.one .ptr] w fun c3 =>
  onSome c3 fun A4 =>
  ldP (.map) (A4.add 3) w fun x5 =>
  rdP Tryz.prog (Instr.lookup 66 (.map x5) (.string name) false) [.one (.int .i64)] w fun c6 =>
  onSome c3 fun A7 =>
  ldP (.map) (A7.add 3) w fun x8 =>
  runP Tryz.prog (Builtin.delete_ #[66, 9] 0 #[(.map x8), (.string name)]) [] w fun _c9 w10 =>
  onSome t fun A11 =>
  ldP (.map) A11 w10 fun x12 =>
  rdP Tryz.prog (Instr.lookup 127 (.map x12) (.int .i64 c6) false) [.one .ptr] w10 fun c13 =>
  onSome c13 fun A14 =>
  ldP (.int .i64) (A14.add 5) w10 fun x15 =>
  onSome c13 fun A16 =>
  stP (A16.add 5) (.int .i64 (w64 (x15 - 1))) w10 fun w17 =>
  onSome c13 fun A18 =>
  ldP (.int .i64) A18 w17 fun x19 =>
  cnd (x19 == 2) (
    onSome c13 fun A20 =>
    stP (A20.add 6) (.int .i64 0) w17 fun w21 =>
    tree_Tree_forget_134 t c6 w21 fun _r22 w23 =>
    K () w23) (
    tree_Tree_forget_134 t c6 w17 fun _r24 w25 =>
    K () w25)
def an138 : List An := [
  .reg ⟨[], .done, []⟩,
  .reg ⟨[], .done, []⟩,
  .reg ⟨[(5, [])], .done, []⟩,
  .reg ⟨[], .done, []⟩,
  .reg ⟨[], .done, []⟩,
  .reg ⟨[], .done, []⟩,
  .nop,
  .reg ⟨[], .done, []⟩,
  .reg ⟨[(2, [])], .done, []⟩]
theorem tree_Tree_take_138_of (t : Option Addr) (dir : Int) (name : ByteArray) (w : World) (K : Tup [] → World → Prop) (hF_ : F138 t dir name w K) : tree_Tree_take_138 t dir name w K :=
  call_of_F (l := an138) (args := [Ty.mk (.one .ptr) t, Ty.mk (.one (.int .i64)) dir, Ty.mk (.one .str) name]) follows tabOk Tryz.func138 (by kernel_rfl) (by kernel_rfl) (by kernel_rfl) hF_

/-- purlin/path.Last -/
def F142 (p : ByteArray) (w : World) (K : Tup [.one .str, .one .str, .one (.int .i64)] → World → Prop) : Prop :=
  path_Split_151 p w fun r1 w2 =>
  cnd (r1.2 != 0) (
    K ((⟨#[]⟩ : ByteArray), (⟨#[]⟩ : ByteArray), r1.2) w2) (
    cnd (decide ((w64 ((r1.1.len : Int) - 1)) < 0)) (
      K ((⟨#[]⟩ : ByteArray), (⟨#[]⟩ : ByteArray), 2) w2) (
      idxP (w64 ((r1.1.len : Int) - 1)) r1.1.len (
        onSome r1.1.a fun A3 =>
        ldP (.str) (A3.add (Int.toNat (w64 ((r1.1.len : Int) - 1)) * 1)) w2 fun x4 =>
        cnd (x4.toList == (⟨#[46, 46]⟩ : ByteArray).toList) (
          K ((⟨#[]⟩ : ByteArray), (⟨#[]⟩ : ByteArray), 2) w2) (
          slcP r1.1 0 (some (w64 ((r1.1.len : Int) - 1))) 1 fun s5 =>
          idxP (w64 ((r1.1.len : Int) - 1)) r1.1.len (
            onSome r1.1.a fun A6 =>
            ldP (.str) (A6.add (Int.toNat (w64 ((r1.1.len : Int) - 1)) * 1)) w2.drew fun x7 =>
            path_Join_181 s5 w2.drew fun r8 w9 =>
            (w9.cell? (A6.add (Int.toNat (w64 ((r1.1.len : Int) - 1)) * 1)) = some (.string x7)) ∧
            K (r8, x7, 0) w9)))))
def an142 : List An := [
  .reg ⟨[], .done, []⟩,
  .reg ⟨[(1, [.one .slice, .one (.int .i64)])], .done, []⟩,
  .reg ⟨[], .done, []⟩,
  .nop,
  .reg ⟨[], .done, []⟩,
  .reg ⟨[], .done, []⟩,
  .reg ⟨[], .done, []⟩,
  .nop,
  .reg ⟨[], .done, []⟩,
  .reg ⟨[(3, [.one .str])], (.nop 0 0 (.nop 1 0 (.nop 2 3 (.nop 4 0 (.nop 5 0 (.nop 6 48 (.nop 7 112 (.bar 3 7 (.nop 8 15 (.nop 9 511 (.nop 10 1023 .done))) .none)))))))), []⟩]
theorem path_Last_142_of (p : ByteArray) (w : World) (K : Tup [.one .str, .one .str, .one (.int .i64)] → World → Prop) (hF_ : F142 p w K) : path_Last_142 p w K :=
  call_of_F (l := an142) (args := [Ty.mk (.one .str) p]) follows tabOk Tryz.func142 (by kernel_rfl) (by kernel_rfl) (by kernel_rfl) hF_

/-- (*purlin/tree.Tree).way -/
def F145 (t : Option Addr) (n : Int) (w : World) (K : Tup [.one .slice] → World → Prop) : Prop :=
  loopP (σ := Tup [.one (.int .i64), .one .slice]) (fun again1 s2 w3 =>
    joinP (σ := Tup [.one .bool]) (fun J4 =>
      cnd (s2.1 != 1) (
        onSome t fun A7 =>
        ldP (.map) A7 w3 fun x8 =>
        rdP Tryz.prog (Instr.lookup 127 (.map x8) (.int .i64 s2.1) false) [.one .ptr] w3 fun c9 =>
        onSome c9 fun A10 =>
        ldP (.int .i64) (A10.add 6) w3 fun x11 =>
        J4 (x11 != 0) w3) (
        J4 false w3)) (fun s5 w6 =>
    cnd s5 (
      onSome t fun A12 =>
      ldP (.map) A12 w6 fun x13 =>
      rdP Tryz.prog (Instr.lookup 127 (.map x13) (.int .i64 s2.1) false) [.one .ptr] w6 fun c14 =>
      onSome c14 fun A15 =>
      ldP (.int .i64) (A15.add 6) w6 fun x16 =>
      onSome t fun A17 =>
      ldP (.map) A17 w6 fun x18 =>
      rdP Tryz.prog (Instr.lookup 127 (.map x18) (.int .i64 x16) false) [.one .ptr] w6 fun c19 =>
      onSome c19 fun A20 =>
      ldP (.map) (A20.add 3) w6 fun x21 =>
      runP Tryz.prog (Instr.range 66 (.map x21)) [.one .ptr] w6 fun c22 w23 =>
      loopP (σ := Tup [.one .slice]) (fun again24 s25 w26 =>
        nextP Tryz.prog (Instr.next (.pointer c22) false 0) [.one .str, .one (.int .i64)] w26 (fun w27 =>
          again1 (x16, s25) w27) (fun _c29 w28 =>
          rdP Tryz.prog (Instr.entry (.pointer c22)) [.one .str, .one (.int .i64)] w28 fun c30 =>
          cnd (c30.2 == s2.1) (
            newP (.cells #[(.string c30.1)] 9) w28 fun b31 w32 =>
            runP Tryz.prog (Builtin.append_ #[41, 41] 41 #[(.slice s25.a s25.len s25.cap), (.slice (some ⟨b31, 0, none⟩) 1 1)]) [.one .slice] w32 fun c33 w34 =>
            again24 c33 w34) (
            again24 s25 w28))) s2.2 w23) (
      slices_Reverse_183 s2.2 w6 fun _r35 w36 =>
      K s2.2 w36))) (n, ⟨none, 0, 0⟩) w
def an145 : List An := [
  .reg ⟨[], .done, []⟩,
  .reg ⟨[], .done, []⟩,
  .nop,
  .nop,
  .loop [(1, .one (.int .i64)), (5, .one .slice)] [6, 7, 8, 9, 10, 11, 12, 13, 14, 15, 16, 17, 18, 19, 20, 21, 22, 23, 24, 25, 26, 27, 28, 29, 30, 31, 32, 33, 34, 35, 36, 37, 38, 39, 40, 41, 42, 43, 44, 45, 46, 47, 48, 49, 50, 51, 52, 53, 54],
  .join [(22, .one .bool)] [9, 10, 11, 12, 13, 14, 15, 16, 17, 18, 19, 20, 21],
  .reg ⟨[], .done, []⟩,
  .nop,
  .nop,
  .reg ⟨[], .done, []⟩,
  .reg ⟨[], .done, []⟩,
  .nop,
  .nop,
  .loop [(5, .one .slice)] [7, 8, 42, 43, 44, 45, 46, 47, 48, 49, 50, 51, 52, 53],
  .reg ⟨[(0, [.one .str, .one (.int .i64)])], .done, []⟩,
  .nop,
  .nop,
  .reg ⟨[(0, [.one .str, .one (.int .i64)])], .done, []⟩,
  .reg ⟨[], .done, []⟩,
  .nop,
  .reg ⟨[(3, [.one .slice])], .done, []⟩,
  .reg ⟨[], .done, []⟩,
  .reg ⟨[(1, [])], .done, []⟩,
  .reg ⟨[], .done, []⟩]
theorem tree_Tree_way_145_of (t : Option Addr) (n : Int) (w : World) (K : Tup [.one .slice] → World → Prop) (hF_ : F145 t n w K) : tree_Tree_way_145 t n w K :=
  call_of_F (l := an145) (args := [Ty.mk (.one .ptr) t, Ty.mk (.one (.int .i64)) n]) follows tabOk Tryz.func145 (by kernel_rfl) (by kernel_rfl) (by kernel_rfl) hF_

/-- (*purlin/table.Table).Get -/
def F146 (t : Option Addr) (fd : Int) (w : World) (K : Tup [.agg [.int .i64, .int .i64, .int .i64], .one (.int .i64)] → World → Prop) : Prop :=
  newP (.cells #[(.int .i64 0), (.int .i64 0), (.int .i64 0)] 140) w fun b1 w2 =>
  table_Table_at_173 t fd w2 fun r3 w4 =>
  cnd (r3.2 != 0) (
    stN ⟨b1, 0, none⟩ [(.int .i64 0), (.int .i64 0), (.int .i64 0)] w4 fun w5 =>
    ldA [.int .i64, .int .i64, .int .i64] ⟨b1, 0, none⟩ w5 fun c6 =>
    K ((c6.1, c6.2.1, c6.2.2), r3.2) w5) (
    onSome r3.1 fun A7 =>
    ldA [.int .i64, .int .i64, .int .i64] A7 w4 fun c8 =>
    stN ⟨b1, 0, none⟩ [(.int .i64 c8.1), (.int .i64 c8.2.1), (.int .i64 c8.2.2)] w4 fun w9 =>
    ldA [.int .i64, .int .i64, .int .i64] ⟨b1, 0, none⟩ w9 fun c10 =>
    K ((c10.1, c10.2.1, c10.2.2), 0) w9)
def an146 : List An := [
  .reg ⟨[], .done, []⟩,
  .reg ⟨[(2, [.one .ptr, .one (.int .i64)])], .done, []⟩,
  .reg ⟨[], .done, []⟩,
  .nop,
  .reg ⟨[], .done, []⟩,
  .reg ⟨[], .done, []⟩]
theorem table_Table_Get_146_of (t : Option Addr) (fd : Int) (w : World) (K : Tup [.agg [.int .i64, .int .i64, .int .i64], .one (.int .i64)] → World → Prop) (hF_ : F146 t fd w K) : table_Table_Get_146 t fd w K :=
  call_of_F (l := an146) (args := [Ty.mk (.one .ptr) t, Ty.mk (.one (.int .i64)) fd]) follows tabOk Tryz.func146 (by kernel_rfl) (by kernel_rfl) (by kernel_rfl) hF_

/-- maps.Keys[map[int]*purlin/tree.node,int,*purlin/tree.node] -/
def F147 (p0 : Option Nat) (w : World) (K : Tup [.one .any] → World → Prop) : Prop :=
  newP (.cells #[(.map p0)] 127) w fun b1 w2 =>
  K (.func (.func 184) #[] #[(.pointer (some ⟨b1, 0, none⟩))]) w2
def an147 : List An := [
  .reg ⟨[], .done, []⟩,
  .reg ⟨[], .done, []⟩]
theorem maps_Keys_147_of (p0 : Option Nat) (w : World) (K : Tup [.one .any] → World → Prop) (hF_ : F147 p0 w K) : maps_Keys_147 p0 w K :=
  call_of_F (l := an147) (args := [Ty.mk (.one .map) p0]) follows tabOk Tryz.func147 (by kernel_rfl) (by kernel_rfl) (by kernel_rfl) hF_

/-- slices.IndexFunc[[]purlin/tree.File,purlin/tree.File] -/
def F148 (p0 : Sl) (s : Value) (w : World) (K : Tup [.one (.int .i64)] → World → Prop) : Prop :=
  loopP (σ := Tup [.one (.int .i64)]) (fun again1 s2 w3 =>
    cnd (decide (s2 < (p0.len : Int))) (
      idxP s2 p0.len (
        onSome p0.a fun A4 =>
        ldA [.int .i64, .int .i64, .int .i64, .slice, .slice, .map] (A4.add (Int.toNat s2 * 6)) w3 fun c5 =>
        callV Tryz.prog s #[(.agg #[(.int .i64 c5.1), (.int .i64 c5.2.1), (.int .i64 c5.2.2.1), (.slice c5.2.2.2.1.a c5.2.2.2.1.len c5.2.2.2.1.cap), (.slice c5.2.2.2.2.1.a c5.2.2.2.2.1.len c5.2.2.2.2.1.cap), (.map c5.2.2.2.2.2)])] [.one .bool] w3 fun r6 w7 =>
        cnd r6 (
          K s2 w7) (
          again1 (w64 (s2 + 1)) w7))) (
      K (-1) w3)) 0 w
def an148 : List An := [
  .reg ⟨[], .done, []⟩,
  .reg ⟨[], .done, []⟩,
  .nop,
  .nop,
  .loop [(8, .one (.int .i64))] [4, 5, 9, 10, 11, 12, 13, 14, 15, 16, 17, 18],
  .reg ⟨[], .done, []⟩,
  .nop,
  .nop,
  .reg ⟨[], .done, []⟩,
  .reg ⟨[(5, [.one .bool])], .done, []⟩,
  .nop,
  .reg ⟨[], .done, []⟩,
  .reg ⟨[], .done, []⟩,
  .reg ⟨[], .done, []⟩]
theorem slices_IndexFunc_148_of (p0 : Sl) (s : Value) (w : World) (K : Tup [.one (.int .i64)] → World → Prop) (hF_ : F148 p0 s w K) : slices_IndexFunc_148 p0 s w K :=
  call_of_F (l := an148) (args := [Ty.mk (.one .slice) p0, Ty.mk (.one .any) s]) follows tabOk Tryz.func148 (by kernel_rfl) (by kernel_rfl) (by kernel_rfl) hF_

/-- purlin/may.value -/
def F149 (l : Sl) (w : World) (K : Tup [.one (.int .i64)] → World → Prop) : Prop :=
  cnd ((l.len : Int) == 0) (
    K 0 w) (
    idxP (w64 ((l.len : Int) - 1)) l.len (
      onSome l.a fun A1 =>
      ldP (.int .i64) (A1.add (Int.toNat (w64 ((l.len : Int) - 1)) * 1)) w fun x2 =>
      K x2 w))
def an149 : List An := [
  .reg ⟨[], .done, []⟩,
  .reg ⟨[], .done, []⟩,
  .nop,
  .reg ⟨[], .done, []⟩,
  .reg ⟨[], .done, []⟩]
theorem may_value_149_of (l : Sl) (w : World) (K : Tup [.one (.int .i64)] → World → Prop) (hF_ : F149 l w K) : may_value_149 l w K :=
  call_of_F (l := an149) (args := [Ty.mk (.one .slice) l]) follows tabOk Tryz.func149 (by kernel_rfl) (by kernel_rfl) (by kernel_rfl) hF_

/-- purlin/path.Split -/
def F151 (p : ByteArray) (w : World) (K : Tup [.one .slice, .one (.int .i64)] → World → Prop) : Prop :=
  joinP (σ := Tup [.one .bool]) (fun J1 =>
    strings_HasPrefix_177 p (⟨#[47]⟩ : ByteArray) w fun r4 w5 =>
    cnd (!r4) (
      J1 true w5) (
      strings_Contains_175 p (⟨#[0]⟩ : ByteArray) w5 fun r6 w7 =>
      J1 r6 w7)) (fun s2 w3 =>
  cnd s2 (
    K (⟨none, 0, 0⟩, 2) w3) (
    path_parts_176 p w3 fun r8 w9 =>
    cnd (!r8.2) (
      K (⟨none, 0, 0⟩, 11) w9) (
      cnd (decide ((p.size : Int) > 200)) (
        K (⟨none, 0, 0⟩, 11) w9) (
        K (r8.1, 0) w9))))
def an151 : List An := [
  .reg ⟨[], .done, []⟩,
  .join [(12, .one .bool)] [6, 7, 8, 9, 10, 11],
  .reg ⟨[(1, [.one .bool]), (5, [.one .bool])], .done, []⟩,
  .nop,
  .reg ⟨[], .done, []⟩,
  .reg ⟨[(1, [.one .slice, .one .bool])], .done, []⟩,
  .reg ⟨[], .done, []⟩,
  .nop,
  .reg ⟨[], .done, []⟩,
  .reg ⟨[], .done, []⟩]
theorem path_Split_151_of (p : ByteArray) (w : World) (K : Tup [.one .slice, .one (.int .i64)] → World → Prop) (hF_ : F151 p w K) : path_Split_151 p w K :=
  call_of_F (l := an151) (args := [Ty.mk (.one .str) p]) follows tabOk Tryz.func151 (by kernel_rfl) (by kernel_rfl) (by kernel_rfl) hF_

/-- (*purlin/tree.Tree).walk -/
def F152 (t : Option Addr) (at_ : Int) (parts : Sl) (follow : Bool) (w : World) (K : Tup [.agg [.int .i64, .int .i64, .str], .one (.int .i64)] → World → Prop) : Prop :=
  newP (.cells #[(.int .i64 0), (.int .i64 0), (.string (⟨#[]⟩ : ByteArray))] 151) w fun b1 w2 =>
  newP (.cells #[(.int .i64 0), (.int .i64 0), (.string (⟨#[]⟩ : ByteArray))] 151) w2 fun b3 w4 =>
  stN ⟨b3, 0, none⟩ [(.int .i64 at_), (.int .i64 0), (.string (⟨#[]⟩ : ByteArray))] w4 fun w5 =>
  loopP (σ := Tup [.one .slice, .one (.int .i64)]) (fun again6 s7 w8 =>
    cnd (decide ((s7.1.len : Int) > 0)) (
      idxP 0 s7.1.len (
        onSome s7.1.a fun A9 =>
        ldP (.str) A9 w8.drew fun x10 =>
        onSome t fun A11 =>
        ldP (.map) A11 w8.drew fun x12 =>
        ldP (.int .i64) ⟨b3, 0, none⟩ w8.drew fun x13 =>
        rdP Tryz.prog (Instr.lookup 127 (.map x12) (.int .i64 x13) false) [.one .ptr] w8.drew fun c14 =>
        slcP s7.1 1 none 1 fun s15 =>
        onSome c14 fun A16 =>
        ldP (.int .i64) A16 w8.drew fun x17 =>
        cnd (x17 != 2) (
          stN ⟨b1, 0, none⟩ [(.int .i64 0), (.int .i64 0), (.string (⟨#[]⟩ : ByteArray))] w8.drew fun w18 =>
          ldA [.int .i64, .int .i64, .str] ⟨b1, 0, none⟩ w18 fun c19 =>
          K ((c19.1, c19.2.1, c19.2.2), 7) w18) (
          cnd (x10.toList == (⟨#[46, 46]⟩ : ByteArray).toList) (
            ldP (.int .i64) ⟨b3, 0, none⟩ w8.drew fun x20 =>
            tree_Tree_above_185 t x20 w8.drew fun r21 w22 =>
            stN ⟨b3, 0, none⟩ [(.int .i64 r21), (.int .i64 0), (.string (⟨#[]⟩ : ByteArray))] w22 fun w23 =>
            again6 (s15, s7.2) w23) (
            onSome c14 fun A24 =>
            ldP (.map) (A24.add 3) w8.drew fun x25 =>
            rdP Tryz.prog (Instr.lookup 66 (.map x25) (.string x10) true) [.one (.int .i64), .one .bool] w8.drew fun c26 =>
            cnd (!c26.2) (
              stN ⟨b1, 0, none⟩ [(.int .i64 0), (.int .i64 0), (.string (⟨#[]⟩ : ByteArray))] w8.drew fun w27 =>
              ldA [.int .i64, .int .i64, .str] ⟨b1, 0, none⟩ w27 fun c28 =>
              K ((c28.1, c28.2.1, c28.2.2), 5) w27) (
              onSome t fun A29 =>
              ldP (.map) A29 w8.drew fun x30 =>
              rdP Tryz.prog (Instr.lookup 127 (.map x30) (.int .i64 c26.1) false) [.one .ptr] w8.drew fun c31 =>
              joinP (σ := Tup [.one .bool]) (fun J32 =>
                onSome c31 fun A35 =>
                ldP (.int .i64) A35 w8.drew fun x36 =>
                cnd (x36 == 3) (
                  cnd (decide ((s15.len : Int) > 0)) (
                    J32 true w8.drew) (
                    J32 follow w8.drew)) (
                  J32 false w8.drew)) (fun s33 w34 =>
              cnd s33 (
                cnd (decide ((w64 (s7.2 + 1)) > 8)) (
                  stN ⟨b1, 0, none⟩ [(.int .i64 0), (.int .i64 0), (.string (⟨#[]⟩ : ByteArray))] w34 fun w37 =>
                  ldA [.int .i64, .int .i64, .str] ⟨b1, 0, none⟩ w37 fun c38 =>
                  K ((c38.1, c38.2.1, c38.2.2), 12) w37) (
                  onSome c31 fun A39 =>
                  ldP (.slice) (A39.add 1) w34 fun x40 =>
                  rdP Tryz.prog (convert 22 9 (.slice x40.a x40.len x40.cap)) [.one .str] w34 fun c41 =>
                  path_Target_139 c41 w34 fun r42 w43 =>
                  newP (.cells #[(.slice r42.1.a r42.1.len r42.1.cap), (.slice s15.a s15.len s15.cap)] 41) w43 fun b44 w45 =>
                  slices_Concat_186 ⟨(some ⟨b44, 0, none⟩), 2, 2⟩ w45 fun r46 w47 =>
                  ldP (.int .i64) ⟨b3, 0, none⟩ w47 fun x48 =>
                  stN ⟨b3, 0, none⟩ [(.int .i64 x48), (.int .i64 0), (.string (⟨#[]⟩ : ByteArray))] w47 fun w49 =>
                  cnd r42.2.1 (
                    stN ⟨b3, 0, none⟩ [(.int .i64 1), (.int .i64 0), (.string (⟨#[]⟩ : ByteArray))] w49 fun w50 =>
                    again6 (r46, (w64 (s7.2 + 1))) w50) (
                    again6 (r46, (w64 (s7.2 + 1))) w49))) (
                ldP (.int .i64) ⟨b3, 0, none⟩ w34 fun x51 =>
                stN ⟨b3, 0, none⟩ [(.int .i64 c26.1), (.int .i64 x51), (.string x10)] w34 fun w52 =>
                again6 (s15, s7.2) w52))))))) (
      ldA [.int .i64, .int .i64, .str] ⟨b3, 0, none⟩ w8 fun c53 =>
      stN ⟨b1, 0, none⟩ [(.int .i64 c53.1), (.int .i64 c53.2.1), (.string c53.2.2)] w8 fun w54 =>
      ldA [.int .i64, .int .i64, .str] ⟨b1, 0, none⟩ w54 fun c55 =>
      K ((c55.1, c55.2.1, c55.2.2), 0) w54)) (parts, 0) w5
def an152 : List An := [
  .reg ⟨[], .done, []⟩,
  .reg ⟨[], .done, []⟩,
  .reg ⟨[], .done, []⟩,
  .nop,
  .nop,
  .loop [(2, .one .slice), (11, .one (.int .i64))] [9, 12, 13, 14, 15, 16, 17, 18, 19, 22, 23, 24, 25, 26, 27, 28, 29, 30, 31, 32, 33, 34, 35, 36, 37, 38, 39, 40, 41, 42, 43, 44, 45, 46, 47, 48, 49, 50, 51, 52, 53, 54, 55, 56, 57, 58, 59, 60, 61, 62, 63, 64, 65, 66, 67, 68, 69, 70, 71, 72, 73, 74, 75, 76, 77, 78, 79, 80, 81, 82, 83, 84, 85, 86, 87, 88, 89, 90, 91, 92, 93, 94, 95, 96, 97, 98, 99, 100, 101, 102, 103, 104, 105, 106, 107, 108, 109, 110, 111],
  .reg ⟨[], .done, []⟩,
  .nop,
  .nop,
  .reg ⟨[], (.nop 0 0 (.nop 1 1 (.nop 2 3 (.nop 3 0 (.nop 4 8 (.nop 5 24 (.nop 6 56 (.nop 7 0 (.nop 8 128 (.nop 9 504 (.nop 10 7 (.nop 11 2047 .done)))))))))))), []⟩,
  .reg ⟨[], .done, []⟩,
  .nop,
  .reg ⟨[], .done, []⟩,
  .nop,
  .reg ⟨[], .done, []⟩,
  .reg ⟨[], .done, []⟩,
  .nop,
  .reg ⟨[(3, [.one (.int .i64)])], .done, []⟩,
  .reg ⟨[], .done, []⟩,
  .reg ⟨[], .done, []⟩,
  .nop,
  .reg ⟨[], .done, []⟩,
  .reg ⟨[], .done, []⟩,
  .join [(82, .one .bool)] [70, 71, 72, 73, 74, 75, 76, 77, 78, 79, 80, 81],
  .reg ⟨[], .done, []⟩,
  .nop,
  .reg ⟨[], .done, []⟩,
  .reg ⟨[], .done, []⟩,
  .nop,
  .reg ⟨[], .done, []⟩,
  .reg ⟨[(5, [.one .slice, .one .bool, .one (.int .i64)])], .done, []⟩,
  .reg ⟨[(3, [.one .slice])], .done, []⟩,
  .reg ⟨[], .done, []⟩,
  .reg ⟨[], .done, []⟩,
  .nop,
  .reg ⟨[], .done, []⟩,
  .reg ⟨[], .done, []⟩,
  .reg ⟨[], .done, []⟩]
theorem tree_Tree_walk_152_of (t : Option Addr) (at_ : Int) (parts : Sl) (follow : Bool) (w : World) (K : Tup [.agg [.int .i64, .int .i64, .str], .one (.int .i64)] → World → Prop) (hF_ : F152 t at_ parts follow w K) : tree_Tree_walk_152 t at_ parts follow w K :=
  call_of_F (l := an152) (args := [Ty.mk (.one .ptr) t, Ty.mk (.one (.int .i64)) at_, Ty.mk (.one .slice) parts, Ty.mk (.one .bool) follow]) follows tabOk Tryz.func152 (by kernel_rfl) (by kernel_rfl) (by kernel_rfl) hF_

end Go.Proofs.YtcpoglgnkedpaaaGreatDoor

/-
  What the functions' bodies ask (printed by vcgen.py).
-/
namespace Go.Proofs.YtcpoglgnkedpaaaGreatDoor
open Go Go.Vc Go.Proofs


/-- (*purlin/tree.Tree).rename -/
def F83 (t : Option Addr) (o : Carr [.int .i64, .int .i64, .int .i64, .int .i64, .int .i64, .str, .str, .slice]) (w : World) (K : Tup [.agg [.int .i64, .int .i64, .int .i64, .int .i64, .slice, .slice]] → World → Prop) : Prop :=
  newP (.cells #[(.int .i64 o.1), (.int .i64 o.2.1), (.int .i64 o.2.2.1), (.int .i64 o.2.2.2.1), (.int .i64 o.2.2.2.2.1), (.string o.2.2.2.2.2.1), (.string o.2.2.2.2.2.2.1), (.slice o.2.2.2.2.2.2.2.a o.2.2.2.2.2.2.2.len o.2.2.2.2.2.2.2.cap)] 28) w fun b1 w2 =>
  newP (.cells #[(.int .i64 0), (.int .i64 0), (.int .i64 0), (.int .i64 0), (.slice none 0 0), (.slice none 0 0)] 43) w2 fun b3 w4 =>
  ldP (.str) ⟨b1, 5, none⟩ w4 fun x5 =>
  ldP (.str) ⟨b1, 6, none⟩ w4 fun x6 =>
  newP (.cells #[(.string x5), (.string x6)] 9) w4 fun b7 w8 =>
  loopP (σ := Tup [.one (.int .i64)]) (fun again9 s10 w11 =>
    cnd (decide (s10 < (2 : Int))) (
      idxP s10 2 (
        ldP (.str) ((⟨b7, 0, none⟩ : Addr).add (Int.toNat s10 * 1)) w11 fun x12 =>
        path_Last_142 x12 w11 fun r13 w14 =>
        cnd (r13.2.2 != 0) (
          tree_code_70 r13.2.2 w14 fun r15 w16 =>
          stN ⟨b3, 0, none⟩ [(.int .i64 r15.1), (.int .i64 r15.2.1), (.int .i64 r15.2.2.1), (.int .i64 r15.2.2.2.1), (.slice r15.2.2.2.2.1.a r15.2.2.2.2.1.len r15.2.2.2.2.1.cap), (.slice r15.2.2.2.2.2.a r15.2.2.2.2.2.len r15.2.2.2.2.2.cap)] w16 fun w17 =>
          ldA [.int .i64, .int .i64, .int .i64, .int .i64, .slice, .slice] ⟨b3, 0, none⟩ w17 fun c18 =>
          K (c18.1, c18.2.1, c18.2.2.1, c18.2.2.2.1, c18.2.2.2.2.1, c18.2.2.2.2.2) w17) (
          again9 (w64 (s10 + 1)) w14))) (
      ldP (.str) ⟨b1, 5, none⟩ w11 fun x19 =>
      tree_Tree_place_129 t x19 w11 fun r20 w21 =>
      newP (.cells #[(.int .i64 0), (.int .i64 0), (.string (⟨#[]⟩ : ByteArray))] 151) w21 fun b22 w23 =>
      stN ⟨b22, 0, none⟩ [(.int .i64 r20.1.1), (.int .i64 r20.1.2.1), (.string r20.1.2.2)] w23 fun w24 =>
      cnd (r20.2 != 0) (
        tree_code_70 r20.2 w24 fun r25 w26 =>
        stN ⟨b3, 0, none⟩ [(.int .i64 r25.1), (.int .i64 r25.2.1), (.int .i64 r25.2.2.1), (.int .i64 r25.2.2.2.1), (.slice r25.2.2.2.2.1.a r25.2.2.2.2.1.len r25.2.2.2.2.1.cap), (.slice r25.2.2.2.2.2.a r25.2.2.2.2.2.len r25.2.2.2.2.2.cap)] w26 fun w27 =>
        ldA [.int .i64, .int .i64, .int .i64, .int .i64, .slice, .slice] ⟨b3, 0, none⟩ w27 fun c28 =>
        K (c28.1, c28.2.1, c28.2.2.1, c28.2.2.2.1, c28.2.2.2.2.1, c28.2.2.2.2.2) w27) (
        ldP (.int .i64) ⟨b22, 0, none⟩ w24 fun x29 =>
        cnd (x29 == 0) (
          tree_code_70 5 w24 fun r30 w31 =>
          stN ⟨b3, 0, none⟩ [(.int .i64 r30.1), (.int .i64 r30.2.1), (.int .i64 r30.2.2.1), (.int .i64 r30.2.2.2.1), (.slice r30.2.2.2.2.1.a r30.2.2.2.2.1.len r30.2.2.2.2.1.cap), (.slice r30.2.2.2.2.2.a r30.2.2.2.2.2.len r30.2.2.2.2.2.cap)] w31 fun w32 =>
          ldA [.int .i64, .int .i64, .int .i64, .int .i64, .slice, .slice] ⟨b3, 0, none⟩ w32 fun c33 =>
          K (c33.1, c33.2.1, c33.2.2.1, c33.2.2.2.1, c33.2.2.2.2.1, c33.2.2.2.2.2) w32) (
          ldP (.str) ⟨b1, 6, none⟩ w24 fun x34 =>
          tree_Tree_place_129 t x34 w24 fun r35 w36 =>
          newP (.cells #[(.int .i64 0), (.int .i64 0), (.string (⟨#[]⟩ : ByteArray))] 151) w36 fun b37 w38 =>
          stN ⟨b37, 0, none⟩ [(.int .i64 r35.1.1), (.int .i64 r35.1.2.1), (.string r35.1.2.2)] w38 fun w39 =>
          cnd (r35.2 != 0) (
            tree_code_70 r35.2 w39 fun r40 w41 =>
            stN ⟨b3, 0, none⟩ [(.int .i64 r40.1), (.int .i64 r40.2.1), (.int .i64 r40.2.2.1), (.int .i64 r40.2.2.2.1), (.slice r40.2.2.2.2.1.a r40.2.2.2.2.1.len r40.2.2.2.2.1.cap), (.slice r40.2.2.2.2.2.a r40.2.2.2.2.2.len r40.2.2.2.2.2.cap)] w41 fun w42 =>
            ldA [.int .i64, .int .i64, .int .i64, .int .i64, .slice, .slice] ⟨b3, 0, none⟩ w42 fun c43 =>
            K (c43.1, c43.2.1, c43.2.2.1, c43.2.2.2.1, c43.2.2.2.2.1, c43.2.2.2.2.2) w42) (
            onSome t fun A44 =>
            ldP (.map) A44 w39.drew fun x45 =>
            ldP (.int .i64) ⟨b22, 0, none⟩ w39.drew fun x46 =>
            rdP Tryz.prog (Instr.lookup 127 (.map x45) (.int .i64 x46) false) [.one .ptr] w39.drew fun c47 =>
            onSome t fun A48 =>
            ldP (.map) A48 w39.drew fun x49 =>
            ldP (.int .i64) ⟨b22, 0, none⟩ w39.drew fun x50 =>
            rdP Tryz.prog (Instr.lookup 127 (.map x49) (.int .i64 x50) false) [.one .ptr] w39.drew fun c51 =>
            onSome c51 fun A52 =>
            ldP (.int .i64) A52 w39.drew fun x53 =>
            joinP (σ := Tup [.one .bool]) (fun J54 =>
              cnd (x53 == 2) (
                ldP (.int .i64) ⟨b37, 1, none⟩ w39.drew fun x57 =>
                ldP (.int .i64) ⟨b22, 0, none⟩ w39.drew fun x58 =>
                tree_Tree_within_143 t x57 x58 w39.drew fun r59 w60 =>
                J54 r59 w60) (
                J54 false w39.drew)) (fun s55 w56 =>
            cnd s55 (
              tree_code_70 2 w56 fun r61 w62 =>
              stN ⟨b3, 0, none⟩ [(.int .i64 r61.1), (.int .i64 r61.2.1), (.int .i64 r61.2.2.1), (.int .i64 r61.2.2.2.1), (.slice r61.2.2.2.2.1.a r61.2.2.2.2.1.len r61.2.2.2.2.1.cap), (.slice r61.2.2.2.2.2.a r61.2.2.2.2.2.len r61.2.2.2.2.2.cap)] w62 fun w63 =>
              ldA [.int .i64, .int .i64, .int .i64, .int .i64, .slice, .slice] ⟨b3, 0, none⟩ w63 fun c64 =>
              K (c64.1, c64.2.1, c64.2.2.1, c64.2.2.2.1, c64.2.2.2.2.1, c64.2.2.2.2.2) w63) (
              joinP (σ := Tup [.one .bool]) (fun J65 =>
                cnd (x53 == 2) (
                  ldP (.int .i64) ⟨b22, 0, none⟩ w56.drew fun x68 =>
                  ldP (.int .i64) ⟨b37, 1, none⟩ w56.drew fun x69 =>
                  ldP (.str) ⟨b37, 2, none⟩ w56.drew fun x70 =>
                  (
                    tree_Tree_way_145 t x69 w56.drew fun r71 w72 =>
                    (w72.cell? ⟨b37, 2, none⟩ = some (.string x70)) ∧
                    (w72.cell? ⟨b22, 0, none⟩ = some (.int .i64 x68)) ∧
                    newP (.cells #[(.string x70)] 9) w72 fun b73 w74 =>
                    (w74.cell? ⟨b37, 1, none⟩ = some (.int .i64 x69)) ∧
                    (w74.cell? ⟨b22, 0, none⟩ = some (.int .i64 x68)) ∧
                    runP Tryz.prog (Builtin.append_ #[41, 41] 41 #[(.slice r71.a r71.len r71.cap), (.slice (some ⟨b73, 0, none⟩) 1 1)]) [.one .slice] w74 fun c75 w76 =>
                    (w76.cell? ⟨b22, 0, none⟩ = some (.int .i64 x68)) ∧
                    tree_Tree_deep_144 t x68 c75 w76 fun r77 w78 =>
                    J65 r77 w78) ∧
                  newP (.cells #[(.string x70)] 9) w56.drew fun b79 w80 =>
                  (w80.cell? ⟨b37, 1, none⟩ = some (.int .i64 x69)) ∧
                  (w80.cell? ⟨b22, 0, none⟩ = some (.int .i64 x68)) ∧
                  tree_Tree_way_145 t x69 w80 fun r81 w82 =>
                  (w82.cell? ⟨b37, 2, none⟩ = some (.string x70)) ∧
                  (w82.cell? ⟨b22, 0, none⟩ = some (.int .i64 x68)) ∧
                  runP Tryz.prog (Builtin.append_ #[41, 41] 41 #[(.slice r81.a r81.len r81.cap), (.slice (some ⟨b79, 0, none⟩) 1 1)]) [.one .slice] w82 fun c83 w84 =>
                  (w84.cell? ⟨b22, 0, none⟩ = some (.int .i64 x68)) ∧
                  tree_Tree_deep_144 t x68 c83 w84 fun r85 w86 =>
                  J65 r85 w86) (
                  (
                    J65 false w56.drew) ∧
                  J65 false w56.drew)) (fun s66 w67 =>
              cnd s66 (
                tree_code_70 11 w67 fun r87 w88 =>
                stN ⟨b3, 0, none⟩ [(.int .i64 r87.1), (.int .i64 r87.2.1), (.int .i64 r87.2.2.1), (.int .i64 r87.2.2.2.1), (.slice r87.2.2.2.2.1.a r87.2.2.2.2.1.len r87.2.2.2.2.1.cap), (.slice r87.2.2.2.2.2.a r87.2.2.2.2.2.len r87.2.2.2.2.2.cap)] w88 fun w89 =>
                ldA [.int .i64, .int .i64, .int .i64, .int .i64, .slice, .slice] ⟨b3, 0, none⟩ w89 fun c90 =>
                K (c90.1, c90.2.1, c90.2.2.1, c90.2.2.2.1, c90.2.2.2.2.1, c90.2.2.2.2.2) w89) (
                ldP (.int .i64) ⟨b37, 0, none⟩ w67 fun x91 =>
                ldP (.int .i64) ⟨b22, 0, none⟩ w67 fun x92 =>
                cnd (x91 == x92) (
                  stN ⟨b3, 0, none⟩ [(.int .i64 0), (.int .i64 0), (.int .i64 0), (.int .i64 0), (.slice none 0 0), (.slice none 0 0)] w67 fun w93 =>
                  ldA [.int .i64, .int .i64, .int .i64, .int .i64, .slice, .slice] ⟨b3, 0, none⟩ w93 fun c94 =>
                  K (c94.1, c94.2.1, c94.2.2.1, c94.2.2.2.1, c94.2.2.2.2.1, c94.2.2.2.2.2) w93) (
                  ldP (.int .i64) ⟨b37, 0, none⟩ w67 fun x95 =>
                  joinP (σ := Tup []) (fun J96 =>
                    cnd (x95 != 0) (
                      onSome t fun A99 =>
                      ldP (.map) A99 w67.drew fun x100 =>
                      ldP (.int .i64) ⟨b37, 0, none⟩ w67.drew fun x101 =>
                      rdP Tryz.prog (Instr.lookup 127 (.map x100) (.int .i64 x101) false) [.one .ptr] w67.drew fun c102 =>
                      joinP (σ := Tup [.one .bool]) (fun J103 =>
                        cnd (x53 == 2) (
                          onSome c102 fun A106 =>
                          ldP (.int .i64) A106 w67.drew fun x107 =>
                          J103 (x107 != 2) w67.drew) (
                          J103 false w67.drew)) (fun s104 w105 =>
                      cnd s104 (
                        tree_code_70 7 w105 fun r108 w109 =>
                        stN ⟨b3, 0, none⟩ [(.int .i64 r108.1), (.int .i64 r108.2.1), (.int .i64 r108.2.2.1), (.int .i64 r108.2.2.2.1), (.slice r108.2.2.2.2.1.a r108.2.2.2.2.1.len r108.2.2.2.2.1.cap), (.slice r108.2.2.2.2.2.a r108.2.2.2.2.2.len r108.2.2.2.2.2.cap)] w109 fun w110 =>
                        ldA [.int .i64, .int .i64, .int .i64, .int .i64, .slice, .slice] ⟨b3, 0, none⟩ w110 fun c111 =>
                        K (c111.1, c111.2.1, c111.2.2.1, c111.2.2.2.1, c111.2.2.2.2.1, c111.2.2.2.2.2) w110) (
                        joinP (σ := Tup [.one .bool]) (fun J112 =>
                          cnd (x53 == 2) (
                            onSome c102 fun A115 =>
                            ldP (.map) (A115.add 3) w105 fun x116 =>
                            rdP Tryz.prog (Builtin.len_ #[66] 3 #[(.map x116)]) [.one (.int .i64)] w105 fun c117 =>
                            J112 (decide (c117 > 0)) w105) (
                            J112 false w105)) (fun s113 w114 =>
                        cnd s113 (
                          tree_code_70 9 w114 fun r118 w119 =>
                          stN ⟨b3, 0, none⟩ [(.int .i64 r118.1), (.int .i64 r118.2.1), (.int .i64 r118.2.2.1), (.int .i64 r118.2.2.2.1), (.slice r118.2.2.2.2.1.a r118.2.2.2.2.1.len r118.2.2.2.2.1.cap), (.slice r118.2.2.2.2.2.a r118.2.2.2.2.2.len r118.2.2.2.2.2.cap)] w119 fun w120 =>
                          ldA [.int .i64, .int .i64, .int .i64, .int .i64, .slice, .slice] ⟨b3, 0, none⟩ w120 fun c121 =>
                          K (c121.1, c121.2.1, c121.2.2.1, c121.2.2.2.1, c121.2.2.2.2.1, c121.2.2.2.2.2) w120) (
                          joinP (σ := Tup [.one .bool]) (fun J122 =>
                            cnd (!(x53 == 2)) (
                              onSome c102 fun A125 =>
                              ldP (.int .i64) A125 w114 fun x126 =>
                              J122 (x126 == 2) w114) (
                              J122 false w114)) (fun s123 w124 =>
                          cnd s123 (
                            tree_code_70 8 w124 fun r127 w128 =>
                            stN ⟨b3, 0, none⟩ [(.int .i64 r127.1), (.int .i64 r127.2.1), (.int .i64 r127.2.2.1), (.int .i64 r127.2.2.2.1), (.slice r127.2.2.2.2.1.a r127.2.2.2.2.1.len r127.2.2.2.2.1.cap), (.slice r127.2.2.2.2.2.a r127.2.2.2.2.2.len r127.2.2.2.2.2.cap)] w128 fun w129 =>
                            ldA [.int .i64, .int .i64, .int .i64, .int .i64, .slice, .slice] ⟨b3, 0, none⟩ w129 fun c130 =>
                            K (c130.1, c130.2.1, c130.2.2.1, c130.2.2.2.1, c130.2.2.2.2.1, c130.2.2.2.2.2) w129) (
                            ldP (.int .i64) ⟨b37, 1, none⟩ w124 fun x131 =>
                            ldP (.str) ⟨b37, 2, none⟩ w124 fun x132 =>
                            tree_Tree_take_138 t x131 x132 w124 fun _r133 w134 =>
                            J96 () w134))))))) (
                      J96 () w67)) (fun _s97 w98 =>
                  onSome t fun A135 =>
                  ldP (.map) A135 w98.drew fun x136 =>
                  ldP (.int .i64) ⟨b22, 1, none⟩ w98.drew fun x137 =>
                  rdP Tryz.prog (Instr.lookup 127 (.map x136) (.int .i64 x137) false) [.one .ptr] w98.drew fun c138 =>
                  onSome c138 fun A139 =>
                  ldP (.map) (A139.add 3) w98.drew fun x140 =>
                  ldP (.str) ⟨b22, 2, none⟩ w98.drew fun x141 =>
                  runP Tryz.prog (Builtin.delete_ #[66, 9] 0 #[(.map x140), (.string x141)]) [] w98.drew fun _c142 w143 =>
                  onSome c47 fun A144 =>
                  ldP (.int .i64) (A144.add 5) w143 fun x145 =>
                  onSome c47 fun A146 =>
                  stP (A146.add 5) (.int .i64 (w64 (x145 - 1))) w143 fun w147 =>
                  ldP (.int .i64) ⟨b37, 1, none⟩ w147 fun x148 =>
                  ldP (.str) ⟨b37, 2, none⟩ w147 fun x149 =>
                  ldP (.int .i64) ⟨b22, 0, none⟩ w147 fun x150 =>
                  tree_Tree_add_137 t x148 x149 x150 w147 fun _r151 w152 =>
                  stN ⟨b3, 0, none⟩ [(.int .i64 0), (.int .i64 0), (.int .i64 0), (.int .i64 0), (.slice none 0 0), (.slice none 0 0)] w152 fun w153 =>
                  ldA [.int .i64, .int .i64, .int .i64, .int .i64, .slice, .slice] ⟨b3, 0, none⟩ w153 fun c154 =>
                  K (c154.1, c154.2.1, c154.2.2.1, c154.2.2.2.1, c154.2.2.2.2.1, c154.2.2.2.2.2) w153))))))))))) 0 w8
def an83 : List An := [
  .reg ⟨[], .done, []⟩,
  .reg ⟨[], .done, []⟩,
  .nop,
  .nop,
  .loop [(22, .one (.int .i64))] [6, 7, 8, 9, 23, 24, 25, 26, 27, 28, 29, 30, 31, 32, 33, 34, 35, 36],
  .reg ⟨[], .done, []⟩,
  .nop,
  .nop,
  .reg ⟨[], .done, []⟩,
  .reg ⟨[(1, [.one .str, .one .str, .one (.int .i64)])], .done, []⟩,
  .reg ⟨[], .done, []⟩,
  .nop,
  .reg ⟨[(1, [.agg [.int .i64, .int .i64, .int .i64, .int .i64, .slice, .slice]])], .done, []⟩,
  .reg ⟨[], .done, []⟩,
  .reg ⟨[(3, [.agg [.int .i64, .int .i64, .str], .one (.int .i64)])], .done, []⟩,
  .nop,
  .reg ⟨[], .done, []⟩,
  .nop,
  .reg ⟨[(1, [.agg [.int .i64, .int .i64, .int .i64, .int .i64, .slice, .slice]])], .done, []⟩,
  .reg ⟨[], .done, []⟩,
  .nop,
  .reg ⟨[(0, [.agg [.int .i64, .int .i64, .int .i64, .int .i64, .slice, .slice]])], .done, []⟩,
  .reg ⟨[(3, [.agg [.int .i64, .int .i64, .str], .one (.int .i64)])], .done, []⟩,
  .reg ⟨[], .done, []⟩,
  .nop,
  .reg ⟨[(1, [.agg [.int .i64, .int .i64, .int .i64, .int .i64, .slice, .slice]])], .done, []⟩,
  .reg ⟨[], (.nop 0 0 (.nop 1 1 (.nop 2 3 (.nop 3 7 (.nop 4 0 (.nop 5 16 (.nop 6 63 (.nop 7 0 (.nop 8 128 (.nop 9 384 (.nop 10 896 (.nop 11 0 (.nop 12 2048 (.nop 13 8064 (.nop 14 16256 (.nop 15 32640 (.nop 16 65408 (.nop 17 130944 (.nop 18 127 (.nop 19 524287 .done)))))))))))))))))))), []⟩,
  .nop,
  .join [(83, .one .bool)] [84, 85, 86, 87, 88, 89, 90, 91, 92],
  .reg ⟨[(7, [.one .bool])], .done, []⟩,
  .nop,
  .reg ⟨[(0, [.agg [.int .i64, .int .i64, .int .i64, .int .i64, .slice, .slice]])], .done, []⟩,
  .join [(94, .one .bool)] [95, 96, 97, 98, 99, 100, 101, 102, 103, 104, 105, 106, 107, 108, 109],
  .reg ⟨[(8, [.one .slice]), (12, [.one .slice]), (13, [.one .bool])], (.nop 0 0 (.nop 1 1 (.nop 2 3 (.nop 3 3 (.nop 4 11 (.nop 5 3 (.nop 6 3 (.nop 7 67 (.nop 9 3 (.nop 10 515 (.bar 8 227 (.bar 11 1539 (.bar 12 4067 (.bar 13 8191 (.nop 14 16383 (.nop 15 32767 .done)) .none) .none) .none) (.bar 11 1539 (.bar 8 227 (.bar 12 4067 (.bar 13 8191 (.nop 14 16383 (.nop 15 32767 .done)) .none) .none) .none) .none)))))))))))), []⟩,
  .nop,
  .reg ⟨[(0, [.agg [.int .i64, .int .i64, .int .i64, .int .i64, .slice, .slice]])], .done, []⟩,
  .reg ⟨[], .done, []⟩,
  .nop,
  .reg ⟨[], .done, []⟩,
  .reg ⟨[], .done, []⟩,
  .join [] [15, 121, 122, 123, 124, 125, 126, 127, 128, 129, 130, 131, 132, 133, 134, 135, 136, 137, 138, 139, 140, 141, 142, 143, 144, 145, 146, 147, 148, 149, 150, 151, 152, 153, 154, 155, 156, 157, 158, 159, 160, 161, 162, 163, 164, 165],
  .reg ⟨[], (.nop 0 0 (.nop 1 1 (.nop 2 3 (.nop 3 7 (.nop 4 0 (.nop 5 16 (.nop 6 63 (.nop 7 127 .done)))))))), []⟩,
  .nop,
  .join [(128, .one .bool)] [129, 130, 131, 132, 133, 134, 135, 136],
  .reg ⟨[], .done, []⟩,
  .nop,
  .reg ⟨[(0, [.agg [.int .i64, .int .i64, .int .i64, .int .i64, .slice, .slice]])], .done, []⟩,
  .join [(138, .one .bool)] [139, 140, 141, 142, 143, 144, 145, 146, 147],
  .reg ⟨[], .done, []⟩,
  .nop,
  .reg ⟨[(0, [.agg [.int .i64, .int .i64, .int .i64, .int .i64, .slice, .slice]])], .done, []⟩,
  .join [(149, .one .bool)] [150, 151, 152, 153, 154, 155, 156, 157, 158],
  .reg ⟨[], .done, []⟩,
  .nop,
  .reg ⟨[(0, [.agg [.int .i64, .int .i64, .int .i64, .int .i64, .slice, .slice]])], .done, []⟩,
  .reg ⟨[(5, [])], .done, []⟩,
  .reg ⟨[(12, [])], (.nop 0 0 (.nop 1 1 (.nop 2 3 (.nop 3 7 (.nop 4 0 (.nop 5 16 (.nop 6 63 (.nop 7 127 (.nop 8 255 (.nop 9 511 (.nop 10 0 (.nop 11 1024 (.bar 12 4095 .done .none))))))))))))), []⟩,
  .reg ⟨[], .done, []⟩,
  .reg ⟨[(7, [])], .done, []⟩,
  .reg ⟨[], .done, []⟩]
theorem tree_Tree_rename_83_of (t : Option Addr) (o : Carr [.int .i64, .int .i64, .int .i64, .int .i64, .int .i64, .str, .str, .slice]) (w : World) (K : Tup [.agg [.int .i64, .int .i64, .int .i64, .int .i64, .slice, .slice]] → World → Prop) (hF_ : F83 t o w K) : tree_Tree_rename_83 t o w K :=
  call_of_F (l := an83) (args := [Ty.mk (.one .ptr) t, Ty.mk (.agg [.int .i64, .int .i64, .int .i64, .int .i64, .int .i64, .str, .str, .slice]) o]) follows tabOk Tryz.func83 (by kernel_rfl) (by kernel_rfl) (by kernel_rfl) hF_

/-- (*purlin/tree.Tree).Files -/
def F86 (t : Option Addr) (w : World) (K : Tup [.one .slice] → World → Prop) : Prop :=
  cnd (Option.isNone t) (
    K ⟨none, 0, 0⟩ w) (
    onSome t fun A1 =>
    ldP (.map) A1 w fun x2 =>
    maps_Keys_147 x2 w fun r3 w4 =>
    slices_Sorted_52 r3 w4 fun r5 w6 =>
    loopP (σ := Tup [.one .slice, .one (.int .i64)]) (fun again7 s8 w9 =>
      cnd (decide (s8.2 < (r5.len : Int))) (
        idxP s8.2 r5.len (
          onSome r5.a fun A10 =>
          ldP (.int .i64) (A10.add (Int.toNat s8.2 * 1)) w9 fun x11 =>
          onSome t fun A12 =>
          ldP (.map) A12 w9 fun x13 =>
          rdP Tryz.prog (Instr.lookup 127 (.map x13) (.int .i64 x11) false) [.one .ptr] w9 fun c14 =>
          onSome c14 fun A15 =>
          ldP (.int .i64) A15 w9.drew fun x16 =>
          onSome c14 fun A17 =>
          ldP (.int .i64) (A17.add 5) w9.drew fun x18 =>
          onSome c14 fun A19 =>
          ldP (.slice) (A19.add 1) w9.drew fun x20 =>
          onSome c14 fun A21 =>
          ldP (.slice) (A21.add 2) w9.drew fun x22 =>
          onSome c14 fun A23 =>
          ldP (.map) (A23.add 3) w9.drew fun x24 =>
          slices_Clone_67 x20 w9.drew fun r25 w26 =>
          (w26.cell? (A23.add 3) = some (.map x24)) ∧
          (w26.cell? (A21.add 2) = some (.slice x22.a x22.len x22.cap)) ∧
          (w26.cell? (A17.add 5) = some (.int .i64 x18)) ∧
          (w26.cell? A15 = some (.int .i64 x16)) ∧
          slices_Clone_68 x22 w26 fun r27 w28 =>
          (w28.cell? (A23.add 3) = some (.map x24)) ∧
          (w28.cell? (A17.add 5) = some (.int .i64 x18)) ∧
          (w28.cell? A15 = some (.int .i64 x16)) ∧
          maps_Clone_69 x24 w28 fun r29 w30 =>
          (w30.cell? (A17.add 5) = some (.int .i64 x18)) ∧
          (w30.cell? A15 = some (.int .i64 x16)) ∧
          newP (.cells #[(.int .i64 x11), (.int .i64 x16), (.int .i64 x18), (.slice r25.a r25.len r25.cap), (.slice r27.a r27.len r27.cap), (.map r29)] 108) w30 fun b31 w32 =>
          runP Tryz.prog (Builtin.append_ #[111, 111] 111 #[(.slice s8.1.a s8.1.len s8.1.cap), (.slice (some ⟨b31, 0, none⟩) 1 1)]) [.one .slice] w32 fun c33 w34 =>
          again7 (c33, (w64 (s8.2 + 1))) w34)) (
        K s8.1 w9)) (⟨none, 0, 0⟩, 0) w6)
def an86 : List An := [
  .reg ⟨[], .done, []⟩,
  .reg ⟨[], .done, []⟩,
  .nop,
  .reg ⟨[], .done, []⟩,
  .reg ⟨[], .done, []⟩,
  .reg ⟨[(4, [.one .any]), (5, [.one .slice])], .done, []⟩,
  .nop,
  .nop,
  .loop [(3, .one .slice), (16, .one (.int .i64))] [5, 6, 17, 18, 19, 20, 21, 22, 23, 24, 25, 26, 27, 28, 29, 30, 31, 32, 33, 34, 35, 36, 37, 38, 39, 40, 41, 42, 43, 44, 45, 46, 47, 48, 49, 50, 51, 52, 53, 54],
  .reg ⟨[], .done, []⟩,
  .nop,
  .nop,
  .reg ⟨[], .done, []⟩,
  .reg ⟨[], .done, []⟩,
  .reg ⟨[(14, [.one .slice]), (19, [.one .slice]), (24, [.one .map]), (27, [.one .slice])], (.nop 0 0 (.nop 1 0 (.nop 2 0 (.nop 3 4 (.nop 4 12 (.nop 5 28 (.nop 6 0 (.nop 7 64 (.nop 8 192 (.nop 9 448 (.nop 10 0 (.nop 11 1024 (.nop 12 3072 (.nop 13 7168 (.nop 15 0 (.nop 16 32768 (.nop 17 98304 (.nop 18 229376 (.nop 20 0 (.nop 21 1048576 (.nop 22 3145728 (.nop 23 7340032 (.bar 14 15360 (.bar 19 523264 (.bar 24 16776192 (.nop 25 33554430 (.bar 26 67108862 (.bar 27 134217727 (.bar 28 268435455 .done .none) .none) .none)) .none) .none) .none))))))))))))))))))))))), [28]⟩,
  .reg ⟨[], .done, []⟩,
  .reg ⟨[], .done, []⟩]
theorem tree_Tree_Files_86_of (t : Option Addr) (w : World) (K : Tup [.one .slice] → World → Prop) (hF_ : F86 t w K) : tree_Tree_Files_86 t w K :=
  call_of_F (l := an86) (args := [Ty.mk (.one .ptr) t]) follows tabOk Tryz.func86 (by kernel_rfl) (by kernel_rfl) (by kernel_rfl) hF_

/-- slices.ContainsFunc[[]purlin/tree.File,purlin/tree.File] -/
def F87 (p0 : Sl) (s : Value) (w : World) (K : Tup [.one .bool] → World → Prop) : Prop :=
  slices_IndexFunc_148 p0 s w fun r1 w2 =>
  K (decide (r1 ≥ 0)) w2
def an87 : List An := [
  .reg ⟨[], .done, []⟩,
  .reg ⟨[(2, [.one (.int .i64)])], .done, []⟩]
theorem slices_ContainsFunc_87_of (p0 : Sl) (s : Value) (w : World) (K : Tup [.one .bool] → World → Prop) (hF_ : F87 p0 s w K) : slices_ContainsFunc_87 p0 s w K :=
  call_of_F (l := an87) (args := [Ty.mk (.one .slice) p0, Ty.mk (.one .any) s]) follows tabOk Tryz.func87 (by kernel_rfl) (by kernel_rfl) (by kernel_rfl) hF_

/-- purlin/may.fresh$1 -/
def F88 (y : Carr [.int .i64, .int .i64, .int .i64, .slice, .slice, .map]) (p1 : Option Addr) (w : World) (K : Tup [.one .bool] → World → Prop) : Prop :=
  newP (.cells #[(.int .i64 y.1), (.int .i64 y.2.1), (.int .i64 y.2.2.1), (.slice y.2.2.2.1.a y.2.2.2.1.len y.2.2.2.1.cap), (.slice y.2.2.2.2.1.a y.2.2.2.2.1.len y.2.2.2.2.1.cap), (.map y.2.2.2.2.2)] 108) w fun b1 w2 =>
  ldP (.int .i64) ⟨b1, 0, none⟩ w2 fun x3 =>
  onSome p1 fun A4 =>
  ldP (.int .i64) A4 w2 fun x5 =>
  K (x3 == x5) w2
def an88 : List An := [
  .reg ⟨[], .done, []⟩,
  .reg ⟨[], .done, []⟩]
theorem may_fresh_1_88_of (y : Carr [.int .i64, .int .i64, .int .i64, .slice, .slice, .map]) (p1 : Option Addr) (w : World) (K : Tup [.one .bool] → World → Prop) (hF_ : F88 y p1 w K) : may_fresh_1_88 y p1 w K :=
  call_of_F (l := an88) (args := [Ty.mk (.agg [.int .i64, .int .i64, .int .i64, .slice, .slice, .map]) y, Ty.mk (.one .ptr) p1]) follows tabOk Tryz.func88 (by kernel_rfl) (by kernel_rfl) (by kernel_rfl) hF_

/-- (*purlin/may.file).write -/
def F89 (f : Option Addr) (data : Sl) (w : World) (K : Tup [] → World → Prop) : Prop :=
  onSome f fun A1 =>
  ldP (.slice) (A1.add 2) w fun x2 =>
  may_value_149 x2 w fun r3 w4 =>
  joinP (σ := Tup []) (fun J5 =>
    cnd (r3 != (data.len : Int)) (
      onSome f fun A8 =>
      ldP (.slice) (A8.add 2) w4 fun x9 =>
      newP (.cells #[(.int .i64 (data.len : Int))] 3) w4 fun b10 w11 =>
      runP Tryz.prog (Builtin.append_ #[53, 53] 53 #[(.slice x9.a x9.len x9.cap), (.slice (some ⟨b10, 0, none⟩) 1 1)]) [.one .slice] w11 fun c12 w13 =>
      onSome f fun A14 =>
      stP (A14.add 2) (.slice c12.a c12.len c12.cap) w13 fun w15 =>
      J5 () w15) (
      J5 () w4)) (fun _s6 w7 =>
  inode_Need_50 (maxI r3 (data.len : Int)) w7 fun r16 w17 =>
  loopP (σ := Tup [.one (.int .i64)]) (fun again18 s19 w20 =>
    cnd (decide (s19 < r16)) (
      onSome f fun A21 =>
      ldP (.map) (A21.add 3) w20 fun x22 =>
      rdP Tryz.prog (Instr.lookup 133 (.map x22) (.int .i64 s19) false) [.one .slice] w20 fun c23 =>
      joinP (σ := Tup [.one .slice]) (fun J24 =>
        cnd (Option.isNone c23.a) (
          may_part_123 ⟨none, 0, 0⟩ 0 w20 fun r27 w28 =>
          newP (.cells #[(.slice r27.a r27.len r27.cap)] 22) w28 fun b29 w30 =>
          J24 ⟨(some ⟨b29, 0, none⟩), 1, 1⟩ w30) (
          J24 c23 w20)) (fun s25 w26 =>
      may_part_123 data s19 w26 fun r31 w32 =>
      idxP (w64 ((s25.len : Int) - 1)) s25.len (
        onSome s25.a fun A33 =>
        ldP (.slice) (A33.add (Int.toNat (w64 ((s25.len : Int) - 1)) * 1)) w32 fun x34 =>
        bytes_Equal_150 x34 r31 w32 fun r35 w36 =>
        cnd (!r35) (
          newP (.cells #[(.slice r31.a r31.len r31.cap)] 22) w36 fun b37 w38 =>
          runP Tryz.prog (Builtin.append_ #[194, 194] 194 #[(.slice s25.a s25.len s25.cap), (.slice (some ⟨b37, 0, none⟩) 1 1)]) [.one .slice] w38 fun c39 w40 =>
          onSome f fun A41 =>
          ldP (.map) (A41.add 3) w40 fun x42 =>
          runU Tryz.prog (Instr.mapUpdate 133 (.map x42) (.int .i64 s19) (.slice c39.a c39.len c39.cap)) w40 fun w43 =>
          again18 (w64 (s19 + 1)) w43) (
          onSome f fun A44 =>
          ldP (.map) (A44.add 3) w36 fun x45 =>
          runU Tryz.prog (Instr.mapUpdate 133 (.map x45) (.int .i64 s19) (.slice s25.a s25.len s25.cap)) w36 fun w46 =>
          again18 (w64 (s19 + 1)) w46)))) (
      K () w20)) 0 w17)
def an89 : List An := [
  .reg ⟨[(4, [.one (.int .i64)])], .done, []⟩,
  .reg ⟨[], .done, []⟩,
  .join [] [17, 18, 19, 20, 21, 22, 23, 24, 25, 26, 27],
  .reg ⟨[(8, [.one .slice])], .done, []⟩,
  .reg ⟨[(4, [.one (.int .i64)])], .done, []⟩,
  .nop,
  .nop,
  .loop [(33, .one (.int .i64))] [5, 6, 7, 34, 35, 36, 37, 38, 39, 40, 41, 42, 43, 44, 45, 46, 47, 48, 49, 50, 51, 52, 53, 54, 55, 56, 57, 58, 59, 60, 61, 62, 63, 64, 65, 66, 67, 68],
  .reg ⟨[], .done, []⟩,
  .nop,
  .nop,
  .reg ⟨[], .done, []⟩,
  .reg ⟨[], .done, []⟩,
  .reg ⟨[], .done, []⟩,
  .join [(6, .one .slice)] [44, 45],
  .reg ⟨[(0, [.one .slice])], .done, []⟩,
  .reg ⟨[(2, [.one .slice])], .done, []⟩,
  .reg ⟨[(7, [.one .bool])], .done, []⟩,
  .nop,
  .reg ⟨[(3, [.one .slice])], .done, []⟩,
  .reg ⟨[], .done, []⟩,
  .reg ⟨[], .done, []⟩]
theorem may_file_write_89_of (f : Option Addr) (data : Sl) (w : World) (K : Tup [] → World → Prop) (hF_ : F89 f data w K) : may_file_write_89 f data w K :=
  call_of_F (l := an89) (args := [Ty.mk (.one .ptr) f, Ty.mk (.one .slice) data]) follows tabOk Tryz.func89 (by kernel_rfl) (by kernel_rfl) (by kernel_rfl) hF_

/-- (*purlin/may.History).set -/
def F90 (h : Option Addr) (e : Carr [.int .i64, .str]) (n : Int) (w : World) (K : Tup [] → World → Prop) : Prop :=
  newP (.cells #[(.int .i64 e.1), (.string e.2)] 77) w fun b1 w2 =>
  onSome h fun A3 =>
  ldP (.map) (A3.add 4) w2.drew fun x4 =>
  ldA [.int .i64, .str] ⟨b1, 0, none⟩ w2.drew fun c5 =>
  rdP Tryz.prog (Instr.lookup 72 (.map x4) (.agg #[(.int .i64 c5.1), (.string c5.2)]) true) [.one .slice, .one .bool] w2.drew fun c6 =>
  joinP (σ := Tup [.one .slice]) (fun J7 =>
    cnd (!c6.2) (
      newP (.cells #[(.int .i64 0)] 3) w2.drew fun b10 w11 =>
      J7 ⟨(some ⟨b10, 0, none⟩), 1, 1⟩ w11) (
      J7 c6.1 w2.drew)) (fun s8 w9 =>
  may_value_149 s8 w9 fun r12 w13 =>
  cnd (r12 != n) (
    newP (.cells #[(.int .i64 n)] 3) w13 fun b14 w15 =>
    runP Tryz.prog (Builtin.append_ #[53, 53] 53 #[(.slice s8.a s8.len s8.cap), (.slice (some ⟨b14, 0, none⟩) 1 1)]) [.one .slice] w15 fun c16 w17 =>
    onSome h fun A18 =>
    ldP (.map) (A18.add 4) w17.drew fun x19 =>
    ldA [.int .i64, .str] ⟨b1, 0, none⟩ w17.drew fun c20 =>
    runU Tryz.prog (Instr.mapUpdate 72 (.map x19) (.agg #[(.int .i64 c20.1), (.string c20.2)]) (.slice c16.a c16.len c16.cap)) w17.drew fun w21 =>
    K () w21) (
    onSome h fun A22 =>
    ldP (.map) (A22.add 4) w13.drew fun x23 =>
    ldA [.int .i64, .str] ⟨b1, 0, none⟩ w13.drew fun c24 =>
    runU Tryz.prog (Instr.mapUpdate 72 (.map x23) (.agg #[(.int .i64 c24.1), (.string c24.2)]) (.slice s8.a s8.len s8.cap)) w13.drew fun w25 =>
    K () w25))
def an90 : List An := [
  .reg ⟨[], .done, []⟩,
  .reg ⟨[], (.nop 0 0 (.nop 1 1 (.nop 2 3 (.nop 3 7 (.nop 4 0 (.nop 5 31 (.nop 6 63 (.nop 7 127 (.nop 8 127 (.nop 9 255 (.nop 10 1023 .done))))))))))), []⟩,
  .reg ⟨[], .done, []⟩,
  .join [(6, .one .slice)] [19],
  .reg ⟨[], .done, []⟩,
  .reg ⟨[(1, [.one (.int .i64)])], .done, []⟩,
  .nop,
  .reg ⟨[(3, [.one .slice])], .done, []⟩,
  .reg ⟨[], (.nop 0 0 (.nop 1 1 (.nop 2 3 (.nop 3 7 (.nop 4 0 (.nop 5 0 (.bar 6 63 .done .none))))))), []⟩]
theorem may_History_set_90_of (h : Option Addr) (e : Carr [.int .i64, .str]) (n : Int) (w : World) (K : Tup [] → World → Prop) (hF_ : F90 h e n w K) : may_History_set_90 h e n w K :=
  call_of_F (l := an90) (args := [Ty.mk (.one .ptr) h, Ty.mk (.agg [.int .i64, .str]) e, Ty.mk (.one (.int .i64)) n]) follows tabOk Tryz.func90 (by kernel_rfl) (by kernel_rfl) (by kernel_rfl) hF_

/-- (*purlin/tree.Tree).find -/
def F91 (t : Option Addr) (p : ByteArray) (follow : Bool) (w : World) (K : Tup [.agg [.int .i64, .int .i64, .str], .one (.int .i64)] → World → Prop) : Prop :=
  newP (.cells #[(.int .i64 0), (.int .i64 0), (.string (⟨#[]⟩ : ByteArray))] 151) w fun b1 w2 =>
  path_Split_151 p w2 fun r3 w4 =>
  cnd (r3.2 != 0) (
    stN ⟨b1, 0, none⟩ [(.int .i64 0), (.int .i64 0), (.string (⟨#[]⟩ : ByteArray))] w4 fun w5 =>
    ldA [.int .i64, .int .i64, .str] ⟨b1, 0, none⟩ w5 fun c6 =>
    K ((c6.1, c6.2.1, c6.2.2), r3.2) w5) (
    tree_Tree_walk_152 t 1 r3.1 follow w4 fun r7 w8 =>
    stN ⟨b1, 0, none⟩ [(.int .i64 r7.1.1), (.int .i64 r7.1.2.1), (.string r7.1.2.2)] w8 fun w9 =>
    ldA [.int .i64, .int .i64, .str] ⟨b1, 0, none⟩ w9 fun c10 =>
    K ((c10.1, c10.2.1, c10.2.2), r7.2) w9)
def an91 : List An := [
  .reg ⟨[], .done, []⟩,
  .reg ⟨[(1, [.one .slice, .one (.int .i64)])], .done, []⟩,
  .reg ⟨[], .done, []⟩,
  .nop,
  .reg ⟨[], .done, []⟩,
  .reg ⟨[(3, [.agg [.int .i64, .int .i64, .str], .one (.int .i64)])], .done, []⟩]
theorem tree_Tree_find_91_of (t : Option Addr) (p : ByteArray) (follow : Bool) (w : World) (K : Tup [.agg [.int .i64, .int .i64, .str], .one (.int .i64)] → World → Prop) (hF_ : F91 t p follow w K) : tree_Tree_find_91 t p follow w K :=
  call_of_F (l := an91) (args := [Ty.mk (.one .ptr) t, Ty.mk (.one .str) p, Ty.mk (.one .bool) follow]) follows tabOk Tryz.func91 (by kernel_rfl) (by kernel_rfl) (by kernel_rfl) hF_

/-- (*purlin/tree.Tree).Open -/
def F92 (t : Option Addr) (fd : Int) (w : World) (K : Tup [.one (.int .i64), .one (.int .i64), .one .bool] → World → Prop) : Prop :=
  cnd (Option.isNone t) (
    K (0, 0, false) w) (
    onSome t fun A1 =>
    ldP (.ptr) (A1.add 2) w fun x2 =>
    table_Table_Get_146 x2 fd w fun r3 w4 =>
    newP (.cells #[(.int .i64 0), (.int .i64 0), (.int .i64 0)] 140) w4 fun b5 w6 =>
    stN ⟨b5, 0, none⟩ [(.int .i64 r3.1.1), (.int .i64 r3.1.2.1), (.int .i64 r3.1.2.2)] w6 fun w7 =>
    ldP (.int .i64) ⟨b5, 0, none⟩ w7.drew fun x8 =>
    ldP (.int .i64) ⟨b5, 2, none⟩ w7.drew fun x9 =>
    K (x8, x9, (r3.2 == 0)) w7.drew)
def an92 : List An := [
  .reg ⟨[], .done, []⟩,
  .reg ⟨[], .done, []⟩,
  .nop,
  .reg ⟨[], .done, []⟩,
  .reg ⟨[(5, [.agg [.int .i64, .int .i64, .int .i64], .one (.int .i64)])], .done, []⟩,
  .reg ⟨[], (.nop 0 0 (.nop 1 1 (.nop 2 0 (.nop 3 4 (.nop 4 0 (.nop 5 16 (.nop 6 3 (.nop 7 79 (.nop 8 255 .done))))))))), []⟩]
theorem tree_Tree_Open_92_of (t : Option Addr) (fd : Int) (w : World) (K : Tup [.one (.int .i64), .one (.int .i64), .one .bool] → World → Prop) (hF_ : F92 t fd w K) : tree_Tree_Open_92 t fd w K :=
  call_of_F (l := an92) (args := [Ty.mk (.one .ptr) t, Ty.mk (.one (.int .i64)) fd]) follows tabOk Tryz.func92 (by kernel_rfl) (by kernel_rfl) (by kernel_rfl) hF_

/-- (*purlin/may.History).now -/
def F94 (h : Option Addr) (e : Carr [.int .i64, .str]) (w : World) (K : Tup [.one (.int .i64)] → World → Prop) : Prop :=
  newP (.cells #[(.int .i64 e.1), (.string e.2)] 77) w fun b1 w2 =>
  onSome h fun A3 =>
  ldP (.map) (A3.add 4) w2.drew fun x4 =>
  ldA [.int .i64, .str] ⟨b1, 0, none⟩ w2.drew fun c5 =>
  rdP Tryz.prog (Instr.lookup 72 (.map x4) (.agg #[(.int .i64 c5.1), (.string c5.2)]) false) [.one .slice] w2.drew fun c6 =>
  may_value_149 c6 w2.drew fun r7 w8 =>
  K r7 w8
def an94 : List An := [
  .reg ⟨[], .done, []⟩,
  .reg ⟨[(6, [.one (.int .i64)])], (.nop 0 0 (.nop 1 1 (.nop 2 3 (.nop 3 7 (.nop 4 0 (.nop 5 31 (.bar 6 63 (.nop 7 127 .done) .none))))))), []⟩]
theorem may_History_now_94_of (h : Option Addr) (e : Carr [.int .i64, .str]) (w : World) (K : Tup [.one (.int .i64)] → World → Prop) (hF_ : F94 h e w K) : may_History_now_94 h e w K :=
  call_of_F (l := an94) (args := [Ty.mk (.one .ptr) h, Ty.mk (.agg [.int .i64, .str]) e]) follows tabOk Tryz.func94 (by kernel_rfl) (by kernel_rfl) (by kernel_rfl) hF_

end Go.Proofs.YtcpoglgnkedpaaaGreatDoor

/-
  What the functions' bodies ask (printed by vcgen.py).
-/
namespace Go.Proofs.YtcpoglgnkedpaaaGreatDoor
open Go Go.Vc Go.Proofs


/-- (*purlin/may.History).last -/
def F59 (h : Option Addr) (e : Carr [.int .i64, .str]) (w : World) (K : Tup [] → World → Prop) : Prop :=
  newP (.cells #[(.int .i64 e.1), (.string e.2)] 77) w fun b1 w2 =>
  ldA [.int .i64, .str] ⟨b1, 0, none⟩ w2 fun c3 =>
  may_History_now_94 h (c3.1, c3.2) w2 fun r4 w5 =>
  onSome h fun A6 =>
  ldP (.map) (A6.add 4) w5.drew fun x7 =>
  ldA [.int .i64, .str] ⟨b1, 0, none⟩ w5.drew fun c8 =>
  newP (.cells #[(.int .i64 r4)] 3) w5.drew fun b9 w10 =>
  (cellsAt w10 ⟨b1, 0, none⟩ [(.int .i64 c8.1), (.string c8.2)]) ∧
  (w10.cell? (A6.add 4) = some (.map x7)) ∧
  runU Tryz.prog (Instr.mapUpdate 72 (.map x7) (.agg #[(.int .i64 c8.1), (.string c8.2)]) (.slice (some ⟨b9, 0, none⟩) 1 1)) w10 fun w11 =>
  cnd (r4 != 0) (
    onSome h fun A12 =>
    ldP (.map) (A12.add 3) w11.drew fun x13 =>
    may_History_links_120 h r4 w11.drew fun r14 w15 =>
    (w15.cell? (A12.add 3) = some (.map x13)) ∧
    runU Tryz.prog (Instr.mapUpdate 71 (.map x13) (.int .i64 r4) (.agg #[(.bool true), (.bool true), (.bool (r14 == 1))])) w15 fun w16 =>
    K () w16) (
    K () w11)
def an59 : List An := [
  .reg ⟨[], .done, []⟩,
  .reg ⟨[(2, [.one (.int .i64)])], .done, []⟩,
  .reg ⟨[], (.nop 0 0 (.nop 1 1 (.nop 2 3 (.nop 3 7 (.nop 4 0 (.nop 5 0 (.bar 6 32 (.bar 7 127 .done .none) .none))))))), []⟩,
  .reg ⟨[], .done, []⟩,
  .nop,
  .reg ⟨[(7, [.one (.int .i64)])], (.nop 0 0 (.nop 1 1 (.nop 2 3 (.nop 3 7 (.nop 4 0 (.nop 5 0 (.nop 6 0 (.bar 7 96 (.nop 8 224 (.nop 9 480 (.bar 10 1023 .done .none))) .none)))))))), []⟩]
theorem may_History_last_59_of (h : Option Addr) (e : Carr [.int .i64, .str]) (w : World) (K : Tup [] → World → Prop) (hF_ : F59 h e w K) : may_History_last_59 h e w K :=
  call_of_F (l := an59) (args := [Ty.mk (.one .ptr) h, Ty.mk (.agg [.int .i64, .str]) e]) follows tabOk Tryz.func59 (by kernel_rfl) (by kernel_rfl) (by kernel_rfl) hF_

/-- (*purlin/may.History).firm -/
def F60 (h : Option Addr) (n : Int) (w : World) (K : Tup [] → World → Prop) : Prop :=
  onSome h fun A1 =>
  ldP (.map) (A1.add 2) w fun x2 =>
  rdP Tryz.prog (Instr.lookup 70 (.map x2) (.int .i64 n) false) [.one .ptr] w fun c3 =>
  onSome c3 fun A4 =>
  ldP (.slice) (A4.add 2) w.drew fun x5 =>
  onSome c3 fun A6 =>
  ldP (.slice) (A6.add 2) w.drew fun x7 =>
  slcP x5 (w64 ((x7.len : Int) - 1)) none 1 fun s8 =>
  onSome c3 fun A9 =>
  stP (A9.add 2) (.slice s8.a s8.len s8.cap) w.drew fun w10 =>
  onSome c3 fun A11 =>
  ldP (.map) (A11.add 3) w10 fun x12 =>
  runP Tryz.prog (Instr.range 133 (.map x12)) [.one .ptr] w10 fun c13 w14 =>
  loopP (σ := Tup []) (fun again15 _s16 w17 =>
    nextP Tryz.prog (Instr.next (.pointer c13) false 0) [.one (.int .i64), .one .slice] w17 (fun w18 =>
      K () w18) (fun _c20 w19 =>
      rdP Tryz.prog (Instr.entry (.pointer c13)) [.one (.int .i64), .one .slice] w19 fun c21 =>
      onSome c3 fun A22 =>
      ldP (.map) (A22.add 3) w19.drew fun x23 =>
      slcP c21.2 (w64 ((c21.2.len : Int) - 1)) none 1 fun s24 =>
      runU Tryz.prog (Instr.mapUpdate 133 (.map x23) (.int .i64 c21.1) (.slice s24.a s24.len s24.cap)) w19.drew fun w25 =>
      again15 () w25)) () w14
def an60 : List An := [
  .reg ⟨[], .done, []⟩,
  .reg ⟨[], (.nop 0 0 (.nop 1 0 (.nop 2 2 (.nop 3 6 (.nop 4 14 (.nop 5 0 (.nop 6 32 (.nop 7 96 (.nop 8 224 (.nop 9 480 (.nop 10 992 (.nop 11 2046 (.nop 12 4095 (.nop 13 8191 (.bar 14 16383 .done .none))))))))))))))), []⟩,
  .reg ⟨[], .done, []⟩,
  .nop,
  .nop,
  .loop [] [5, 6, 32, 33, 34, 35, 36, 37, 38, 39, 40, 41, 42, 43, 44, 45, 46],
  .reg ⟨[(0, [.one (.int .i64), .one .slice])], .done, []⟩,
  .nop,
  .nop,
  .reg ⟨[(0, [.one (.int .i64), .one .slice])], .done, []⟩,
  .reg ⟨[], (.nop 0 0 (.nop 1 1 (.nop 2 3 (.nop 3 7 (.nop 4 0 (.nop 5 0 (.nop 6 0 (.nop 7 64 (.nop 8 192 (.nop 9 480 (.bar 10 1023 .done .none))))))))))), []⟩]
theorem may_History_firm_60_of (h : Option Addr) (n : Int) (w : World) (K : Tup [] → World → Prop) (hF_ : F60 h n w K) : may_History_firm_60 h n w K :=
  call_of_F (l := an60) (args := [Ty.mk (.one .ptr) h, Ty.mk (.one (.int .i64)) n]) follows tabOk Tryz.func60 (by kernel_rfl) (by kernel_rfl) (by kernel_rfl) hF_

/-- purlin/table.New -/
def F61  (w : World) (K : Tup [.one .ptr] → World → Prop) : Prop :=
  newP (.cells #[(.int .i64 0), (.int .i64 0), (.int .i64 0), (.bool false), (.int .i64 0), (.int .i64 0), (.int .i64 0), (.bool false), (.int .i64 0), (.int .i64 0), (.int .i64 0), (.bool false), (.int .i64 0), (.int .i64 0), (.int .i64 0), (.bool false), (.int .i64 0), (.int .i64 0), (.int .i64 0), (.bool false), (.int .i64 0), (.int .i64 0), (.int .i64 0), (.bool false), (.int .i64 0), (.int .i64 0), (.int .i64 0), (.bool false), (.int .i64 0), (.int .i64 0), (.int .i64 0), (.bool false), (.int .i64 0), (.int .i64 0), (.int .i64 0), (.bool false), (.int .i64 0), (.int .i64 0), (.int .i64 0), (.bool false), (.int .i64 0), (.int .i64 0), (.int .i64 0), (.bool false), (.int .i64 0), (.int .i64 0), (.int .i64 0), (.bool false), (.int .i64 0), (.int .i64 0), (.int .i64 0), (.bool false), (.int .i64 0), (.int .i64 0), (.int .i64 0), (.bool false), (.int .i64 0), (.int .i64 0), (.int .i64 0), (.bool false), (.int .i64 0), (.int .i64 0), (.int .i64 0), (.bool false)] 145) w fun b1 w2 =>
  K (some ⟨b1, 0, none⟩) w2
def an61 : List An := [
  .reg ⟨[], .done, []⟩,
  .reg ⟨[], .done, []⟩]
theorem table_New_61_of (w : World) (K : Tup [.one .ptr] → World → Prop) (hF_ : F61  w K) : table_New_61  w K :=
  call_of_F (l := an61) (args := []) follows tabOk Tryz.func61 (by kernel_rfl) (by kernel_rfl) (by kernel_rfl) hF_

/-- (*purlin/may.History).node -/
def F62 (h : Option Addr) (number : Int) (w : World) (K : Tup [.one (.int .i64)] → World → Prop) : Prop :=
  cnd (decide (number < 1)) (
    K 0 w) (
    may_History_youngest_122 h number w fun r1 w2 =>
    may_History_youngest_122 h 0 w2 fun r3 w4 =>
    newP (.cells #[(.int .i64 r1), (.int .i64 r3)] 3) w4 fun b5 w6 =>
    cmp_Or_121 ⟨(some ⟨b5, 0, none⟩), 2, 2⟩ w6 fun r7 w8 =>
    K r7 w8)
def an62 : List An := [
  .reg ⟨[], .done, []⟩,
  .reg ⟨[], .done, []⟩,
  .nop,
  .reg ⟨[], .done, []⟩,
  .reg ⟨[(2, [.one (.int .i64)]), (4, [.one (.int .i64)]), (6, [.one (.int .i64)])], .done, []⟩]
theorem may_History_node_62_of (h : Option Addr) (number : Int) (w : World) (K : Tup [.one (.int .i64)] → World → Prop) (hF_ : F62 h number w K) : may_History_node_62 h number w K :=
  call_of_F (l := an62) (args := [Ty.mk (.one .ptr) h, Ty.mk (.one (.int .i64)) number]) follows tabOk Tryz.func62 (by kernel_rfl) (by kernel_rfl) (by kernel_rfl) hF_

/-- (*purlin/may.History).values -/
def F63 (h : Option Addr) (e : Carr [.int .i64, .str]) (w : World) (K : Tup [.one .slice] → World → Prop) : Prop :=
  newP (.cells #[(.int .i64 e.1), (.string e.2)] 77) w fun b1 w2 =>
  onSome h fun A3 =>
  ldP (.map) (A3.add 4) w2.drew fun x4 =>
  ldA [.int .i64, .str] ⟨b1, 0, none⟩ w2.drew fun c5 =>
  rdP Tryz.prog (Instr.lookup 72 (.map x4) (.agg #[(.int .i64 c5.1), (.string c5.2)]) true) [.one .slice, .one .bool] w2.drew fun c6 =>
  cnd (!c6.2) (
    newP (.cells #[(.int .i64 0)] 3) w2.drew fun b7 w8 =>
    K ⟨(some ⟨b7, 0, none⟩), 1, 1⟩ w8) (
    K c6.1 w2.drew)
def an63 : List An := [
  .reg ⟨[], .done, []⟩,
  .reg ⟨[], (.nop 0 0 (.nop 1 1 (.nop 2 3 (.nop 3 7 (.nop 4 0 (.nop 5 31 (.nop 6 63 (.nop 7 127 (.nop 8 127 (.nop 9 255 (.nop 10 1023 .done))))))))))), []⟩,
  .reg ⟨[], .done, []⟩,
  .nop,
  .reg ⟨[], .done, []⟩,
  .reg ⟨[], .done, []⟩]
theorem may_History_values_63_of (h : Option Addr) (e : Carr [.int .i64, .str]) (w : World) (K : Tup [.one .slice] → World → Prop) (hF_ : F63 h e w K) : may_History_values_63 h e w K :=
  call_of_F (l := an63) (args := [Ty.mk (.one .ptr) h, Ty.mk (.agg [.int .i64, .str]) e]) follows tabOk Tryz.func63 (by kernel_rfl) (by kernel_rfl) (by kernel_rfl) hF_

/-- (*purlin/may.file).holds -/
def F64 (f : Option Addr) (data : Sl) (w : World) (K : Tup [.one .bool] → World → Prop) : Prop :=
  onSome f fun A1 =>
  ldP (.slice) (A1.add 2) w fun x2 =>
  slices_Contains_29 x2 (data.len : Int) w fun r3 w4 =>
  cnd (!r3) (
    K false w4) (
    inode_Need_50 (data.len : Int) w4 fun r5 w6 =>
    loopP (σ := Tup [.one (.int .i64)]) (fun again7 s8 w9 =>
      cnd (decide (s8 < r5)) (
        onSome f fun A10 =>
        ldP (.map) (A10.add 3) w9 fun x11 =>
        rdP Tryz.prog (Instr.lookup 133 (.map x11) (.int .i64 s8) false) [.one .slice] w9 fun c12 =>
        joinP (σ := Tup [.one .slice]) (fun J13 =>
          cnd (Option.isNone c12.a) (
            may_part_123 ⟨none, 0, 0⟩ 0 w9 fun r16 w17 =>
            newP (.cells #[(.slice r16.a r16.len r16.cap)] 22) w17 fun b18 w19 =>
            J13 ⟨(some ⟨b18, 0, none⟩), 1, 1⟩ w19) (
            J13 c12 w9)) (fun s14 w15 =>
        slcP data (w64 (s8 * 128)) (some (minI (w64 ((w64 (s8 + 1)) * 128)) (data.len : Int))) 1 fun s20 =>
        newP (.cells #[(.slice none 0 0)] 22) w15 fun b21 w22 =>
        stP ⟨b21, 0, none⟩ (.slice s20.a s20.len s20.cap) w22 fun w23 =>
        slices_ContainsFunc_124 s14 (.func (.func 125) #[] #[(.pointer (some ⟨b21, 0, none⟩))]) w23 fun r24 w25 =>
        cnd (!r24) (
          K false w25) (
          again7 (w64 (s8 + 1)) w25))) (
        K true w9)) 0 w6)
def an64 : List An := [
  .reg ⟨[], .done, []⟩,
  .reg ⟨[(6, [.one .bool])], .done, []⟩,
  .nop,
  .reg ⟨[], .done, []⟩,
  .reg ⟨[(2, [.one (.int .i64)])], .done, []⟩,
  .nop,
  .nop,
  .loop [(19, .one (.int .i64))] [4, 5, 6, 7, 20, 21, 22, 23, 24, 25, 26, 27, 28, 29, 30, 31, 32, 33, 34, 35, 36, 37, 38, 39, 40, 41, 42, 43, 44, 45, 46],
  .reg ⟨[], .done, []⟩,
  .nop,
  .nop,
  .reg ⟨[], .done, []⟩,
  .reg ⟨[], .done, []⟩,
  .reg ⟨[], .done, []⟩,
  .join [(6, .one .slice)] [30, 31],
  .reg ⟨[(0, [.one .slice])], .done, []⟩,
  .reg ⟨[], .done, []⟩,
  .reg ⟨[(2, [.one .bool])], .done, []⟩,
  .nop,
  .reg ⟨[], .done, []⟩,
  .reg ⟨[], .done, []⟩,
  .reg ⟨[], .done, []⟩]
theorem may_file_holds_64_of (f : Option Addr) (data : Sl) (w : World) (K : Tup [.one .bool] → World → Prop) (hF_ : F64 f data w K) : may_file_holds_64 f data w K :=
  call_of_F (l := an64) (args := [Ty.mk (.one .ptr) f, Ty.mk (.one .slice) data]) follows tabOk Tryz.func64 (by kernel_rfl) (by kernel_rfl) (by kernel_rfl) hF_

/-- slices.Index[[]int,int] -/
def F65 (p0 : Sl) (s : Int) (w : World) (K : Tup [.one (.int .i64)] → World → Prop) : Prop :=
  loopP (σ := Tup [.one (.int .i64)]) (fun again1 s2 w3 =>
    cnd (decide (s2 < (p0.len : Int))) (
      idxP s2 p0.len (
        onSome p0.a fun A4 =>
        ldP (.int .i64) (A4.add (Int.toNat s2 * 1)) w3 fun x5 =>
        cnd (s == x5) (
          K s2 w3) (
          again1 (w64 (s2 + 1)) w3))) (
      K (-1) w3)) 0 w
def an65 : List An := [
  .reg ⟨[], .done, []⟩,
  .reg ⟨[], .done, []⟩,
  .nop,
  .nop,
  .loop [(8, .one (.int .i64))] [4, 5, 9, 10, 11, 12, 13, 14, 15, 16, 17, 18],
  .reg ⟨[], .done, []⟩,
  .nop,
  .nop,
  .reg ⟨[], .done, []⟩,
  .reg ⟨[], .done, []⟩,
  .nop,
  .reg ⟨[], .done, []⟩,
  .reg ⟨[], .done, []⟩,
  .reg ⟨[], .done, []⟩]
theorem slices_Index_65_of (p0 : Sl) (s : Int) (w : World) (K : Tup [.one (.int .i64)] → World → Prop) (hF_ : F65 p0 s w K) : slices_Index_65 p0 s w K :=
  call_of_F (l := an65) (args := [Ty.mk (.one .slice) p0, Ty.mk (.one (.int .i64)) s]) follows tabOk Tryz.func65 (by kernel_rfl) (by kernel_rfl) (by kernel_rfl) hF_

/-- slices.Clone[[]byte,byte] -/
def F67 (p0 : Sl) (w : World) (K : Tup [.one .slice] → World → Prop) : Prop :=
  cnd (Option.isNone p0.a) (
    K ⟨none, 0, 0⟩ w) (
    newP (.cells #[] 5) w fun b1 w2 =>
    runP Tryz.prog (Builtin.append_ #[22, 22] 22 #[(.slice (some ⟨b1, 0, none⟩) 0 0), (.slice p0.a p0.len p0.cap)]) [.one .slice] w2 fun c3 w4 =>
    K c3 w4)
def an67 : List An := [
  .reg ⟨[], .done, []⟩,
  .reg ⟨[], .done, []⟩,
  .nop,
  .reg ⟨[], .done, []⟩,
  .reg ⟨[(2, [.one .slice])], .done, []⟩]
theorem slices_Clone_67_of (p0 : Sl) (w : World) (K : Tup [.one .slice] → World → Prop) (hF_ : F67 p0 w K) : slices_Clone_67 p0 w K :=
  call_of_F (l := an67) (args := [Ty.mk (.one .slice) p0]) follows tabOk Tryz.func67 (by kernel_rfl) (by kernel_rfl) (by kernel_rfl) hF_

/-- slices.Clone[[]bool,bool] -/
def F68 (p0 : Sl) (w : World) (K : Tup [.one .slice] → World → Prop) : Prop :=
  cnd (Option.isNone p0.a) (
    K ⟨none, 0, 0⟩ w) (
    newP (.cells #[] 4) w fun b1 w2 =>
    runP Tryz.prog (Builtin.append_ #[84, 84] 84 #[(.slice (some ⟨b1, 0, none⟩) 0 0), (.slice p0.a p0.len p0.cap)]) [.one .slice] w2 fun c3 w4 =>
    K c3 w4)
def an68 : List An := [
  .reg ⟨[], .done, []⟩,
  .reg ⟨[], .done, []⟩,
  .nop,
  .reg ⟨[], .done, []⟩,
  .reg ⟨[(2, [.one .slice])], .done, []⟩]
theorem slices_Clone_68_of (p0 : Sl) (w : World) (K : Tup [.one .slice] → World → Prop) (hF_ : F68 p0 w K) : slices_Clone_68 p0 w K :=
  call_of_F (l := an68) (args := [Ty.mk (.one .slice) p0]) follows tabOk Tryz.func68 (by kernel_rfl) (by kernel_rfl) (by kernel_rfl) hF_

/-- purlin/tree.code -/
def F70 (e : Int) (w : World) (K : Tup [.agg [.int .i64, .int .i64, .int .i64, .int .i64, .slice, .slice]] → World → Prop) : Prop :=
  newP (.cells #[(.int .i64 0), (.int .i64 0), (.int .i64 0), (.int .i64 0), (.slice none 0 0), (.slice none 0 0)] 43) w fun b1 w2 =>
  stN ⟨b1, 0, none⟩ [(.int .i64 e), (.int .i64 0), (.int .i64 0), (.int .i64 0), (.slice none 0 0), (.slice none 0 0)] w2 fun w3 =>
  ldA [.int .i64, .int .i64, .int .i64, .int .i64, .slice, .slice] ⟨b1, 0, none⟩ w3 fun c4 =>
  K (c4.1, c4.2.1, c4.2.2.1, c4.2.2.2.1, c4.2.2.2.2.1, c4.2.2.2.2.2) w3
def an70 : List An := [
  .reg ⟨[], .done, []⟩,
  .reg ⟨[], .done, []⟩]
theorem tree_code_70_of (e : Int) (w : World) (K : Tup [.agg [.int .i64, .int .i64, .int .i64, .int .i64, .slice, .slice]] → World → Prop) (hF_ : F70 e w K) : tree_code_70 e w K :=
  call_of_F (l := an70) (args := [Ty.mk (.one (.int .i64)) e]) follows tabOk Tryz.func70 (by kernel_rfl) (by kernel_rfl) (by kernel_rfl) hF_

/-- (*purlin/tree.Tree).open -/
def F71 (t : Option Addr) (o : Carr [.int .i64, .int .i64, .int .i64, .int .i64, .int .i64, .str, .str, .slice]) (w : World) (K : Tup [.agg [.int .i64, .int .i64, .int .i64, .int .i64, .slice, .slice]] → World → Prop) : Prop :=
  newP (.cells #[(.int .i64 o.1), (.int .i64 o.2.1), (.int .i64 o.2.2.1), (.int .i64 o.2.2.2.1), (.int .i64 o.2.2.2.2.1), (.string o.2.2.2.2.2.1), (.string o.2.2.2.2.2.2.1), (.slice o.2.2.2.2.2.2.2.a o.2.2.2.2.2.2.2.len o.2.2.2.2.2.2.2.cap)] 28) w fun b1 w2 =>
  newP (.cells #[(.int .i64 0), (.int .i64 0), (.int .i64 0), (.int .i64 0), (.slice none 0 0), (.slice none 0 0)] 43) w2 fun b3 w4 =>
  joinP (σ := Tup [.one .bool]) (fun J5 =>
    ldP (.int .i64) ⟨b1, 4, none⟩ w4 fun x8 =>
    cnd (decide (x8 < 0)) (
      J5 true w4) (
      ldP (.int .i64) ⟨b1, 4, none⟩ w4 fun x9 =>
      cnd (decide (x9 ≥ 64)) (
        J5 true w4) (
        ldP (.int .i64) ⟨b1, 4, none⟩ w4 fun x10 =>
        cnd ((andI .i64 x10 12) != 0) (
          ldP (.int .i64) ⟨b1, 4, none⟩ w4 fun x11 =>
          J5 ((andI .i64 x11 32) == 0) w4) (
          J5 false w4)))) (fun s6 w7 =>
  cnd s6 (
    tree_code_70 2 w7 fun r12 w13 =>
    stN ⟨b3, 0, none⟩ [(.int .i64 r12.1), (.int .i64 r12.2.1), (.int .i64 r12.2.2.1), (.int .i64 r12.2.2.2.1), (.slice r12.2.2.2.2.1.a r12.2.2.2.2.1.len r12.2.2.2.2.1.cap), (.slice r12.2.2.2.2.2.a r12.2.2.2.2.2.len r12.2.2.2.2.2.cap)] w13 fun w14 =>
    ldA [.int .i64, .int .i64, .int .i64, .int .i64, .slice, .slice] ⟨b3, 0, none⟩ w14 fun c15 =>
    K (c15.1, c15.2.1, c15.2.2.1, c15.2.2.2.1, c15.2.2.2.2.1, c15.2.2.2.2.2) w14) (
    newP (.cells #[(.int .i64 0), (.int .i64 0), (.string (⟨#[]⟩ : ByteArray))] 151) w7 fun b16 w17 =>
    stN ⟨b16, 0, none⟩ [(.int .i64 0), (.int .i64 0), (.string (⟨#[]⟩ : ByteArray))] w17 fun w18 =>
    ldP (.int .i64) ⟨b1, 4, none⟩ w18 fun x19 =>
    joinP (σ := Tup []) (fun J20 =>
      cnd ((andI .i64 x19 1) != 0) (
        ldP (.str) ⟨b1, 5, none⟩ w18 fun x23 =>
        tree_Tree_place_129 t x23 w18 fun r24 w25 =>
        newP (.cells #[(.int .i64 0), (.int .i64 0), (.string (⟨#[]⟩ : ByteArray))] 151) w25 fun b26 w27 =>
        stN ⟨b26, 0, none⟩ [(.int .i64 r24.1.1), (.int .i64 r24.1.2.1), (.string r24.1.2.2)] w27 fun w28 =>
        cnd (r24.2 != 0) (
          tree_code_70 r24.2 w28 fun r29 w30 =>
          stN ⟨b3, 0, none⟩ [(.int .i64 r29.1), (.int .i64 r29.2.1), (.int .i64 r29.2.2.1), (.int .i64 r29.2.2.2.1), (.slice r29.2.2.2.2.1.a r29.2.2.2.2.1.len r29.2.2.2.2.1.cap), (.slice r29.2.2.2.2.2.a r29.2.2.2.2.2.len r29.2.2.2.2.2.cap)] w30 fun w31 =>
          ldA [.int .i64, .int .i64, .int .i64, .int .i64, .slice, .slice] ⟨b3, 0, none⟩ w31 fun c32 =>
          K (c32.1, c32.2.1, c32.2.2.1, c32.2.2.2.1, c32.2.2.2.2.1, c32.2.2.2.2.2) w31) (
          joinP (σ := Tup [.one .bool]) (fun J33 =>
            ldP (.int .i64) ⟨b26, 0, none⟩ w28 fun x36 =>
            cnd (x36 != 0) (
              ldP (.int .i64) ⟨b1, 4, none⟩ w28 fun x37 =>
              J33 ((andI .i64 x37 2) != 0) w28) (
              J33 false w28)) (fun s34 w35 =>
          cnd s34 (
            tree_code_70 6 w35 fun r38 w39 =>
            stN ⟨b3, 0, none⟩ [(.int .i64 r38.1), (.int .i64 r38.2.1), (.int .i64 r38.2.2.1), (.int .i64 r38.2.2.2.1), (.slice r38.2.2.2.2.1.a r38.2.2.2.2.1.len r38.2.2.2.2.1.cap), (.slice r38.2.2.2.2.2.a r38.2.2.2.2.2.len r38.2.2.2.2.2.cap)] w39 fun w40 =>
            ldA [.int .i64, .int .i64, .int .i64, .int .i64, .slice, .slice] ⟨b3, 0, none⟩ w40 fun c41 =>
            K (c41.1, c41.2.1, c41.2.2.1, c41.2.2.2.1, c41.2.2.2.2.1, c41.2.2.2.2.2) w40) (
            ldA [.int .i64, .int .i64, .str] ⟨b26, 0, none⟩ w35 fun c42 =>
            stN ⟨b16, 0, none⟩ [(.int .i64 c42.1), (.int .i64 c42.2.1), (.string c42.2.2)] w35 fun w43 =>
            J20 () w43)))) (
        J20 () w18)) (fun _s21 w22 =>
    joinP (σ := Tup [.one .bool]) (fun J44 =>
      ldP (.int .i64) ⟨b16, 0, none⟩ w22 fun x47 =>
      cnd (x47 != 0) (
        J44 true w22) (
        ldP (.int .i64) ⟨b16, 1, none⟩ w22 fun x48 =>
        J44 (x48 == 0) w22)) (fun s45 w46 =>
    joinP (σ := Tup []) (fun J49 =>
      cnd s45 (
        ldP (.str) ⟨b1, 5, none⟩ w46 fun x52 =>
        tree_Tree_find_91 t x52 true w46 fun r53 w54 =>
        newP (.cells #[(.int .i64 0), (.int .i64 0), (.string (⟨#[]⟩ : ByteArray))] 151) w54 fun b55 w56 =>
        stN ⟨b55, 0, none⟩ [(.int .i64 r53.1.1), (.int .i64 r53.1.2.1), (.string r53.1.2.2)] w56 fun w57 =>
        cnd (r53.2 != 0) (
          tree_code_70 r53.2 w57 fun r58 w59 =>
          stN ⟨b3, 0, none⟩ [(.int .i64 r58.1), (.int .i64 r58.2.1), (.int .i64 r58.2.2.1), (.int .i64 r58.2.2.2.1), (.slice r58.2.2.2.2.1.a r58.2.2.2.2.1.len r58.2.2.2.2.1.cap), (.slice r58.2.2.2.2.2.a r58.2.2.2.2.2.len r58.2.2.2.2.2.cap)] w59 fun w60 =>
          ldA [.int .i64, .int .i64, .int .i64, .int .i64, .slice, .slice] ⟨b3, 0, none⟩ w60 fun c61 =>
          K (c61.1, c61.2.1, c61.2.2.1, c61.2.2.2.1, c61.2.2.2.2.1, c61.2.2.2.2.2) w60) (
          ldA [.int .i64, .int .i64, .str] ⟨b55, 0, none⟩ w57 fun c62 =>
          stN ⟨b16, 0, none⟩ [(.int .i64 c62.1), (.int .i64 c62.2.1), (.string c62.2.2)] w57 fun w63 =>
          J49 () w63)) (
        J49 () w46)) (fun _s50 w51 =>
    joinP (σ := Tup [.one .bool]) (fun J64 =>
      ldP (.int .i64) ⟨b16, 0, none⟩ w51.drew fun x67 =>
      cnd (x67 != 0) (
        onSome t fun A68 =>
        ldP (.map) A68 w51.drew fun x69 =>
        ldP (.int .i64) ⟨b16, 0, none⟩ w51.drew fun x70 =>
        rdP Tryz.prog (Instr.lookup 127 (.map x69) (.int .i64 x70) false) [.one .ptr] w51.drew fun c71 =>
        onSome c71 fun A72 =>
        ldP (.int .i64) A72 w51.drew fun x73 =>
        cnd (x73 == 2) (
          ldP (.int .i64) ⟨b1, 4, none⟩ w51.drew fun x74 =>
          J64 ((andI .i64 x74 32) != 0) w51.drew) (
          J64 false w51.drew)) (
        J64 false w51.drew)) (fun s65 w66 =>
    cnd s65 (
      tree_code_70 8 w66 fun r75 w76 =>
      stN ⟨b3, 0, none⟩ [(.int .i64 r75.1), (.int .i64 r75.2.1), (.int .i64 r75.2.2.1), (.int .i64 r75.2.2.2.1), (.slice r75.2.2.2.2.1.a r75.2.2.2.2.1.len r75.2.2.2.2.1.cap), (.slice r75.2.2.2.2.2.a r75.2.2.2.2.2.len r75.2.2.2.2.2.cap)] w76 fun w77 =>
      ldA [.int .i64, .int .i64, .int .i64, .int .i64, .slice, .slice] ⟨b3, 0, none⟩ w77 fun c78 =>
      K (c78.1, c78.2.1, c78.2.2.1, c78.2.2.2.1, c78.2.2.2.2.1, c78.2.2.2.2.2) w77) (
      onSome t fun A79 =>
      ldP (.ptr) (A79.add 2) w66 fun x80 =>
      table_Table_List_130 x80 w66 fun r81 w82 =>
      cnd (decide ((r81.len : Int) ≥ 16)) (
        tree_code_70 14 w82 fun r83 w84 =>
        stN ⟨b3, 0, none⟩ [(.int .i64 r83.1), (.int .i64 r83.2.1), (.int .i64 r83.2.2.1), (.int .i64 r83.2.2.2.1), (.slice r83.2.2.2.2.1.a r83.2.2.2.2.1.len r83.2.2.2.2.1.cap), (.slice r83.2.2.2.2.2.a r83.2.2.2.2.2.len r83.2.2.2.2.2.cap)] w84 fun w85 =>
        ldA [.int .i64, .int .i64, .int .i64, .int .i64, .slice, .slice] ⟨b3, 0, none⟩ w85 fun c86 =>
        K (c86.1, c86.2.1, c86.2.2.1, c86.2.2.2.1, c86.2.2.2.2.1, c86.2.2.2.2.2) w85) (
        ldP (.int .i64) ⟨b16, 0, none⟩ w82 fun x87 =>
        joinP (σ := Tup []) (fun J88 =>
          cnd (x87 == 0) (
            ldA [.int .i64, .int .i64, .str] ⟨b16, 0, none⟩ w82 fun c91 =>
            tree_Tree_make_78 t (c91.1, c91.2.1, c91.2.2) 1 (⟨#[]⟩ : ByteArray) w82 fun r92 w93 =>
            stP ⟨b16, 0, none⟩ (.int .i64 r92) w93 fun w94 =>
            J88 () w94) (
            J88 () w82)) (fun _s89 w90 =>
        ldP (.int .i64) ⟨b1, 4, none⟩ w90 fun x95 =>
        joinP (σ := Tup []) (fun J96 =>
          cnd ((andI .i64 x95 4) != 0) (
            ldP (.int .i64) ⟨b16, 0, none⟩ w90 fun x99 =>
            tree_Tree_resize_131 t x99 0 w90 fun _r100 w101 =>
            J96 () w101) (
            J96 () w90)) (fun _s97 w98 =>
        onSome t fun A102 =>
        ldP (.ptr) (A102.add 2) w98.drew fun x103 =>
        ldP (.int .i64) ⟨b16, 0, none⟩ w98.drew fun x104 =>
        ldP (.int .i64) ⟨b1, 4, none⟩ w98.drew fun x105 =>
        table_Table_Open_132 x103 x104 x105 w98.drew fun r106 w107 =>
        stN ⟨b3, 0, none⟩ [(.int .i64 r106.2), (.int .i64 r106.1), (.int .i64 0), (.int .i64 0), (.slice none 0 0), (.slice none 0 0)] w107 fun w108 =>
        ldA [.int .i64, .int .i64, .int .i64, .int .i64, .slice, .slice] ⟨b3, 0, none⟩ w108 fun c109 =>
        K (c109.1, c109.2.1, c109.2.2.1, c109.2.2.2.1, c109.2.2.2.2.1, c109.2.2.2.2.2) w108))))))))))
def an71 : List An := [
  .reg ⟨[], .done, []⟩,
  .join [(31, .one .bool)] [12, 13, 14, 15, 16, 17, 18, 19, 20, 21, 22, 23, 24, 25, 26, 27, 28, 29, 30],
  .reg ⟨[], .done, []⟩,
  .nop,
  .reg ⟨[(0, [.agg [.int .i64, .int .i64, .int .i64, .int .i64, .slice, .slice]])], .done, []⟩,
  .reg ⟨[], .done, []⟩,
  .reg ⟨[], .done, []⟩,
  .join [] [6, 7, 38, 39, 40, 41, 42, 43, 44, 45, 46, 47, 48, 49, 50, 51, 52, 53, 54, 55, 56, 57, 58, 59, 60, 61],
  .reg ⟨[(3, [.agg [.int .i64, .int .i64, .str], .one (.int .i64)])], .done, []⟩,
  .nop,
  .reg ⟨[], .done, []⟩,
  .nop,
  .reg ⟨[(1, [.agg [.int .i64, .int .i64, .int .i64, .int .i64, .slice, .slice]])], .done, []⟩,
  .join [(50, .one .bool)] [51, 52, 53, 54, 55, 56, 57, 58, 59],
  .reg ⟨[], .done, []⟩,
  .nop,
  .reg ⟨[(0, [.agg [.int .i64, .int .i64, .int .i64, .int .i64, .slice, .slice]])], .done, []⟩,
  .reg ⟨[], .done, []⟩,
  .join [(69, .one .bool)] [62, 63, 64, 65, 66, 67, 68],
  .reg ⟨[], .done, []⟩,
  .join [] [8, 9, 70, 71, 72, 73, 74, 75, 76, 77, 78, 79, 80, 81],
  .reg ⟨[(3, [.agg [.int .i64, .int .i64, .str], .one (.int .i64)])], .done, []⟩,
  .reg ⟨[], .done, []⟩,
  .nop,
  .reg ⟨[(1, [.agg [.int .i64, .int .i64, .int .i64, .int .i64, .slice, .slice]])], .done, []⟩,
  .reg ⟨[], .done, []⟩,
  .nop,
  .join [(82, .one .bool)] [83, 84, 85, 86, 87, 88, 89, 90, 91, 92, 93, 94, 95, 96, 97, 98, 99, 100, 101, 102, 103, 104],
  .reg ⟨[], (.nop 0 0 (.nop 1 1 (.nop 2 3 (.nop 3 7 (.nop 4 15 (.nop 5 31 (.nop 6 63 (.nop 7 127 (.nop 8 15 (.nop 9 271 (.nop 10 1023 (.nop 11 2047 (.nop 12 4095 (.nop 13 8191 (.nop 14 16383 (.nop 15 32767 (.nop 16 65535 (.nop 17 131071 (.nop 18 262143 (.nop 19 524287 (.nop 20 1048575 (.nop 21 2097151 (.nop 22 4194303 .done))))))))))))))))))))))), []⟩,
  .nop,
  .reg ⟨[(0, [.agg [.int .i64, .int .i64, .int .i64, .int .i64, .slice, .slice]])], .done, []⟩,
  .reg ⟨[(4, [.one .slice])], .done, []⟩,
  .nop,
  .reg ⟨[(0, [.agg [.int .i64, .int .i64, .int .i64, .int .i64, .slice, .slice]])], .done, []⟩,
  .reg ⟨[], .done, []⟩,
  .join [] [118, 119, 120, 121],
  .reg ⟨[(2, [.one (.int .i64)])], .done, []⟩,
  .reg ⟨[], .done, []⟩,
  .join [] [126, 127, 128, 129],
  .reg ⟨[(3, [])], .done, []⟩,
  .reg ⟨[(8, [.one (.int .i64), .one (.int .i64)])], (.nop 0 0 (.nop 1 1 (.nop 2 3 (.nop 3 7 (.nop 4 0 (.nop 5 16 (.nop 6 0 (.nop 7 64 (.bar 8 255 (.nop 9 511 (.nop 10 1023 (.nop 11 1023 (.nop 12 2047 (.nop 13 8191 .done))))) .none))))))))), []⟩,
  .reg ⟨[], .done, []⟩]
theorem tree_Tree_open_71_of (t : Option Addr) (o : Carr [.int .i64, .int .i64, .int .i64, .int .i64, .int .i64, .str, .str, .slice]) (w : World) (K : Tup [.agg [.int .i64, .int .i64, .int .i64, .int .i64, .slice, .slice]] → World → Prop) (hF_ : F71 t o w K) : tree_Tree_open_71 t o w K :=
  call_of_F (l := an71) (args := [Ty.mk (.one .ptr) t, Ty.mk (.agg [.int .i64, .int .i64, .int .i64, .int .i64, .int .i64, .str, .str, .slice]) o]) follows tabOk Tryz.func71 (by kernel_rfl) (by kernel_rfl) (by kernel_rfl) hF_

end Go.Proofs.YtcpoglgnkedpaaaGreatDoor

/-
  What the functions' bodies ask (printed by vcgen.py).
-/
namespace Go.Proofs.YtcpoglgnkedpaaaGreatDoor
open Go Go.Vc Go.Proofs


/-- (*purlin/tree.Tree).Nodes$1 -/
def F108 (n : Int) (p : ByteArray) (p2 : Option Addr) (p3 : Option Addr) (p4 : Option Addr) (w : World) (K : Tup [] → World → Prop) : Prop :=
  onSome p2 fun A1 =>
  ldP (.ptr) A1 w fun x2 =>
  onSome x2 fun A3 =>
  ldP (.map) A3 w fun x4 =>
  rdP Tryz.prog (Instr.lookup 127 (.map x4) (.int .i64 n) false) [.one .ptr] w fun c5 =>
  onSome p3 fun A6 =>
  ldP (.slice) A6 w.drew fun x7 =>
  onSome c5 fun A8 =>
  ldP (.int .i64) A8 w.drew fun x9 =>
  onSome c5 fun A10 =>
  ldP (.int .i64) (A10.add 5) w.drew fun x11 =>
  onSome c5 fun A12 =>
  ldP (.slice) (A12.add 1) w.drew fun x13 =>
  newP (.cells #[(.string p), (.string (⟨#[47]⟩ : ByteArray))] 9) w.drew fun b14 w15 =>
  (w15.cell? (A12.add 1) = some (.slice x13.a x13.len x13.cap)) ∧
  (w15.cell? (A10.add 5) = some (.int .i64 x11)) ∧
  (w15.cell? A8 = some (.int .i64 x9)) ∧
  (w15.cell? A6 = some (.slice x7.a x7.len x7.cap)) ∧
  cmp_Or_109 ⟨(some ⟨b14, 0, none⟩), 2, 2⟩ w15 fun r16 w17 =>
  (w17.cell? (A12.add 1) = some (.slice x13.a x13.len x13.cap)) ∧
  (w17.cell? (A10.add 5) = some (.int .i64 x11)) ∧
  (w17.cell? A8 = some (.int .i64 x9)) ∧
  (w17.cell? A6 = some (.slice x7.a x7.len x7.cap)) ∧
  slices_Clone_67 x13 w17 fun r18 w19 =>
  (w19.cell? (A10.add 5) = some (.int .i64 x11)) ∧
  (w19.cell? A8 = some (.int .i64 x9)) ∧
  (w19.cell? A6 = some (.slice x7.a x7.len x7.cap)) ∧
  newP (.cells #[(.string r16), (.int .i64 n), (.int .i64 x9), (.int .i64 x11), (.slice r18.a r18.len r18.cap)] 30) w19 fun b20 w21 =>
  (w21.cell? A6 = some (.slice x7.a x7.len x7.cap)) ∧
  runP Tryz.prog (Builtin.append_ #[45, 45] 45 #[(.slice x7.a x7.len x7.cap), (.slice (some ⟨b20, 0, none⟩) 1 1)]) [.one .slice] w21 fun c22 w23 =>
  onSome p3 fun A25 =>
  stP A25 (.slice c22.a c22.len c22.cap) w23 fun w24 =>
  onSome c5 fun A26 =>
  ldP (.map) (A26.add 3) w24 fun x27 =>
  runP Tryz.prog (Instr.range 66 (.map x27)) [.one .ptr] w24 fun c28 w29 =>
  loopP (σ := Tup []) (fun again30 _s31 w32 =>
    nextP Tryz.prog (Instr.next (.pointer c28) false 0) [.one .str, .one (.int .i64)] w32 (fun w33 =>
      K () w33) (fun _c35 w34 =>
      rdP Tryz.prog (Instr.entry (.pointer c28)) [.one .str, .one (.int .i64)] w34 fun c36 =>
      onSome p4 fun A37 =>
      ldP (.any) A37 w34 fun x38 =>
      ((p.size + (⟨#[47]⟩ : ByteArray).size : Nat) : Int) ≤ IntKind.i64.max ∧
      (((p ++ (⟨#[47]⟩ : ByteArray)).size + c36.1.size : Nat) : Int) ≤ IntKind.i64.max ∧
      callV Tryz.prog x38 #[(.int .i64 c36.2), (.string ((p ++ (⟨#[47]⟩ : ByteArray)) ++ c36.1))] [] w34 fun _r39 w40 =>
      again30 () w40)) () w29
def an108 : List An := [
  .reg ⟨[], .done, []⟩,
  .reg ⟨[(3, [.one .str]), (17, [.one .slice]), (20, [.one .slice])], (.nop 0 0 (.nop 1 0 (.nop 4 0 (.nop 5 0 (.nop 6 32 (.nop 7 96 (.nop 8 224 (.nop 9 0 (.nop 10 512 (.nop 11 1536 (.nop 12 3584 (.nop 13 0 (.nop 14 8192 (.nop 15 24576 (.nop 16 57344 (.bar 2 2 (.bar 3 6 (.bar 17 122894 (.nop 18 262142 (.bar 19 524286 (.bar 20 1048575 (.bar 21 2097151 .done .none) .none) .none)) .none) .none) .none)))))))))))))))), []⟩,
  .reg ⟨[], .done, []⟩,
  .nop,
  .nop,
  .loop [] [8, 9, 42, 43, 44, 45, 46, 47, 48, 49, 50, 51, 52, 53],
  .reg ⟨[(0, [.one .str, .one (.int .i64)])], .done, []⟩,
  .nop,
  .nop,
  .reg ⟨[(0, [.one .str, .one (.int .i64)])], .done, []⟩,
  .reg ⟨[(6, [])], .done, []⟩]
theorem tree_Tree_Nodes_1_108_of (n : Int) (p : ByteArray) (p2 : Option Addr) (p3 : Option Addr) (p4 : Option Addr) (w : World) (K : Tup [] → World → Prop) (hF_ : F108 n p p2 p3 p4 w K) : tree_Tree_Nodes_1_108 n p p2 p3 p4 w K :=
  call_of_F (l := an108) (args := [Ty.mk (.one (.int .i64)) n, Ty.mk (.one .str) p, Ty.mk (.one .ptr) p2, Ty.mk (.one .ptr) p3, Ty.mk (.one .ptr) p4]) follows tabOk Tryz.func108 (by kernel_rfl) (by kernel_rfl) (by kernel_rfl) hF_

/-- cmp.Or[string] -/
def F109 (p0 : Sl) (w : World) (K : Tup [.one .str] → World → Prop) : Prop :=
  loopP (σ := Tup [.one (.int .i64)]) (fun again1 s2 w3 =>
    cnd (decide (s2 < (p0.len : Int))) (
      idxP s2 p0.len (
        onSome p0.a fun A4 =>
        ldP (.str) (A4.add (Int.toNat s2 * 1)) w3 fun x5 =>
        cnd (!(x5.toList == (⟨#[]⟩ : ByteArray).toList)) (
          K x5 w3) (
          again1 (w64 (s2 + 1)) w3))) (
      K (⟨#[]⟩ : ByteArray) w3)) 0 w
def an109 : List An := [
  .reg ⟨[], .done, []⟩,
  .reg ⟨[], .done, []⟩,
  .reg ⟨[], .done, []⟩,
  .nop,
  .nop,
  .loop [(8, .one (.int .i64))] [2, 5, 9, 10, 11, 12, 13, 14, 15, 16],
  .reg ⟨[], .done, []⟩,
  .nop,
  .nop,
  .reg ⟨[], .done, []⟩,
  .reg ⟨[], .done, []⟩,
  .nop,
  .reg ⟨[], .done, []⟩,
  .reg ⟨[], .done, []⟩,
  .reg ⟨[], .done, []⟩]
theorem cmp_Or_109_of (p0 : Sl) (w : World) (K : Tup [.one .str] → World → Prop) (hF_ : F109 p0 w K) : cmp_Or_109 p0 w K :=
  call_of_F (l := an109) (args := [Ty.mk (.one .slice) p0]) follows tabOk Tryz.func109 (by kernel_rfl) (by kernel_rfl) (by kernel_rfl) hF_

/-- slices.SortFunc[[]purlin/api.Node,purlin/api.Node] -/
def F110 (p0 : Sl) (x : Value) (w : World) (K : Tup [] → World → Prop) : Prop :=
  bits_Len_162 (IntKind.wrap .u64 ((p0.len : Int))) w fun r1 w2 =>
  slices_pdqsortCmpFunc_161 p0 0 (p0.len : Int) r1 x w2 fun _r3 w4 =>
  K () w4
def an110 : List An := [
  .reg ⟨[], .done, []⟩,
  .reg ⟨[(4, [.one (.int .i64)]), (6, [])], .done, []⟩]
theorem slices_SortFunc_110_of (p0 : Sl) (x : Value) (w : World) (K : Tup [] → World → Prop) (hF_ : F110 p0 x w K) : slices_SortFunc_110 p0 x w K :=
  call_of_F (l := an110) (args := [Ty.mk (.one .slice) p0, Ty.mk (.one .any) x]) follows tabOk Tryz.func110 (by kernel_rfl) (by kernel_rfl) (by kernel_rfl) hF_

/-- (*purlin/tree.Tree).Nodes$2 -/
def F111 (a : Carr [.str, .int .i64, .int .i64, .int .i64, .slice]) (b : Carr [.str, .int .i64, .int .i64, .int .i64, .slice]) (w : World) (K : Tup [.one (.int .i64)] → World → Prop) : Prop :=
  newP (.cells #[(.string a.1), (.int .i64 a.2.1), (.int .i64 a.2.2.1), (.int .i64 a.2.2.2.1), (.slice a.2.2.2.2.a a.2.2.2.2.len a.2.2.2.2.cap)] 30) w fun b1 w2 =>
  newP (.cells #[(.string b.1), (.int .i64 b.2.1), (.int .i64 b.2.2.1), (.int .i64 b.2.2.2.1), (.slice b.2.2.2.2.a b.2.2.2.2.len b.2.2.2.2.cap)] 30) w2 fun b3 w4 =>
  ldP (.str) ⟨b1, 0, none⟩ w4 fun x5 =>
  ldP (.str) ⟨b3, 0, none⟩ w4 fun x6 =>
  strings_Compare_112 x5 x6 w4 fun r7 w8 =>
  K r7 w8
def an111 : List An := [
  .reg ⟨[], .done, []⟩,
  .reg ⟨[(4, [.one (.int .i64)])], .done, []⟩]
theorem tree_Tree_Nodes_2_111_of (a : Carr [.str, .int .i64, .int .i64, .int .i64, .slice]) (b : Carr [.str, .int .i64, .int .i64, .int .i64, .slice]) (w : World) (K : Tup [.one (.int .i64)] → World → Prop) (hF_ : F111 a b w K) : tree_Tree_Nodes_2_111 a b w K :=
  call_of_F (l := an111) (args := [Ty.mk (.agg [.str, .int .i64, .int .i64, .int .i64, .slice]) a, Ty.mk (.agg [.str, .int .i64, .int .i64, .int .i64, .slice]) b]) follows tabOk Tryz.func111 (by kernel_rfl) (by kernel_rfl) (by kernel_rfl) hF_

/-- (*purlin/may.History).links -/
def F120 (h : Option Addr) (n : Int) (w : World) (K : Tup [.one (.int .i64)] → World → Prop) : Prop :=
  onSome h fun A1 =>
  ldP (.map) (A1.add 4) w fun x2 =>
  runP Tryz.prog (Instr.range 72 (.map x2)) [.one .ptr] w fun c3 w4 =>
  loopP (σ := Tup [.one (.int .i64)]) (fun again5 s6 w7 =>
    nextP Tryz.prog (Instr.next (.pointer c3) false 0) [.agg [.int .i64, .str], .one .slice] w7 (fun w8 =>
      K s6 w8) (fun _c10 w9 =>
      rdP Tryz.prog (Instr.entry (.pointer c3)) [.agg [.int .i64, .str], .one .slice] w9 fun c11 =>
      newP (.cells #[(.int .i64 0), (.string (⟨#[]⟩ : ByteArray))] 77) w9 fun b12 w13 =>
      stN ⟨b12, 0, none⟩ [(.int .i64 c11.1.1), (.string c11.1.2)] w13 fun w14 =>
      ldA [.int .i64, .str] ⟨b12, 0, none⟩ w14 fun c15 =>
      may_History_now_94 h (c15.1, c15.2) w14 fun r16 w17 =>
      cnd (r16 == n) (
        again5 (w64 (s6 + 1)) w17) (
        again5 s6 w17))) 0 w4
def an120 : List An := [
  .reg ⟨[], .done, []⟩,
  .reg ⟨[], .done, []⟩,
  .reg ⟨[], .done, []⟩,
  .nop,
  .nop,
  .loop [(5, .one (.int .i64))] [6, 12, 13, 14, 15, 16, 17, 18, 19, 20, 21, 22],
  .reg ⟨[(0, [.agg [.int .i64, .str], .one .slice])], .done, []⟩,
  .nop,
  .nop,
  .reg ⟨[(0, [.agg [.int .i64, .str], .one .slice])], .done, []⟩,
  .reg ⟨[(2, [.one (.int .i64)])], .done, []⟩,
  .nop,
  .reg ⟨[], .done, []⟩,
  .reg ⟨[], .done, []⟩]
theorem may_History_links_120_of (h : Option Addr) (n : Int) (w : World) (K : Tup [.one (.int .i64)] → World → Prop) (hF_ : F120 h n w K) : may_History_links_120 h n w K :=
  call_of_F (l := an120) (args := [Ty.mk (.one .ptr) h, Ty.mk (.one (.int .i64)) n]) follows tabOk Tryz.func120 (by kernel_rfl) (by kernel_rfl) (by kernel_rfl) hF_

/-- cmp.Or[int] -/
def F121 (p0 : Sl) (w : World) (K : Tup [.one (.int .i64)] → World → Prop) : Prop :=
  loopP (σ := Tup [.one (.int .i64)]) (fun again1 s2 w3 =>
    cnd (decide (s2 < (p0.len : Int))) (
      idxP s2 p0.len (
        onSome p0.a fun A4 =>
        ldP (.int .i64) (A4.add (Int.toNat s2 * 1)) w3 fun x5 =>
        cnd (x5 != 0) (
          K x5 w3) (
          again1 (w64 (s2 + 1)) w3))) (
      K 0 w3)) 0 w
def an121 : List An := [
  .reg ⟨[], .done, []⟩,
  .reg ⟨[], .done, []⟩,
  .reg ⟨[], .done, []⟩,
  .nop,
  .nop,
  .loop [(8, .one (.int .i64))] [2, 5, 9, 10, 11, 12, 13, 14, 15, 16],
  .reg ⟨[], .done, []⟩,
  .nop,
  .nop,
  .reg ⟨[], .done, []⟩,
  .reg ⟨[], .done, []⟩,
  .nop,
  .reg ⟨[], .done, []⟩,
  .reg ⟨[], .done, []⟩,
  .reg ⟨[], .done, []⟩]
theorem cmp_Or_121_of (p0 : Sl) (w : World) (K : Tup [.one (.int .i64)] → World → Prop) (hF_ : F121 p0 w K) : cmp_Or_121 p0 w K :=
  call_of_F (l := an121) (args := [Ty.mk (.one .slice) p0]) follows tabOk Tryz.func121 (by kernel_rfl) (by kernel_rfl) (by kernel_rfl) hF_

/-- (*purlin/may.History).youngest -/
def F122 (h : Option Addr) (number : Int) (w : World) (K : Tup [.one (.int .i64)] → World → Prop) : Prop :=
  onSome h fun A1 =>
  ldP (.map) (A1.add 1) w fun x2 =>
  runP Tryz.prog (Instr.range 65 (.map x2)) [.one .ptr] w fun c3 w4 =>
  loopP (σ := Tup [.one (.int .i64)]) (fun again5 s6 w7 =>
    nextP Tryz.prog (Instr.next (.pointer c3) false 0) [.one (.int .i64), .one (.int .i64)] w7 (fun w8 =>
      K s6 w8) (fun _c10 w9 =>
      rdP Tryz.prog (Instr.entry (.pointer c3)) [.one (.int .i64), .one (.int .i64)] w9 fun c11 =>
      cnd (c11.2 == number) (
        again5 (maxI s6 c11.1) w9) (
        again5 s6 w9))) 0 w4
def an122 : List An := [
  .reg ⟨[], .done, []⟩,
  .reg ⟨[], .done, []⟩,
  .reg ⟨[], .done, []⟩,
  .nop,
  .nop,
  .loop [(5, .one (.int .i64))] [6, 7, 13, 14, 15, 16, 17, 18, 19, 20, 21, 22, 23],
  .reg ⟨[(0, [.one (.int .i64), .one (.int .i64)])], .done, []⟩,
  .nop,
  .nop,
  .reg ⟨[(0, [.one (.int .i64), .one (.int .i64)])], .done, []⟩,
  .reg ⟨[], .done, []⟩,
  .nop,
  .reg ⟨[], .done, []⟩,
  .reg ⟨[], .done, []⟩]
theorem may_History_youngest_122_of (h : Option Addr) (number : Int) (w : World) (K : Tup [.one (.int .i64)] → World → Prop) (hF_ : F122 h number w K) : may_History_youngest_122 h number w K :=
  call_of_F (l := an122) (args := [Ty.mk (.one .ptr) h, Ty.mk (.one (.int .i64)) number]) follows tabOk Tryz.func122 (by kernel_rfl) (by kernel_rfl) (by kernel_rfl) hF_

end Go.Proofs.YtcpoglgnkedpaaaGreatDoor

/-
  What the functions' bodies ask (printed by vcgen.py).
-/
namespace Go.Proofs.YtcpoglgnkedpaaaGreatDoor
open Go Go.Vc Go.Proofs


/-- (*purlin/tree.Tree).Copy -/
def F31 (t : Option Addr) (w : World) (K : Tup [.one .ptr] → World → Prop) : Prop :=
  cnd (Option.isNone t) (
    K none w) (
    onSome t fun A1 =>
    ldP (.ptr) (A1.add 2) w fun x2 =>
    onSome x2 fun A3 =>
    ldB 64 A3 w fun c4 =>
    newP (.cells #[(.int .i64 0), (.int .i64 0), (.int .i64 0), (.bool false), (.int .i64 0), (.int .i64 0), (.int .i64 0), (.bool false), (.int .i64 0), (.int .i64 0), (.int .i64 0), (.bool false), (.int .i64 0), (.int .i64 0), (.int .i64 0), (.bool false), (.int .i64 0), (.int .i64 0), (.int .i64 0), (.bool false), (.int .i64 0), (.int .i64 0), (.int .i64 0), (.bool false), (.int .i64 0), (.int .i64 0), (.int .i64 0), (.bool false), (.int .i64 0), (.int .i64 0), (.int .i64 0), (.bool false), (.int .i64 0), (.int .i64 0), (.int .i64 0), (.bool false), (.int .i64 0), (.int .i64 0), (.int .i64 0), (.bool false), (.int .i64 0), (.int .i64 0), (.int .i64 0), (.bool false), (.int .i64 0), (.int .i64 0), (.int .i64 0), (.bool false), (.int .i64 0), (.int .i64 0), (.int .i64 0), (.bool false), (.int .i64 0), (.int .i64 0), (.int .i64 0), (.bool false), (.int .i64 0), (.int .i64 0), (.int .i64 0), (.bool false), (.int .i64 0), (.int .i64 0), (.int .i64 0), (.bool false)] 145) w fun b5 w6 =>
    (c4.size = 64) ∧
    stN ⟨b5, 0, none⟩ c4.toList w6 fun w7 =>
    newP (.map #[] 0) w7 fun b8 w9 =>
    onSome t fun A10 =>
    ldP (.int .i64) (A10.add 1) w9 fun x11 =>
    newP (.cells #[(.map (some b8)), (.int .i64 x11), (.pointer (some ⟨b5, 0, none⟩))] 131) w9 fun b12 w13 =>
    onSome t fun A14 =>
    ldP (.map) A14 w13 fun x15 =>
    runP Tryz.prog (Instr.range 127 (.map x15)) [.one .ptr] w13 fun c16 w17 =>
    loopP (σ := Tup []) (fun again18 _s19 w20 =>
      nextP Tryz.prog (Instr.next (.pointer c16) false 0) [.one (.int .i64), .one .ptr] w20 (fun w21 =>
        K (some ⟨b12, 0, none⟩) w21) (fun _c23 w22 =>
        rdP Tryz.prog (Instr.entry (.pointer c16)) [.one (.int .i64), .one .ptr] w22 fun c24 =>
        onSome c24.2 fun A25 =>
        ldA [.int .i64, .slice, .slice, .map, .int .i64, .int .i64, .int .i64] A25 w22 fun c26 =>
        newP (.cells #[(.int .i64 0), (.slice none 0 0), (.slice none 0 0), (.map none), (.int .i64 0), (.int .i64 0), (.int .i64 0)] 126) w22 fun b27 w28 =>
        stN ⟨b27, 0, none⟩ [(.int .i64 c26.1), (.slice c26.2.1.a c26.2.1.len c26.2.1.cap), (.slice c26.2.2.1.a c26.2.2.1.len c26.2.2.1.cap), (.map c26.2.2.2.1), (.int .i64 c26.2.2.2.2.1), (.int .i64 c26.2.2.2.2.2.1), (.int .i64 c26.2.2.2.2.2.2)] w28 fun w29 =>
        onSome c24.2 fun A30 =>
        ldP (.slice) (A30.add 1) w29.drew fun x31 =>
        onSome c24.2 fun A32 =>
        ldP (.slice) (A32.add 2) w29.drew fun x33 =>
        onSome c24.2 fun A34 =>
        ldP (.map) (A34.add 3) w29.drew fun x35 =>
        slices_Clone_67 x31 w29.drew fun r36 w37 =>
        (w37.cell? (A34.add 3) = some (.map x35)) ∧
        (w37.cell? (A32.add 2) = some (.slice x33.a x33.len x33.cap)) ∧
        slices_Clone_68 x33 w37 fun r38 w39 =>
        (w39.cell? (A34.add 3) = some (.map x35)) ∧
        maps_Clone_69 x35 w39 fun r40 w41 =>
        stP ⟨b27, 1, none⟩ (.slice r36.a r36.len r36.cap) w41 fun w42 =>
        stP ⟨b27, 2, none⟩ (.slice r38.a r38.len r38.cap) w42 fun w43 =>
        stP ⟨b27, 3, none⟩ (.map r40) w43 fun w44 =>
        ldP (.map) ⟨b12, 0, none⟩ w44 fun x45 =>
        runU Tryz.prog (Instr.mapUpdate 127 (.map x45) (.int .i64 c24.1) (.pointer (some ⟨b27, 0, none⟩))) w44 fun w46 =>
        again18 () w46)) () w17)
def an31 : List An := [
  .reg ⟨[], .done, []⟩,
  .reg ⟨[], .done, []⟩,
  .nop,
  .reg ⟨[], .done, []⟩,
  .reg ⟨[], .done, []⟩,
  .reg ⟨[], .done, []⟩,
  .reg ⟨[], .done, []⟩,
  .nop,
  .nop,
  .loop [] [5, 6, 7, 28, 29, 30, 31, 32, 33, 34, 35, 36, 37, 38, 39, 40, 41, 42, 43, 44, 45, 46, 47, 48, 49, 50, 51, 52, 53, 54, 55, 56, 57, 58],
  .reg ⟨[(0, [.one (.int .i64), .one .ptr])], .done, []⟩,
  .nop,
  .nop,
  .reg ⟨[(0, [.one (.int .i64), .one .ptr])], .done, []⟩,
  .reg ⟨[], .done, []⟩,
  .reg ⟨[(4, [.one .slice]), (9, [.one .slice]), (14, [.one .map])], (.nop 0 0 (.nop 1 1 (.nop 2 3 (.nop 3 7 (.nop 5 0 (.nop 6 32 (.nop 7 96 (.nop 8 224 (.nop 10 0 (.nop 11 1024 (.nop 12 3072 (.nop 13 7168 (.bar 4 15 (.bar 9 511 (.bar 14 16383 (.nop 15 32767 (.bar 16 65535 (.nop 17 131071 (.bar 18 262143 (.nop 19 524287 (.bar 20 1048575 .done .none)) .none)) .none)) .none) .none) .none))))))))))))), []⟩,
  .reg ⟨[], .done, []⟩,
  .reg ⟨[], .done, []⟩]
theorem tree_Tree_Copy_31_of (t : Option Addr) (w : World) (K : Tup [.one .ptr] → World → Prop) (hF_ : F31 t w K) : tree_Tree_Copy_31 t w K :=
  call_of_F (l := an31) (args := [Ty.mk (.one .ptr) t]) follows tabOk Tryz.func31 (by kernel_rfl) (by kernel_rfl) (by kernel_rfl) hF_

/-- (*purlin/tree.Tree).Do -/
def F32 (t : Option Addr) (o : Carr [.int .i64, .int .i64, .int .i64, .int .i64, .int .i64, .str, .str, .slice]) (w : World) (K : Tup [.agg [.int .i64, .int .i64, .int .i64, .int .i64, .slice, .slice]] → World → Prop) : Prop :=
  newP (.cells #[(.int .i64 o.1), (.int .i64 o.2.1), (.int .i64 o.2.2.1), (.int .i64 o.2.2.2.1), (.int .i64 o.2.2.2.2.1), (.string o.2.2.2.2.2.1), (.string o.2.2.2.2.2.2.1), (.slice o.2.2.2.2.2.2.2.a o.2.2.2.2.2.2.2.len o.2.2.2.2.2.2.2.cap)] 28) w fun b1 w2 =>
  newP (.cells #[(.int .i64 0), (.int .i64 0), (.int .i64 0), (.int .i64 0), (.slice none 0 0), (.slice none 0 0)] 43) w2 fun b3 w4 =>
  cnd (Option.isNone t) (
    tree_code_70 1 w4 fun r5 w6 =>
    stN ⟨b3, 0, none⟩ [(.int .i64 r5.1), (.int .i64 r5.2.1), (.int .i64 r5.2.2.1), (.int .i64 r5.2.2.2.1), (.slice r5.2.2.2.2.1.a r5.2.2.2.2.1.len r5.2.2.2.2.1.cap), (.slice r5.2.2.2.2.2.a r5.2.2.2.2.2.len r5.2.2.2.2.2.cap)] w6 fun w7 =>
    ldA [.int .i64, .int .i64, .int .i64, .int .i64, .slice, .slice] ⟨b3, 0, none⟩ w7 fun c8 =>
    K (c8.1, c8.2.1, c8.2.2.1, c8.2.2.2.1, c8.2.2.2.2.1, c8.2.2.2.2.2) w7) (
    ldP (.int .i64) ⟨b1, 0, none⟩ w4 fun x9 =>
    cnd (x9 == 1) (
      ldA [.int .i64, .int .i64, .int .i64, .int .i64, .int .i64, .str, .str, .slice] ⟨b1, 0, none⟩ w4 fun c10 =>
      tree_Tree_open_71 t (c10.1, c10.2.1, c10.2.2.1, c10.2.2.2.1, c10.2.2.2.2.1, c10.2.2.2.2.2.1, c10.2.2.2.2.2.2.1, c10.2.2.2.2.2.2.2) w4 fun r11 w12 =>
      stN ⟨b3, 0, none⟩ [(.int .i64 r11.1), (.int .i64 r11.2.1), (.int .i64 r11.2.2.1), (.int .i64 r11.2.2.2.1), (.slice r11.2.2.2.2.1.a r11.2.2.2.2.1.len r11.2.2.2.2.1.cap), (.slice r11.2.2.2.2.2.a r11.2.2.2.2.2.len r11.2.2.2.2.2.cap)] w12 fun w13 =>
      ldA [.int .i64, .int .i64, .int .i64, .int .i64, .slice, .slice] ⟨b3, 0, none⟩ w13 fun c14 =>
      K (c14.1, c14.2.1, c14.2.2.1, c14.2.2.2.1, c14.2.2.2.2.1, c14.2.2.2.2.2) w13) (
      cnd (x9 == 2) (
        ldP (.int .i64) ⟨b1, 1, none⟩ w4 fun x15 =>
        tree_Tree_close_72 t x15 w4 fun r16 w17 =>
        stN ⟨b3, 0, none⟩ [(.int .i64 r16.1), (.int .i64 r16.2.1), (.int .i64 r16.2.2.1), (.int .i64 r16.2.2.2.1), (.slice r16.2.2.2.2.1.a r16.2.2.2.2.1.len r16.2.2.2.2.1.cap), (.slice r16.2.2.2.2.2.a r16.2.2.2.2.2.len r16.2.2.2.2.2.cap)] w17 fun w18 =>
        ldA [.int .i64, .int .i64, .int .i64, .int .i64, .slice, .slice] ⟨b3, 0, none⟩ w18 fun c19 =>
        K (c19.1, c19.2.1, c19.2.2.1, c19.2.2.2.1, c19.2.2.2.2.1, c19.2.2.2.2.2) w18) (
        joinP (σ := Tup [.one .bool]) (fun J20 =>
          cnd (x9 == 3) (
            J20 (x9 == 3) w4) (
            J20 (x9 == 5) w4)) (fun s21 w22 =>
        cnd s21 (
          ldA [.int .i64, .int .i64, .int .i64, .int .i64, .int .i64, .str, .str, .slice] ⟨b1, 0, none⟩ w22 fun c23 =>
          tree_Tree_read_73 t (c23.1, c23.2.1, c23.2.2.1, c23.2.2.2.1, c23.2.2.2.2.1, c23.2.2.2.2.2.1, c23.2.2.2.2.2.2.1, c23.2.2.2.2.2.2.2) w22 fun r24 w25 =>
          stN ⟨b3, 0, none⟩ [(.int .i64 r24.1), (.int .i64 r24.2.1), (.int .i64 r24.2.2.1), (.int .i64 r24.2.2.2.1), (.slice r24.2.2.2.2.1.a r24.2.2.2.2.1.len r24.2.2.2.2.1.cap), (.slice r24.2.2.2.2.2.a r24.2.2.2.2.2.len r24.2.2.2.2.2.cap)] w25 fun w26 =>
          ldA [.int .i64, .int .i64, .int .i64, .int .i64, .slice, .slice] ⟨b3, 0, none⟩ w26 fun c27 =>
          K (c27.1, c27.2.1, c27.2.2.1, c27.2.2.2.1, c27.2.2.2.2.1, c27.2.2.2.2.2) w26) (
          joinP (σ := Tup [.one .bool]) (fun J28 =>
            cnd (x9 == 4) (
              J28 (x9 == 4) w22) (
              J28 (x9 == 6) w22)) (fun s29 w30 =>
          cnd s29 (
            ldA [.int .i64, .int .i64, .int .i64, .int .i64, .int .i64, .str, .str, .slice] ⟨b1, 0, none⟩ w30 fun c31 =>
            tree_Tree_write_74 t (c31.1, c31.2.1, c31.2.2.1, c31.2.2.2.1, c31.2.2.2.2.1, c31.2.2.2.2.2.1, c31.2.2.2.2.2.2.1, c31.2.2.2.2.2.2.2) w30 fun r32 w33 =>
            stN ⟨b3, 0, none⟩ [(.int .i64 r32.1), (.int .i64 r32.2.1), (.int .i64 r32.2.2.1), (.int .i64 r32.2.2.2.1), (.slice r32.2.2.2.2.1.a r32.2.2.2.2.1.len r32.2.2.2.2.1.cap), (.slice r32.2.2.2.2.2.a r32.2.2.2.2.2.len r32.2.2.2.2.2.cap)] w33 fun w34 =>
            ldA [.int .i64, .int .i64, .int .i64, .int .i64, .slice, .slice] ⟨b3, 0, none⟩ w34 fun c35 =>
            K (c35.1, c35.2.1, c35.2.2.1, c35.2.2.2.1, c35.2.2.2.2.1, c35.2.2.2.2.2) w34) (
            cnd (x9 == 7) (
              ldA [.int .i64, .int .i64, .int .i64, .int .i64, .int .i64, .str, .str, .slice] ⟨b1, 0, none⟩ w30 fun c36 =>
              tree_Tree_seek_75 t (c36.1, c36.2.1, c36.2.2.1, c36.2.2.2.1, c36.2.2.2.2.1, c36.2.2.2.2.2.1, c36.2.2.2.2.2.2.1, c36.2.2.2.2.2.2.2) w30 fun r37 w38 =>
              stN ⟨b3, 0, none⟩ [(.int .i64 r37.1), (.int .i64 r37.2.1), (.int .i64 r37.2.2.1), (.int .i64 r37.2.2.2.1), (.slice r37.2.2.2.2.1.a r37.2.2.2.2.1.len r37.2.2.2.2.1.cap), (.slice r37.2.2.2.2.2.a r37.2.2.2.2.2.len r37.2.2.2.2.2.cap)] w38 fun w39 =>
              ldA [.int .i64, .int .i64, .int .i64, .int .i64, .slice, .slice] ⟨b3, 0, none⟩ w39 fun c40 =>
              K (c40.1, c40.2.1, c40.2.2.1, c40.2.2.2.1, c40.2.2.2.2.1, c40.2.2.2.2.2) w39) (
              cnd (x9 == 8) (
                ldA [.int .i64, .int .i64, .int .i64, .int .i64, .int .i64, .str, .str, .slice] ⟨b1, 0, none⟩ w30 fun c41 =>
                tree_Tree_trunc_76 t (c41.1, c41.2.1, c41.2.2.1, c41.2.2.2.1, c41.2.2.2.2.1, c41.2.2.2.2.2.1, c41.2.2.2.2.2.2.1, c41.2.2.2.2.2.2.2) w30 fun r42 w43 =>
                stN ⟨b3, 0, none⟩ [(.int .i64 r42.1), (.int .i64 r42.2.1), (.int .i64 r42.2.2.1), (.int .i64 r42.2.2.2.1), (.slice r42.2.2.2.2.1.a r42.2.2.2.2.1.len r42.2.2.2.2.1.cap), (.slice r42.2.2.2.2.2.a r42.2.2.2.2.2.len r42.2.2.2.2.2.cap)] w43 fun w44 =>
                ldA [.int .i64, .int .i64, .int .i64, .int .i64, .slice, .slice] ⟨b3, 0, none⟩ w44 fun c45 =>
                K (c45.1, c45.2.1, c45.2.2.1, c45.2.2.2.1, c45.2.2.2.2.1, c45.2.2.2.2.2) w44) (
                cnd (x9 == 9) (
                  ldP (.str) ⟨b1, 5, none⟩ w30 fun x46 =>
                  tree_Tree_fresh_77 t x46 w30 fun r47 w48 =>
                  newP (.cells #[(.int .i64 0), (.int .i64 0), (.string (⟨#[]⟩ : ByteArray))] 151) w48 fun b49 w50 =>
                  stN ⟨b49, 0, none⟩ [(.int .i64 r47.1.1), (.int .i64 r47.1.2.1), (.string r47.1.2.2)] w50 fun w51 =>
                  cnd (r47.2 == 0) (
                    ldA [.int .i64, .int .i64, .str] ⟨b49, 0, none⟩ w51 fun c52 =>
                    tree_Tree_make_78 t (c52.1, c52.2.1, c52.2.2) 2 (⟨#[]⟩ : ByteArray) w51 fun _r53 w54 =>
                    tree_code_70 r47.2 w54 fun r55 w56 =>
                    stN ⟨b3, 0, none⟩ [(.int .i64 r55.1), (.int .i64 r55.2.1), (.int .i64 r55.2.2.1), (.int .i64 r55.2.2.2.1), (.slice r55.2.2.2.2.1.a r55.2.2.2.2.1.len r55.2.2.2.2.1.cap), (.slice r55.2.2.2.2.2.a r55.2.2.2.2.2.len r55.2.2.2.2.2.cap)] w56 fun w57 =>
                    ldA [.int .i64, .int .i64, .int .i64, .int .i64, .slice, .slice] ⟨b3, 0, none⟩ w57 fun c58 =>
                    K (c58.1, c58.2.1, c58.2.2.1, c58.2.2.2.1, c58.2.2.2.2.1, c58.2.2.2.2.2) w57) (
                    tree_code_70 r47.2 w51 fun r59 w60 =>
                    stN ⟨b3, 0, none⟩ [(.int .i64 r59.1), (.int .i64 r59.2.1), (.int .i64 r59.2.2.1), (.int .i64 r59.2.2.2.1), (.slice r59.2.2.2.2.1.a r59.2.2.2.2.1.len r59.2.2.2.2.1.cap), (.slice r59.2.2.2.2.2.a r59.2.2.2.2.2.len r59.2.2.2.2.2.cap)] w60 fun w61 =>
                    ldA [.int .i64, .int .i64, .int .i64, .int .i64, .slice, .slice] ⟨b3, 0, none⟩ w61 fun c62 =>
                    K (c62.1, c62.2.1, c62.2.2.1, c62.2.2.2.1, c62.2.2.2.2.1, c62.2.2.2.2.2) w61)) (
                  joinP (σ := Tup [.one .bool]) (fun J63 =>
                    cnd (x9 == 10) (
                      J63 (x9 == 10) w30) (
                      J63 (x9 == 11) w30)) (fun s64 w65 =>
                  cnd s64 (
                    ldA [.int .i64, .int .i64, .int .i64, .int .i64, .int .i64, .str, .str, .slice] ⟨b1, 0, none⟩ w65 fun c66 =>
                    tree_Tree_remove_79 t (c66.1, c66.2.1, c66.2.2.1, c66.2.2.2.1, c66.2.2.2.2.1, c66.2.2.2.2.2.1, c66.2.2.2.2.2.2.1, c66.2.2.2.2.2.2.2) w65 fun r67 w68 =>
                    stN ⟨b3, 0, none⟩ [(.int .i64 r67.1), (.int .i64 r67.2.1), (.int .i64 r67.2.2.1), (.int .i64 r67.2.2.2.1), (.slice r67.2.2.2.2.1.a r67.2.2.2.2.1.len r67.2.2.2.2.1.cap), (.slice r67.2.2.2.2.2.a r67.2.2.2.2.2.len r67.2.2.2.2.2.cap)] w68 fun w69 =>
                    ldA [.int .i64, .int .i64, .int .i64, .int .i64, .slice, .slice] ⟨b3, 0, none⟩ w69 fun c70 =>
                    K (c70.1, c70.2.1, c70.2.2.1, c70.2.2.2.1, c70.2.2.2.2.1, c70.2.2.2.2.2) w69) (
                    cnd (x9 == 12) (
                      ldA [.int .i64, .int .i64, .int .i64, .int .i64, .int .i64, .str, .str, .slice] ⟨b1, 0, none⟩ w65 fun c71 =>
                      tree_Tree_link_80 t (c71.1, c71.2.1, c71.2.2.1, c71.2.2.2.1, c71.2.2.2.2.1, c71.2.2.2.2.2.1, c71.2.2.2.2.2.2.1, c71.2.2.2.2.2.2.2) w65 fun r72 w73 =>
                      stN ⟨b3, 0, none⟩ [(.int .i64 r72.1), (.int .i64 r72.2.1), (.int .i64 r72.2.2.1), (.int .i64 r72.2.2.2.1), (.slice r72.2.2.2.2.1.a r72.2.2.2.2.1.len r72.2.2.2.2.1.cap), (.slice r72.2.2.2.2.2.a r72.2.2.2.2.2.len r72.2.2.2.2.2.cap)] w73 fun w74 =>
                      ldA [.int .i64, .int .i64, .int .i64, .int .i64, .slice, .slice] ⟨b3, 0, none⟩ w74 fun c75 =>
                      K (c75.1, c75.2.1, c75.2.2.1, c75.2.2.2.1, c75.2.2.2.2.1, c75.2.2.2.2.2) w74) (
                      cnd (x9 == 13) (
                        ldA [.int .i64, .int .i64, .int .i64, .int .i64, .int .i64, .str, .str, .slice] ⟨b1, 0, none⟩ w65 fun c76 =>
                        tree_Tree_symlink_81 t (c76.1, c76.2.1, c76.2.2.1, c76.2.2.2.1, c76.2.2.2.2.1, c76.2.2.2.2.2.1, c76.2.2.2.2.2.2.1, c76.2.2.2.2.2.2.2) w65 fun r77 w78 =>
                        stN ⟨b3, 0, none⟩ [(.int .i64 r77.1), (.int .i64 r77.2.1), (.int .i64 r77.2.2.1), (.int .i64 r77.2.2.2.1), (.slice r77.2.2.2.2.1.a r77.2.2.2.2.1.len r77.2.2.2.2.1.cap), (.slice r77.2.2.2.2.2.a r77.2.2.2.2.2.len r77.2.2.2.2.2.cap)] w78 fun w79 =>
                        ldA [.int .i64, .int .i64, .int .i64, .int .i64, .slice, .slice] ⟨b3, 0, none⟩ w79 fun c80 =>
                        K (c80.1, c80.2.1, c80.2.2.1, c80.2.2.2.1, c80.2.2.2.2.1, c80.2.2.2.2.2) w79) (
                        joinP (σ := Tup [.one .bool]) (fun J81 =>
                          cnd (x9 == 14) (
                            J81 (x9 == 14) w65) (
                            J81 (x9 == 18) w65)) (fun s82 w83 =>
                        cnd s82 (
                          ldA [.int .i64, .int .i64, .int .i64, .int .i64, .int .i64, .str, .str, .slice] ⟨b1, 0, none⟩ w83 fun c84 =>
                          tree_Tree_list_82 t (c84.1, c84.2.1, c84.2.2.1, c84.2.2.2.1, c84.2.2.2.2.1, c84.2.2.2.2.2.1, c84.2.2.2.2.2.2.1, c84.2.2.2.2.2.2.2) w83 fun r85 w86 =>
                          stN ⟨b3, 0, none⟩ [(.int .i64 r85.1), (.int .i64 r85.2.1), (.int .i64 r85.2.2.1), (.int .i64 r85.2.2.2.1), (.slice r85.2.2.2.2.1.a r85.2.2.2.2.1.len r85.2.2.2.2.1.cap), (.slice r85.2.2.2.2.2.a r85.2.2.2.2.2.len r85.2.2.2.2.2.cap)] w86 fun w87 =>
                          ldA [.int .i64, .int .i64, .int .i64, .int .i64, .slice, .slice] ⟨b3, 0, none⟩ w87 fun c88 =>
                          K (c88.1, c88.2.1, c88.2.2.1, c88.2.2.2.1, c88.2.2.2.2.1, c88.2.2.2.2.2) w87) (
                          cnd (x9 == 15) (
                            ldA [.int .i64, .int .i64, .int .i64, .int .i64, .int .i64, .str, .str, .slice] ⟨b1, 0, none⟩ w83 fun c89 =>
                            tree_Tree_rename_83 t (c89.1, c89.2.1, c89.2.2.1, c89.2.2.2.1, c89.2.2.2.2.1, c89.2.2.2.2.2.1, c89.2.2.2.2.2.2.1, c89.2.2.2.2.2.2.2) w83 fun r90 w91 =>
                            stN ⟨b3, 0, none⟩ [(.int .i64 r90.1), (.int .i64 r90.2.1), (.int .i64 r90.2.2.1), (.int .i64 r90.2.2.2.1), (.slice r90.2.2.2.2.1.a r90.2.2.2.2.1.len r90.2.2.2.2.1.cap), (.slice r90.2.2.2.2.2.a r90.2.2.2.2.2.len r90.2.2.2.2.2.cap)] w91 fun w92 =>
                            ldA [.int .i64, .int .i64, .int .i64, .int .i64, .slice, .slice] ⟨b3, 0, none⟩ w92 fun c93 =>
                            K (c93.1, c93.2.1, c93.2.2.1, c93.2.2.2.1, c93.2.2.2.2.1, c93.2.2.2.2.2) w92) (
                            joinP (σ := Tup [.one .bool]) (fun J94 =>
                              cnd (x9 == 16) (
                                J94 (x9 == 16) w83) (
                                J94 (x9 == 17) w83)) (fun s95 w96 =>
                            cnd s95 (
                              ldA [.int .i64, .int .i64, .int .i64, .int .i64, .int .i64, .str, .str, .slice] ⟨b1, 0, none⟩ w96 fun c97 =>
                              tree_Tree_stat_84 t (c97.1, c97.2.1, c97.2.2.1, c97.2.2.2.1, c97.2.2.2.2.1, c97.2.2.2.2.2.1, c97.2.2.2.2.2.2.1, c97.2.2.2.2.2.2.2) w96 fun r98 w99 =>
                              stN ⟨b3, 0, none⟩ [(.int .i64 r98.1), (.int .i64 r98.2.1), (.int .i64 r98.2.2.1), (.int .i64 r98.2.2.2.1), (.slice r98.2.2.2.2.1.a r98.2.2.2.2.1.len r98.2.2.2.2.1.cap), (.slice r98.2.2.2.2.2.a r98.2.2.2.2.2.len r98.2.2.2.2.2.cap)] w99 fun w100 =>
                              ldA [.int .i64, .int .i64, .int .i64, .int .i64, .slice, .slice] ⟨b3, 0, none⟩ w100 fun c101 =>
                              K (c101.1, c101.2.1, c101.2.2.1, c101.2.2.2.1, c101.2.2.2.2.1, c101.2.2.2.2.2) w100) (
                              joinP (σ := Tup [.one .bool]) (fun J102 =>
                                cnd (x9 == 19) (
                                  J102 (x9 == 19) w96) (
                                  J102 (x9 == 20) w96)) (fun s103 w104 =>
                              cnd s103 (
                                ldP (.int .i64) ⟨b1, 1, none⟩ w104 fun x105 =>
                                tree_Tree_lasts_85 t x105 w104 fun r106 w107 =>
                                stN ⟨b3, 0, none⟩ [(.int .i64 r106.1), (.int .i64 r106.2.1), (.int .i64 r106.2.2.1), (.int .i64 r106.2.2.2.1), (.slice r106.2.2.2.2.1.a r106.2.2.2.2.1.len r106.2.2.2.2.1.cap), (.slice r106.2.2.2.2.2.a r106.2.2.2.2.2.len r106.2.2.2.2.2.cap)] w107 fun w108 =>
                                ldA [.int .i64, .int .i64, .int .i64, .int .i64, .slice, .slice] ⟨b3, 0, none⟩ w108 fun c109 =>
                                K (c109.1, c109.2.1, c109.2.2.1, c109.2.2.2.1, c109.2.2.2.2.1, c109.2.2.2.2.2) w108) (
                                cnd (x9 == 21) (
                                  stN ⟨b3, 0, none⟩ [(.int .i64 0), (.int .i64 0), (.int .i64 0), (.int .i64 0), (.slice none 0 0), (.slice none 0 0)] w104 fun w110 =>
                                  ldA [.int .i64, .int .i64, .int .i64, .int .i64, .slice, .slice] ⟨b3, 0, none⟩ w110 fun c111 =>
                                  K (c111.1, c111.2.1, c111.2.2.1, c111.2.2.2.1, c111.2.2.2.2.1, c111.2.2.2.2.2) w110) (
                                  cnd (x9 == 22) (
                                    cnd (x9 == 22) (
                                      ldP (.int .i64) ⟨b1, 2, none⟩ w104 fun x112 =>
                                      cnd (decide (x112 ≥ 0)) (
                                        stN ⟨b3, 0, none⟩ [(.int .i64 0), (.int .i64 0), (.int .i64 0), (.int .i64 0), (.slice none 0 0), (.slice none 0 0)] w104 fun w113 =>
                                        ldA [.int .i64, .int .i64, .int .i64, .int .i64, .slice, .slice] ⟨b3, 0, none⟩ w113 fun c114 =>
                                        K (c114.1, c114.2.1, c114.2.2.1, c114.2.2.2.1, c114.2.2.2.2.1, c114.2.2.2.2.2) w113) (
                                        tree_code_70 2 w104 fun r115 w116 =>
                                        stN ⟨b3, 0, none⟩ [(.int .i64 r115.1), (.int .i64 r115.2.1), (.int .i64 r115.2.2.1), (.int .i64 r115.2.2.2.1), (.slice r115.2.2.2.2.1.a r115.2.2.2.2.1.len r115.2.2.2.2.1.cap), (.slice r115.2.2.2.2.2.a r115.2.2.2.2.2.len r115.2.2.2.2.2.cap)] w116 fun w117 =>
                                        ldA [.int .i64, .int .i64, .int .i64, .int .i64, .slice, .slice] ⟨b3, 0, none⟩ w117 fun c118 =>
                                        K (c118.1, c118.2.1, c118.2.2.1, c118.2.2.2.1, c118.2.2.2.2.1, c118.2.2.2.2.2) w117)) (
                                      tree_code_70 2 w104 fun r119 w120 =>
                                      stN ⟨b3, 0, none⟩ [(.int .i64 r119.1), (.int .i64 r119.2.1), (.int .i64 r119.2.2.1), (.int .i64 r119.2.2.2.1), (.slice r119.2.2.2.2.1.a r119.2.2.2.2.1.len r119.2.2.2.2.1.cap), (.slice r119.2.2.2.2.2.a r119.2.2.2.2.2.len r119.2.2.2.2.2.cap)] w120 fun w121 =>
                                      ldA [.int .i64, .int .i64, .int .i64, .int .i64, .slice, .slice] ⟨b3, 0, none⟩ w121 fun c122 =>
                                      K (c122.1, c122.2.1, c122.2.2.1, c122.2.2.2.1, c122.2.2.2.2.1, c122.2.2.2.2.2) w121)) (
                                    cnd (x9 == 23) (
                                      ldP (.int .i64) ⟨b1, 2, none⟩ w104 fun x123 =>
                                      cnd (decide (x123 ≥ 0)) (
                                        stN ⟨b3, 0, none⟩ [(.int .i64 0), (.int .i64 0), (.int .i64 0), (.int .i64 0), (.slice none 0 0), (.slice none 0 0)] w104 fun w124 =>
                                        ldA [.int .i64, .int .i64, .int .i64, .int .i64, .slice, .slice] ⟨b3, 0, none⟩ w124 fun c125 =>
                                        K (c125.1, c125.2.1, c125.2.2.1, c125.2.2.2.1, c125.2.2.2.2.1, c125.2.2.2.2.2) w124) (
                                        tree_code_70 2 w104 fun r126 w127 =>
                                        stN ⟨b3, 0, none⟩ [(.int .i64 r126.1), (.int .i64 r126.2.1), (.int .i64 r126.2.2.1), (.int .i64 r126.2.2.2.1), (.slice r126.2.2.2.2.1.a r126.2.2.2.2.1.len r126.2.2.2.2.1.cap), (.slice r126.2.2.2.2.2.a r126.2.2.2.2.2.len r126.2.2.2.2.2.cap)] w127 fun w128 =>
                                        ldA [.int .i64, .int .i64, .int .i64, .int .i64, .slice, .slice] ⟨b3, 0, none⟩ w128 fun c129 =>
                                        K (c129.1, c129.2.1, c129.2.2.1, c129.2.2.2.1, c129.2.2.2.2.1, c129.2.2.2.2.2) w128)) (
                                      tree_code_70 2 w104 fun r130 w131 =>
                                      stN ⟨b3, 0, none⟩ [(.int .i64 r130.1), (.int .i64 r130.2.1), (.int .i64 r130.2.2.1), (.int .i64 r130.2.2.2.1), (.slice r130.2.2.2.2.1.a r130.2.2.2.2.1.len r130.2.2.2.2.1.cap), (.slice r130.2.2.2.2.2.a r130.2.2.2.2.2.len r130.2.2.2.2.2.cap)] w131 fun w132 =>
                                      ldA [.int .i64, .int .i64, .int .i64, .int .i64, .slice, .slice] ⟨b3, 0, none⟩ w132 fun c133 =>
                                      K (c133.1, c133.2.1, c133.2.2.1, c133.2.2.2.1, c133.2.2.2.2.1, c133.2.2.2.2.2) w132))))))))))))))))))))))))
def an32 : List An := [
  .reg ⟨[], .done, []⟩,
  .reg ⟨[], .done, []⟩,
  .nop,
  .reg ⟨[(0, [.agg [.int .i64, .int .i64, .int .i64, .int .i64, .slice, .slice]])], .done, []⟩,
  .reg ⟨[], .done, []⟩,
  .nop,
  .reg ⟨[], .done, []⟩,
  .nop,
  .reg ⟨[(2, [.agg [.int .i64, .int .i64, .int .i64, .int .i64, .slice, .slice]])], .done, []⟩,
  .reg ⟨[], .done, []⟩,
  .nop,
  .reg ⟨[(3, [.agg [.int .i64, .int .i64, .int .i64, .int .i64, .slice, .slice]])], .done, []⟩,
  .reg ⟨[], .done, []⟩,
  .join [(23, .one .bool)] [25],
  .reg ⟨[], .done, []⟩,
  .nop,
  .reg ⟨[(2, [.agg [.int .i64, .int .i64, .int .i64, .int .i64, .slice, .slice]])], .done, []⟩,
  .reg ⟨[], .done, []⟩,
  .join [(29, .one .bool)] [31],
  .reg ⟨[], .done, []⟩,
  .nop,
  .reg ⟨[(2, [.agg [.int .i64, .int .i64, .int .i64, .int .i64, .slice, .slice]])], .done, []⟩,
  .reg ⟨[], .done, []⟩,
  .nop,
  .reg ⟨[(2, [.agg [.int .i64, .int .i64, .int .i64, .int .i64, .slice, .slice]])], .done, []⟩,
  .reg ⟨[], .done, []⟩,
  .nop,
  .reg ⟨[(2, [.agg [.int .i64, .int .i64, .int .i64, .int .i64, .slice, .slice]])], .done, []⟩,
  .reg ⟨[], .done, []⟩,
  .nop,
  .reg ⟨[(3, [.agg [.int .i64, .int .i64, .str], .one (.int .i64)])], .done, []⟩,
  .reg ⟨[], .done, []⟩,
  .nop,
  .reg ⟨[(2, [.one (.int .i64)])], .done, []⟩,
  .reg ⟨[(1, [.agg [.int .i64, .int .i64, .int .i64, .int .i64, .slice, .slice]])], .done, []⟩,
  .reg ⟨[], .done, []⟩,
  .join [(61, .one .bool)] [63],
  .reg ⟨[], .done, []⟩,
  .nop,
  .reg ⟨[(2, [.agg [.int .i64, .int .i64, .int .i64, .int .i64, .slice, .slice]])], .done, []⟩,
  .reg ⟨[], .done, []⟩,
  .nop,
  .reg ⟨[(2, [.agg [.int .i64, .int .i64, .int .i64, .int .i64, .slice, .slice]])], .done, []⟩,
  .reg ⟨[], .done, []⟩,
  .nop,
  .reg ⟨[(2, [.agg [.int .i64, .int .i64, .int .i64, .int .i64, .slice, .slice]])], .done, []⟩,
  .reg ⟨[], .done, []⟩,
  .join [(77, .one .bool)] [79],
  .reg ⟨[], .done, []⟩,
  .nop,
  .reg ⟨[(2, [.agg [.int .i64, .int .i64, .int .i64, .int .i64, .slice, .slice]])], .done, []⟩,
  .reg ⟨[], .done, []⟩,
  .nop,
  .reg ⟨[(2, [.agg [.int .i64, .int .i64, .int .i64, .int .i64, .slice, .slice]])], .done, []⟩,
  .reg ⟨[], .done, []⟩,
  .join [(88, .one .bool)] [90],
  .reg ⟨[], .done, []⟩,
  .nop,
  .reg ⟨[(2, [.agg [.int .i64, .int .i64, .int .i64, .int .i64, .slice, .slice]])], .done, []⟩,
  .reg ⟨[], .done, []⟩,
  .join [(94, .one .bool)] [96],
  .reg ⟨[], .done, []⟩,
  .nop,
  .reg ⟨[(3, [.agg [.int .i64, .int .i64, .int .i64, .int .i64, .slice, .slice]])], .done, []⟩,
  .reg ⟨[], .done, []⟩,
  .nop,
  .reg ⟨[], .done, []⟩,
  .reg ⟨[], .done, []⟩,
  .nop,
  .reg ⟨[], .done, []⟩,
  .nop,
  .reg ⟨[], .done, []⟩,
  .nop,
  .reg ⟨[], .done, []⟩,
  .reg ⟨[(0, [.agg [.int .i64, .int .i64, .int .i64, .int .i64, .slice, .slice]])], .done, []⟩]
theorem tree_Tree_Do_32_of (t : Option Addr) (o : Carr [.int .i64, .int .i64, .int .i64, .int .i64, .int .i64, .str, .str, .slice]) (w : World) (K : Tup [.agg [.int .i64, .int .i64, .int .i64, .int .i64, .slice, .slice]] → World → Prop) (hF_ : F32 t o w K) : tree_Tree_Do_32 t o w K :=
  call_of_F (l := an32) (args := [Ty.mk (.one .ptr) t, Ty.mk (.agg [.int .i64, .int .i64, .int .i64, .int .i64, .int .i64, .str, .str, .slice]) o]) follows tabOk Tryz.func32 (by kernel_rfl) (by kernel_rfl) (by kernel_rfl) hF_

/-- purlin/may.fresh -/
def F33 (t : Option Addr) (old : Option Addr) (w : World) (K : Tup [.one (.int .i64)] → World → Prop) : Prop :=
  tree_Tree_Files_86 old w fun r1 w2 =>
  tree_Tree_Files_86 t w2 fun r3 w4 =>
  loopP (σ := Tup [.one (.int .i64)]) (fun again5 s6 w7 =>
    cnd (decide (s6 < (r3.len : Int))) (
      idxP s6 r3.len (
        onSome r3.a fun A8 =>
        ldA [.int .i64, .int .i64, .int .i64, .slice, .slice, .map] (A8.add (Int.toNat s6 * 6)) w7 fun c9 =>
        newP (.cells #[(.int .i64 0), (.int .i64 0), (.int .i64 0), (.slice none 0 0), (.slice none 0 0), (.map none)] 108) w7 fun b10 w11 =>
        stN ⟨b10, 0, none⟩ [(.int .i64 c9.1), (.int .i64 c9.2.1), (.int .i64 c9.2.2.1), (.slice c9.2.2.2.1.a c9.2.2.2.1.len c9.2.2.2.1.cap), (.slice c9.2.2.2.2.1.a c9.2.2.2.2.1.len c9.2.2.2.2.1.cap), (.map c9.2.2.2.2.2)] w11 fun w12 =>
        slices_ContainsFunc_87 r1 (.func (.func 88) #[] #[(.pointer (some ⟨b10, 0, none⟩))]) w12 fun r13 w14 =>
        cnd (!r13) (
          ldP (.int .i64) ⟨b10, 0, none⟩ w14 fun x15 =>
          K x15 w14) (
          again5 (w64 (s6 + 1)) w14))) (
      K 0 w7)) 0 w4
def an33 : List An := [
  .reg ⟨[], .done, []⟩,
  .reg ⟨[(1, [.one .slice])], .done, []⟩,
  .reg ⟨[(1, [.one .slice])], .done, []⟩,
  .nop,
  .nop,
  .loop [(13, .one (.int .i64))] [4, 7, 14, 15, 16, 17, 18, 19, 20, 21, 22, 23],
  .reg ⟨[], .done, []⟩,
  .nop,
  .nop,
  .reg ⟨[], .done, []⟩,
  .reg ⟨[(2, [.one .bool])], .done, []⟩,
  .nop,
  .reg ⟨[], .done, []⟩,
  .reg ⟨[], .done, []⟩,
  .reg ⟨[], .done, []⟩]
theorem may_fresh_33_of (t : Option Addr) (old : Option Addr) (w : World) (K : Tup [.one (.int .i64)] → World → Prop) (hF_ : F33 t old w K) : may_fresh_33 t old w K :=
  call_of_F (l := an33) (args := [Ty.mk (.one .ptr) t, Ty.mk (.one .ptr) old]) follows tabOk Tryz.func33 (by kernel_rfl) (by kernel_rfl) (by kernel_rfl) hF_

/-- (*purlin/may.History).note -/
def F34 (h : Option Addr) (t : Option Addr) (w : World) (K : Tup [] → World → Prop) : Prop :=
  newP (.map #[] 0) w fun b1 w2 =>
  newP (.map #[] 0) w2 fun b3 w4 =>
  tree_Tree_Files_86 t w4 fun r5 w6 =>
  loopP (σ := Tup [.one (.int .i64)]) (fun again7 s8 w9 =>
    cnd (decide (s8 < (r5.len : Int))) (
      idxP s8 r5.len (
        onSome r5.a fun A10 =>
        ldA [.int .i64, .int .i64, .int .i64, .slice, .slice, .map] (A10.add (Int.toNat s8 * 6)) w9 fun c11 =>
        newP (.cells #[(.int .i64 0), (.int .i64 0), (.int .i64 0), (.slice none 0 0), (.slice none 0 0), (.map none)] 108) w9 fun b12 w13 =>
        stN ⟨b12, 0, none⟩ [(.int .i64 c11.1), (.int .i64 c11.2.1), (.int .i64 c11.2.2.1), (.slice c11.2.2.2.1.a c11.2.2.2.1.len c11.2.2.2.1.cap), (.slice c11.2.2.2.2.1.a c11.2.2.2.2.1.len c11.2.2.2.2.1.cap), (.map c11.2.2.2.2.2)] w13 fun w14 =>
        ldP (.int .i64) ⟨b12, 0, none⟩ w14 fun x15 =>
        ldP (.int .i64) ⟨b12, 2, none⟩ w14 fun x16 =>
        runU Tryz.prog (Instr.mapUpdate 65 (.map (some b1)) (.int .i64 x15) (.int .i64 x16)) w14 fun w17 =>
        onSome h fun A18 =>
        ldP (.map) (A18.add 2) w17 fun x19 =>
        rdP Tryz.prog (Instr.lookup 70 (.map x19) (.int .i64 x15) false) [.one .ptr] w17 fun c20 =>
        joinP (σ := Tup []) (fun J21 =>
          cnd (Option.isNone c20) (
            joinP (σ := Tup []) (fun J24 =>
              onSome h fun A27 =>
              ldP (.map) (A27.add 2) w17.drew fun x28 =>
              ldP (.int .i64) ⟨b12, 1, none⟩ w17.drew fun x29 =>
              (
                newP (.cells #[(.int .i64 0)] 3) w17.drew fun b30 w31 =>
                (w31.cell? ⟨b12, 1, none⟩ = some (.int .i64 x29)) ∧
                (w31.cell? (A27.add 2) = some (.map x28)) ∧
                newP (.map #[] 0) w31 fun b32 w33 =>
                (w33.cell? ⟨b12, 1, none⟩ = some (.int .i64 x29)) ∧
                (w33.cell? (A27.add 2) = some (.map x28)) ∧
                newP (.cells #[(.int .i64 x29), (.string (⟨#[]⟩ : ByteArray)), (.slice (some ⟨b30, 0, none⟩) 1 1), (.map (some b32))] 135) w33 fun b34 w35 =>
                (w35.cell? (A27.add 2) = some (.map x28)) ∧
                runU Tryz.prog (Instr.mapUpdate 70 (.map x28) (.int .i64 x15) (.pointer (some ⟨b34, 0, none⟩))) w35 fun w36 =>
                J24 () w36) ∧
              newP (.map #[] 0) w17.drew fun b37 w38 =>
              (w38.cell? ⟨b12, 1, none⟩ = some (.int .i64 x29)) ∧
              (w38.cell? (A27.add 2) = some (.map x28)) ∧
              newP (.cells #[(.int .i64 0)] 3) w38 fun b39 w40 =>
              (w40.cell? ⟨b12, 1, none⟩ = some (.int .i64 x29)) ∧
              (w40.cell? (A27.add 2) = some (.map x28)) ∧
              newP (.cells #[(.int .i64 x29), (.string (⟨#[]⟩ : ByteArray)), (.slice (some ⟨b39, 0, none⟩) 1 1), (.map (some b37))] 135) w40 fun b41 w42 =>
              (w42.cell? (A27.add 2) = some (.map x28)) ∧
              runU Tryz.prog (Instr.mapUpdate 70 (.map x28) (.int .i64 x15) (.pointer (some ⟨b41, 0, none⟩))) w42 fun w43 =>
              J24 () w43) (fun _s25 w26 =>
            J21 () w26)) (
            J21 () w17)) (fun _s22 w23 =>
        ldP (.int .i64) ⟨b12, 1, none⟩ w23 fun x44 =>
        joinP (σ := Tup []) (fun J45 =>
          joinP (σ := Tup []) (fun J48 =>
            cnd (x44 == 1) (
              onSome h fun A51 =>
              ldP (.map) (A51.add 2) w23.drew fun x52 =>
              rdP Tryz.prog (Instr.lookup 70 (.map x52) (.int .i64 x15) false) [.one .ptr] w23.drew fun c53 =>
              ldP (.slice) ⟨b12, 3, none⟩ w23.drew fun x54 =>
              may_file_write_89 c53 x54 w23.drew fun _r55 w56 =>
              J48 () w56) (
              joinP (σ := Tup []) (fun J57 =>
                cnd (x44 == 3) (
                  onSome h fun A60 =>
                  ldP (.map) (A60.add 2) w23.drew fun x61 =>
                  rdP Tryz.prog (Instr.lookup 70 (.map x61) (.int .i64 x15) false) [.one .ptr] w23.drew fun c62 =>
                  ldP (.slice) ⟨b12, 3, none⟩ w23.drew fun x63 =>
                  rdP Tryz.prog (convert 22 9 (.slice x63.a x63.len x63.cap)) [.one .str] w23.drew fun c64 =>
                  onSome c62 fun A65 =>
                  stP (A65.add 1) (.string c64) w23.drew fun w66 =>
                  J57 () w66) (
                  J57 () w23)) (fun _s58 w59 =>
              J48 () w59))) (fun _s49 w50 =>
          J45 () w50)) (fun _s46 w47 =>
        ldP (.map) ⟨b12, 5, none⟩ w47 fun x67 =>
        runP Tryz.prog (Instr.range 66 (.map x67)) [.one .ptr] w47 fun c68 w69 =>
        loopP (σ := Tup []) (fun again70 _s71 w72 =>
          nextP Tryz.prog (Instr.next (.pointer c68) false 0) [.one .str, .one (.int .i64)] w72 (fun w73 =>
            again7 (w64 (s8 + 1)) w73) (fun _c75 w74 =>
            rdP Tryz.prog (Instr.entry (.pointer c68)) [.one .str, .one (.int .i64)] w74 fun c76 =>
            runU Tryz.prog (Instr.mapUpdate 158 (.map (some b3)) (.agg #[(.int .i64 x15), (.string c76.1)]) (.int .i64 c76.2)) w74 fun w77 =>
            again70 () w77)) () w69)))) (
      onSome h fun A78 =>
      ldP (.map) (A78.add 4) w9 fun x79 =>
      runP Tryz.prog (Instr.range 72 (.map x79)) [.one .ptr] w9 fun c80 w81 =>
      loopP (σ := Tup []) (fun again82 _s83 w84 =>
        nextP Tryz.prog (Instr.next (.pointer c80) false 0) [.agg [.int .i64, .str], .one .slice] w84 (fun w85 =>
          runP Tryz.prog (Instr.range 158 (.map (some b3))) [.one .ptr] w85 fun c88 w89 =>
          loopP (σ := Tup []) (fun again90 _s91 w92 =>
            nextP Tryz.prog (Instr.next (.pointer c88) false 0) [.agg [.int .i64, .str], .one (.int .i64)] w92 (fun w93 =>
              onSome h fun A96 =>
              ldP (.map) (A96.add 3) w93 fun x97 =>
              runP Tryz.prog (Instr.range 71 (.map x97)) [.one .ptr] w93 fun c98 w99 =>
              loopP (σ := Tup []) (fun again100 _s101 w102 =>
                nextP Tryz.prog (Instr.next (.pointer c98) false 0) [.one (.int .i64), .agg [.bool, .bool, .bool]] w102 (fun w103 =>
                  K () w103) (fun _c105 w104 =>
                  rdP Tryz.prog (Instr.entry (.pointer c98)) [.one (.int .i64), .agg [.bool, .bool, .bool]] w104 fun c106 =>
                  newP (.cells #[(.bool false), (.bool false), (.bool false)] 82) w104 fun b107 w108 =>
                  stN ⟨b107, 0, none⟩ [(.bool c106.2.1), (.bool c106.2.2.1), (.bool c106.2.2.2)] w108 fun w109 =>
                  joinP (σ := Tup []) (fun J110 =>
                    ldP (.bool) ⟨b107, 1, none⟩ w109 fun x113 =>
                    cnd x113 (
                      rdP Tryz.prog (Instr.lookup 65 (.map (some b1)) (.int .i64 c106.1) false) [.one (.int .i64)] w109 fun c114 =>
                      stP ⟨b107, 1, none⟩ (.bool (decide (c114 > 0))) w109 fun w115 =>
                      J110 () w115) (
                      stP ⟨b107, 1, none⟩ (.bool false) w109 fun w116 =>
                      J110 () w116)) (fun _s111 w112 =>
                  ldP (.bool) ⟨b107, 2, none⟩ w112 fun x117 =>
                  cnd x117 (
                    rdP Tryz.prog (Instr.lookup 65 (.map (some b1)) (.int .i64 c106.1) false) [.one (.int .i64)] w112 fun c118 =>
                    stP ⟨b107, 2, none⟩ (.bool (c118 == 1)) w112 fun w119 =>
                    onSome h fun A120 =>
                    ldP (.map) (A120.add 3) w119.drew fun x121 =>
                    ldA [.bool, .bool, .bool] ⟨b107, 0, none⟩ w119.drew fun c122 =>
                    runU Tryz.prog (Instr.mapUpdate 71 (.map x121) (.int .i64 c106.1) (.agg #[(.bool c122.1), (.bool c122.2.1), (.bool c122.2.2)])) w119.drew fun w123 =>
                    again100 () w123) (
                    stP ⟨b107, 2, none⟩ (.bool false) w112 fun w124 =>
                    onSome h fun A125 =>
                    ldP (.map) (A125.add 3) w124.drew fun x126 =>
                    ldA [.bool, .bool, .bool] ⟨b107, 0, none⟩ w124.drew fun c127 =>
                    runU Tryz.prog (Instr.mapUpdate 71 (.map x126) (.int .i64 c106.1) (.agg #[(.bool c127.1), (.bool c127.2.1), (.bool c127.2.2)])) w124.drew fun w128 =>
                    again100 () w128)))) () w99) (fun _c95 w94 =>
              rdP Tryz.prog (Instr.entry (.pointer c88)) [.agg [.int .i64, .str], .one (.int .i64)] w94 fun c129 =>
              newP (.cells #[(.int .i64 0), (.string (⟨#[]⟩ : ByteArray))] 77) w94 fun b130 w131 =>
              stN ⟨b130, 0, none⟩ [(.int .i64 c129.1.1), (.string c129.1.2)] w131 fun w132 =>
              ldA [.int .i64, .str] ⟨b130, 0, none⟩ w132 fun c133 =>
              may_History_set_90 h (c133.1, c133.2) c129.2 w132 fun _r134 w135 =>
              again90 () w135)) () w89) (fun _c87 w86 =>
          rdP Tryz.prog (Instr.entry (.pointer c80)) [.agg [.int .i64, .str], .one .slice] w86 fun c136 =>
          newP (.cells #[(.int .i64 0), (.string (⟨#[]⟩ : ByteArray))] 77) w86 fun b137 w138 =>
          stN ⟨b137, 0, none⟩ [(.int .i64 c136.1.1), (.string c136.1.2)] w138 fun w139 =>
          ldA [.int .i64, .str] ⟨b137, 0, none⟩ w139.drew fun c140 =>
          ldA [.int .i64, .str] ⟨b137, 0, none⟩ w139.drew fun c141 =>
          rdP Tryz.prog (Instr.lookup 158 (.map (some b3)) (.agg #[(.int .i64 c141.1), (.string c141.2)]) false) [.one (.int .i64)] w139.drew fun c142 =>
          may_History_set_90 h (c140.1, c140.2) c142 w139.drew fun _r143 w144 =>
          again82 () w144)) () w81)) 0 w6
def an34 : List An := [
  .reg ⟨[], .done, []⟩,
  .reg ⟨[], .done, []⟩,
  .reg ⟨[(1, [.one .slice])], .done, []⟩,
  .nop,
  .nop,
  .loop [(21, .one (.int .i64))] [7, 8, 9, 10, 22, 23, 24, 25, 26, 27, 28, 29, 30, 31, 32, 33, 34, 35, 36, 37, 38, 39, 40, 41, 42, 43, 44, 45, 46, 47, 48, 49, 50, 51, 52, 53, 54, 55, 56, 57, 58, 59, 60, 61, 62, 63, 64, 65, 66, 67, 68, 69, 70, 71, 72, 73, 74, 75, 76, 77, 78, 79, 80, 81, 82, 83, 84, 85, 86, 87, 88],
  .reg ⟨[], .done, []⟩,
  .nop,
  .nop,
  .reg ⟨[], .done, []⟩,
  .reg ⟨[], .done, []⟩,
  .reg ⟨[], .done, []⟩,
  .reg ⟨[], .done, []⟩,
  .join [] [38, 39, 40, 41, 42, 43, 44, 45, 46, 47, 48],
  .join [] [38, 39, 40, 41, 42, 43, 44, 45, 46, 47, 48],
  .reg ⟨[], (.nop 0 0 (.nop 1 1 (.nop 2 3 (.nop 3 7 (.nop 4 0 (.nop 5 0 (.nop 6 32 (.bar 7 0 (.bar 8 0 (.nop 9 480 (.bar 10 992 (.bar 11 2047 .done .none) .none)) .none) (.bar 8 0 (.bar 7 0 (.nop 9 480 (.bar 10 992 (.bar 11 2047 .done .none) .none)) .none) .none))))))))), []⟩,
  .reg ⟨[], .done, []⟩,
  .join [] [51, 52, 53, 54, 55, 56, 57, 58, 59, 60, 61, 62, 63, 64, 65, 66, 67, 68, 69, 70, 71, 72, 73, 74],
  .reg ⟨[], .done, []⟩,
  .join [] [53, 54, 55, 56, 57, 58, 59, 60, 61, 62, 63, 64, 65, 66, 67, 68, 69, 70, 71, 72, 73, 74],
  .reg ⟨[(8, [])], (.nop 0 0 (.nop 1 1 (.nop 2 3 (.nop 3 7 (.nop 4 0 (.nop 5 31 (.nop 6 0 (.nop 7 64 (.bar 8 255 .done .none))))))))), []⟩,
  .reg ⟨[], .done, []⟩,
  .join [] [64, 65, 66, 67, 68, 69, 70, 71, 72, 73, 74],
  .reg ⟨[], (.nop 0 0 (.nop 1 1 (.nop 2 3 (.nop 3 7 (.nop 4 0 (.nop 5 31 (.nop 6 0 (.nop 7 64 (.nop 8 192 (.nop 9 511 (.nop 10 1023 (.bar 11 2047 .done .none)))))))))))), []⟩,
  .reg ⟨[], .done, []⟩,
  .nop,
  .nop,
  .loop [] [9, 10, 78, 79, 80, 81, 82, 83, 84, 85, 86, 87],
  .reg ⟨[(0, [.one .str, .one (.int .i64)])], .done, []⟩,
  .nop,
  .nop,
  .reg ⟨[(0, [.one .str, .one (.int .i64)])], .done, []⟩,
  .reg ⟨[], .done, []⟩,
  .reg ⟨[], .done, []⟩,
  .reg ⟨[], .done, []⟩,
  .nop,
  .nop,
  .loop [] [11, 94, 95, 96, 97, 98, 99, 100, 101, 102, 103],
  .reg ⟨[(0, [.agg [.int .i64, .str], .one .slice])], .done, []⟩,
  .nop,
  .nop,
  .reg ⟨[(0, [.agg [.int .i64, .str], .one .slice])], .done, []⟩,
  .reg ⟨[(5, [])], (.nop 0 0 (.nop 1 0 (.nop 2 0 (.nop 3 0 (.nop 4 12 (.bar 5 31 .done .none)))))), []⟩,
  .reg ⟨[], .done, []⟩,
  .nop,
  .nop,
  .loop [] [12, 13, 106, 107, 108, 109, 110, 111, 112, 113, 114],
  .reg ⟨[(0, [.agg [.int .i64, .str], .one (.int .i64)])], .done, []⟩,
  .nop,
  .nop,
  .reg ⟨[(0, [.agg [.int .i64, .str], .one (.int .i64)])], .done, []⟩,
  .reg ⟨[(3, [])], .done, []⟩,
  .reg ⟨[], .done, []⟩,
  .nop,
  .nop,
  .loop [] [14, 15, 120, 121, 122, 123, 124, 125, 126, 127, 128, 129, 130, 131, 132, 133, 134, 135, 136, 137, 138, 139, 140, 141, 142, 143, 144, 145, 146, 147, 148],
  .reg ⟨[(0, [.one (.int .i64), .agg [.bool, .bool, .bool]])], .done, []⟩,
  .nop,
  .nop,
  .reg ⟨[(0, [.one (.int .i64), .agg [.bool, .bool, .bool]])], .done, []⟩,
  .join [] [125, 126, 127, 128, 129, 130, 131, 132, 133],
  .reg ⟨[], .done, []⟩,
  .reg ⟨[], .done, []⟩,
  .reg ⟨[], (.nop 0 0 (.nop 1 1 (.nop 2 3 (.nop 3 7 (.nop 4 0 (.nop 5 0 (.bar 6 63 .done .none))))))), []⟩]
theorem may_History_note_34_of (h : Option Addr) (t : Option Addr) (w : World) (K : Tup [] → World → Prop) (hF_ : F34 h t w K) : may_History_note_34 h t w K :=
  call_of_F (l := an34) (args := [Ty.mk (.one .ptr) h, Ty.mk (.one .ptr) t]) follows tabOk Tryz.func34 (by kernel_rfl) (by kernel_rfl) (by kernel_rfl) hF_

/-- (*purlin/tree.Tree).Where -/
def F35 (t : Option Addr) (p : ByteArray) (w : World) (K : Tup [.one (.int .i64), .one .str, .one .bool] → World → Prop) : Prop :=
  cnd (Option.isNone t) (
    K (0, (⟨#[]⟩ : ByteArray), false) w) (
    tree_Tree_find_91 t p true w fun r1 w2 =>
    newP (.cells #[(.int .i64 0), (.int .i64 0), (.string (⟨#[]⟩ : ByteArray))] 151) w2 fun b3 w4 =>
    stN ⟨b3, 0, none⟩ [(.int .i64 r1.1.1), (.int .i64 r1.1.2.1), (.string r1.1.2.2)] w4 fun w5 =>
    ldP (.int .i64) ⟨b3, 1, none⟩ w5.drew fun x6 =>
    ldP (.str) ⟨b3, 2, none⟩ w5.drew fun x7 =>
    cnd (r1.2 == 0) (
      ldP (.int .i64) ⟨b3, 1, none⟩ w5.drew fun x8 =>
      K (x6, x7, (x8 != 0)) w5.drew) (
      K (x6, x7, false) w5.drew))
def an35 : List An := [
  .reg ⟨[], .done, []⟩,
  .reg ⟨[], .done, []⟩,
  .nop,
  .reg ⟨[], .done, []⟩,
  .reg ⟨[(2, [.agg [.int .i64, .int .i64, .str], .one (.int .i64)])], .done, []⟩,
  .reg ⟨[], (.nop 0 0 (.nop 1 1 (.nop 2 0 (.nop 3 4 (.nop 4 0 (.nop 5 16 (.nop 6 48 (.nop 7 112 (.nop 8 240 (.nop 9 496 (.nop 10 1008 (.nop 11 115 (.nop 12 2175 (.nop 13 8191 .done)))))))))))))), []⟩]
theorem tree_Tree_Where_35_of (t : Option Addr) (p : ByteArray) (w : World) (K : Tup [.one (.int .i64), .one .str, .one .bool] → World → Prop) (hF_ : F35 t p w K) : tree_Tree_Where_35 t p w K :=
  call_of_F (l := an35) (args := [Ty.mk (.one .ptr) t, Ty.mk (.one .str) p]) follows tabOk Tryz.func35 (by kernel_rfl) (by kernel_rfl) (by kernel_rfl) hF_

/-- (*purlin/may.History).lasts -/
def F36 (h : Option Addr) (o : Carr [.int .i64, .int .i64, .int .i64, .int .i64, .int .i64, .str, .str, .slice]) (w : World) (K : Tup [] → World → Prop) : Prop :=
  newP (.cells #[(.int .i64 o.1), (.int .i64 o.2.1), (.int .i64 o.2.2.1), (.int .i64 o.2.2.2.1), (.int .i64 o.2.2.2.2.1), (.string o.2.2.2.2.2.1), (.string o.2.2.2.2.2.2.1), (.slice o.2.2.2.2.2.2.2.a o.2.2.2.2.2.2.2.len o.2.2.2.2.2.2.2.cap)] 28) w fun b1 w2 =>
  onSome h fun A3 =>
  ldP (.ptr) A3 w2.drew fun x4 =>
  ldP (.int .i64) ⟨b1, 1, none⟩ w2.drew fun x5 =>
  tree_Tree_Open_92 x4 x5 w2.drew fun r6 w7 =>
  ldP (.int .i64) ⟨b1, 0, none⟩ w7 fun x8 =>
  cnd (x8 == 21) (
    onSome h fun A9 =>
    ldP (.map) (A9.add 4) w7 fun x10 =>
    runP Tryz.prog (Instr.range 72 (.map x10)) [.one .ptr] w7 fun c11 w12 =>
    loopP (σ := Tup []) (fun again13 _s14 w15 =>
      nextP Tryz.prog (Instr.next (.pointer c11) false 0) [.agg [.int .i64, .str], .one .slice] w15 (fun w16 =>
        onSome h fun A19 =>
        ldP (.map) (A19.add 2) w16 fun x20 =>
        runP Tryz.prog (Instr.range 70 (.map x20)) [.one .ptr] w16 fun c21 w22 =>
        loopP (σ := Tup []) (fun again23 _s24 w25 =>
          nextP Tryz.prog (Instr.next (.pointer c21) false 0) [.one (.int .i64), .one .ptr] w25 (fun w26 =>
            K () w26) (fun _c28 w27 =>
            rdP Tryz.prog (Instr.entry (.pointer c21)) [.one (.int .i64), .one .ptr] w27 fun c29 =>
            may_History_firm_60 h c29.1 w27 fun _r30 w31 =>
            again23 () w31)) () w22) (fun _c18 w17 =>
        rdP Tryz.prog (Instr.entry (.pointer c11)) [.agg [.int .i64, .str], .one .slice] w17 fun c32 =>
        newP (.cells #[(.int .i64 0), (.string (⟨#[]⟩ : ByteArray))] 77) w17 fun b33 w34 =>
        stN ⟨b33, 0, none⟩ [(.int .i64 c32.1.1), (.string c32.1.2)] w34 fun w35 =>
        ldA [.int .i64, .str] ⟨b33, 0, none⟩ w35 fun c36 =>
        may_History_last_59 h (c36.1, c36.2) w35 fun _r37 w38 =>
        again13 () w38)) () w12) (
    joinP (σ := Tup [.one .bool]) (fun J39 =>
      cnd (x8 == 4) (
        J39 (x8 == 4) w7) (
        J39 (x8 == 6) w7)) (fun s40 w41 =>
    cnd s40 (
      cnd ((andI .i64 r6.2.1 16) != 0) (
        may_History_firm_60 h r6.1 w41 fun _r42 w43 =>
        K () w43) (
        K () w41)) (
      cnd (x8 == 20) (
        may_History_firm_60 h r6.1 w41 fun _r44 w45 =>
        K () w45) (
        cnd (x8 == 19) (
          may_History_firm_60 h r6.1 w41 fun _r46 w47 =>
          onSome h fun A48 =>
          ldP (.map) (A48.add 2) w47 fun x49 =>
          rdP Tryz.prog (Instr.lookup 70 (.map x49) (.int .i64 r6.1) false) [.one .ptr] w47 fun c50 =>
          onSome c50 fun A51 =>
          ldP (.int .i64) A51 w47 fun x52 =>
          cnd (x52 == 2) (
            onSome h fun A53 =>
            ldP (.map) (A53.add 4) w47 fun x54 =>
            runP Tryz.prog (Instr.range 72 (.map x54)) [.one .ptr] w47 fun c55 w56 =>
            loopP (σ := Tup []) (fun again57 _s58 w59 =>
              nextP Tryz.prog (Instr.next (.pointer c55) false 0) [.agg [.int .i64, .str], .one .slice] w59 (fun w60 =>
                may_History_above_93 h r6.1 w60 fun _r63 w64 =>
                K () w64) (fun _c62 w61 =>
                rdP Tryz.prog (Instr.entry (.pointer c55)) [.agg [.int .i64, .str], .one .slice] w61 fun c65 =>
                newP (.cells #[(.int .i64 0), (.string (⟨#[]⟩ : ByteArray))] 77) w61 fun b66 w67 =>
                stN ⟨b66, 0, none⟩ [(.int .i64 c65.1.1), (.string c65.1.2)] w67 fun w68 =>
                ldP (.int .i64) ⟨b66, 0, none⟩ w68 fun x69 =>
                cnd (x69 == r6.1) (
                  ldA [.int .i64, .str] ⟨b66, 0, none⟩ w68 fun c70 =>
                  may_History_last_59 h (c70.1, c70.2) w68 fun _r71 w72 =>
                  again57 () w72) (
                  again57 () w68))) () w56) (
            onSome h fun A73 =>
            ldP (.map) (A73.add 5) w47.drew fun x74 =>
            ldP (.int .i64) ⟨b1, 1, none⟩ w47.drew fun x75 =>
            rdP Tryz.prog (Instr.lookup 73 (.map x74) (.int .i64 x75) true) [.agg [.int .i64, .str], .one .bool] w47.drew fun c76 =>
            newP (.cells #[(.int .i64 0), (.string (⟨#[]⟩ : ByteArray))] 77) w47.drew fun b77 w78 =>
            (Sem.run Tryz.prog (Instr.lookup 73 (.map x74) (.int .i64 x75) true) w78 = .ok (.tuple #[(.agg #[(.int .i64 c76.1.1), (.string c76.1.2)]), (.bool c76.2)]) w78) ∧
            (w78.cell? ⟨b1, 1, none⟩ = some (.int .i64 x75)) ∧
            (w78.cell? (A73.add 5) = some (.map x74)) ∧
            stN ⟨b77, 0, none⟩ [(.int .i64 c76.1.1), (.string c76.1.2)] w78 fun w79 =>
            cnd c76.2 (
              ldA [.int .i64, .str] ⟨b77, 0, none⟩ w79 fun c80 =>
              may_History_now_94 h (c80.1, c80.2) w79 fun r81 w82 =>
              cnd (r81 == r6.1) (
                ldA [.int .i64, .str] ⟨b77, 0, none⟩ w82 fun c83 =>
                may_History_last_59 h (c83.1, c83.2) w82 fun _r84 w85 =>
                ldP (.int .i64) ⟨b77, 0, none⟩ w85 fun x86 =>
                may_History_above_93 h x86 w85 fun _r87 w88 =>
                K () w88) (
                K () w82)) (
              K () w79))) (
          K () w41)))))
def an36 : List An := [
  .reg ⟨[], .done, []⟩,
  .reg ⟨[(6, [.one (.int .i64), .one (.int .i64), .one .bool])], (.nop 0 0 (.nop 1 1 (.nop 2 3 (.nop 3 7 (.nop 4 0 (.nop 5 16 (.bar 6 63 (.nop 7 127 (.nop 8 255 (.nop 9 255 (.nop 10 255 (.nop 11 511 (.nop 12 3071 (.nop 13 8191 .done))))))) .none))))))), []⟩,
  .reg ⟨[], .done, []⟩,
  .nop,
  .reg ⟨[], .done, []⟩,
  .nop,
  .reg ⟨[], .done, []⟩,
  .nop,
  .nop,
  .loop [] [7, 32, 33, 34, 35, 36, 37, 38],
  .reg ⟨[(0, [.agg [.int .i64, .str], .one .slice])], .done, []⟩,
  .nop,
  .nop,
  .reg ⟨[(0, [.agg [.int .i64, .str], .one .slice])], .done, []⟩,
  .reg ⟨[(2, [])], .done, []⟩,
  .reg ⟨[], .done, []⟩,
  .nop,
  .nop,
  .loop [] [8, 44, 45, 46, 47, 48, 49, 50],
  .reg ⟨[(0, [.one (.int .i64), .one .ptr])], .done, []⟩,
  .nop,
  .nop,
  .reg ⟨[(0, [.one (.int .i64), .one .ptr])], .done, []⟩,
  .reg ⟨[(2, [])], .done, []⟩,
  .reg ⟨[], .done, []⟩,
  .join [(51, .one .bool)] [53],
  .reg ⟨[], .done, []⟩,
  .nop,
  .reg ⟨[], .done, []⟩,
  .nop,
  .reg ⟨[(2, [])], .done, []⟩,
  .reg ⟨[], .done, []⟩,
  .nop,
  .reg ⟨[(2, [])], .done, []⟩,
  .reg ⟨[], .done, []⟩,
  .nop,
  .reg ⟨[(2, [])], .done, []⟩,
  .reg ⟨[], .done, []⟩,
  .nop,
  .reg ⟨[], .done, []⟩,
  .nop,
  .nop,
  .loop [] [9, 85, 86, 87, 88, 89, 90, 91, 92, 93, 94, 95],
  .reg ⟨[(0, [.agg [.int .i64, .str], .one .slice])], .done, []⟩,
  .nop,
  .nop,
  .reg ⟨[(0, [.agg [.int .i64, .str], .one .slice])], .done, []⟩,
  .reg ⟨[], .done, []⟩,
  .nop,
  .reg ⟨[(2, [])], .done, []⟩,
  .reg ⟨[(2, [])], .done, []⟩,
  .reg ⟨[], (.nop 0 0 (.nop 1 1 (.nop 2 3 (.nop 3 7 (.nop 4 0 (.nop 5 16 (.nop 6 63 (.nop 7 127 (.nop 8 255 (.nop 9 255 (.bar 10 0 (.bar 11 1535 (.nop 12 4095 .done) .none) .none))))))))))), []⟩,
  .reg ⟨[(4, [.one (.int .i64)])], .done, []⟩,
  .nop,
  .reg ⟨[(2, [])], .done, []⟩,
  .reg ⟨[(3, [])], .done, []⟩]
theorem may_History_lasts_36_of (h : Option Addr) (o : Carr [.int .i64, .int .i64, .int .i64, .int .i64, .int .i64, .str, .str, .slice]) (w : World) (K : Tup [] → World → Prop) (hF_ : F36 h o w K) : may_History_lasts_36 h o w K :=
  call_of_F (l := an36) (args := [Ty.mk (.one .ptr) h, Ty.mk (.agg [.int .i64, .int .i64, .int .i64, .int .i64, .int .i64, .str, .str, .slice]) o]) follows tabOk Tryz.func36 (by kernel_rfl) (by kernel_rfl) (by kernel_rfl) hF_

end Go.Proofs.YtcpoglgnkedpaaaGreatDoor
