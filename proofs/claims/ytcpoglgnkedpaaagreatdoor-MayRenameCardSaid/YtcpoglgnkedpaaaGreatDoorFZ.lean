/-
  What the functions' bodies ask (printed by vcgen.py).
-/
import Derived.Test.YtcpoglgnkedpaaaGreatDoorTS
namespace Go.Proofs.YtcpoglgnkedpaaaGreatDoor
open Go Go.Vc Go.Proofs


/-- (*purlin/tree.Tree).Nodes -/
def F49 (t : Option Addr) (w : World) (K : Tup [.one .slice] → World → Prop) : Prop :=
  newP (.cells #[(.pointer t)] 63) w fun b1 w2 =>
  ldP (.ptr) ⟨b1, 0, none⟩ w2 fun x3 =>
  cnd (Option.isNone x3) (
    K ⟨none, 0, 0⟩ w2) (
    newP (.cells #[(.slice none 0 0)] 45) w2 fun b4 w5 =>
    newP (.cells #[Value.nilFunc] 173) w5 fun b6 w7 =>
    stP ⟨b6, 0, none⟩ (.func (.func 108) #[] #[(.pointer (some ⟨b1, 0, none⟩)), (.pointer (some ⟨b4, 0, none⟩)), (.pointer (some ⟨b6, 0, none⟩))]) w7 fun w8 =>
    ldP (.any) ⟨b6, 0, none⟩ w8 fun x9 =>
    callV Tryz.prog x9 #[(.int .i64 1), (.string (⟨#[]⟩ : ByteArray))] [] w8 fun _r10 w11 =>
    ldP (.slice) ⟨b4, 0, none⟩ w11 fun x12 =>
    slices_SortFunc_110 x12 (.func (.func 111) #[] #[]) w11 fun _r13 w14 =>
    ldP (.slice) ⟨b4, 0, none⟩ w14 fun x15 =>
    K x15 w14)
def an49 : List An := [
  .reg ⟨[], .done, []⟩,
  .reg ⟨[], .done, []⟩,
  .nop,
  .reg ⟨[], .done, []⟩,
  .reg ⟨[], .done, []⟩,
  .reg ⟨[], .done, []⟩,
  .reg ⟨[], .done, []⟩,
  .reg ⟨[(1, [])], .done, []⟩,
  .reg ⟨[(1, [])], .done, []⟩,
  .reg ⟨[], .done, []⟩]
theorem tree_Tree_Nodes_49_of (t : Option Addr) (w : World) (K : Tup [.one .slice] → World → Prop) (hF_ : F49 t w K) : tree_Tree_Nodes_49 t w K :=
  call_of_F (l := an49) (args := [Ty.mk (.one .ptr) t]) follows tabOk Tryz.func49 (by kernel_rfl) (by kernel_rfl) (by kernel_rfl) hF_

/-- purlin/inode.Need -/
def F50 (size : Int) (w : World) (K : Tup [.one (.int .i64)] → World → Prop) : Prop :=
  cnd (decide (size < 1)) (
    K 0 w) (
    cnd (decide (size ≥ 20736)) (
      K 162 w) (
      (128 : Int) ≠ 0 ∧
      K (w64 (Int.tdiv (w64 ((w64 (size + 128)) - 1)) 128)) w))
def an50 : List An := [
  .reg ⟨[], .done, []⟩,
  .nop,
  .reg ⟨[], .done, []⟩,
  .nop,
  .reg ⟨[], .done, []⟩,
  .reg ⟨[], .done, []⟩,
  .nop,
  .reg ⟨[], .done, []⟩,
  .reg ⟨[], .done, []⟩]
theorem inode_Need_50_of (size : Int) (w : World) (K : Tup [.one (.int .i64)] → World → Prop) (hF_ : F50 size w K) : inode_Need_50 size w K :=
  call_of_F (l := an50) (args := [Ty.mk (.one (.int .i64)) size]) follows tabOk Tryz.func50 (by kernel_rfl) (by kernel_rfl) (by kernel_rfl) hF_

/-- purlin/may.parted -/
def F51 (p : ByteArray) (w : World) (K : Tup [.one .str, .one .str, .one .bool] → World → Prop) : Prop :=
  strings_LastIndexByte_113 p 47 w fun r1 w2 =>
  joinP (σ := Tup [.one .bool]) (fun J3 =>
    cnd (decide (r1 < 0)) (
      J3 true w2) (
      J3 (r1 == (w64 ((p.size : Int) - 1))) w2)) (fun s4 w5 =>
  cnd s4 (
    K ((⟨#[]⟩ : ByteArray), (⟨#[]⟩ : ByteArray), false) w5) (
    cnd (r1 == 0) (
      strP p 1 none fun x6 =>
      K ((⟨#[47]⟩ : ByteArray), x6, true) w5.drew) (
      strP p 0 (some r1) fun x7 =>
      strP p (w64 (r1 + 1)) none fun x8 =>
      strP p 0 (some r1) fun x9 =>
      K (x7, x8, (!(x9.toList == (⟨#[47]⟩ : ByteArray).toList))) w5.drew)))
def an51 : List An := [
  .reg ⟨[], .done, []⟩,
  .reg ⟨[(1, [.one (.int .i64)])], .done, []⟩,
  .join [(16, .one .bool)] [8, 9, 10, 11, 12, 13, 14, 15],
  .reg ⟨[], .done, []⟩,
  .nop,
  .reg ⟨[], .done, []⟩,
  .reg ⟨[], .done, []⟩,
  .nop,
  .reg ⟨[], (.nop 0 0 (.nop 1 1 (.nop 2 0 (.nop 3 7 (.nop 4 15 .done))))), []⟩,
  .reg ⟨[], (.nop 0 0 (.nop 1 0 (.nop 2 3 (.nop 3 0 (.nop 4 0 (.nop 5 16 (.nop 6 56 (.nop 7 0 (.nop 8 0 (.nop 9 384 (.nop 10 896 (.nop 11 7 (.nop 12 2175 (.nop 13 8191 .done)))))))))))))), []⟩]
theorem may_parted_51_of (p : ByteArray) (w : World) (K : Tup [.one .str, .one .str, .one .bool] → World → Prop) (hF_ : F51 p w K) : may_parted_51 p w K :=
  call_of_F (l := an51) (args := [Ty.mk (.one .str) p]) follows tabOk Tryz.func51 (by kernel_rfl) (by kernel_rfl) (by kernel_rfl) hF_

end Go.Proofs.YtcpoglgnkedpaaaGreatDoor

/-
  What the functions' bodies ask (printed by vcgen.py).
-/
namespace Go.Proofs.YtcpoglgnkedpaaaGreatDoor
open Go Go.Vc Go.Proofs


/-- purlin/purlinlaw24.MayRename -/
def F4 (over : Bool) (last : Bool) (w : World) (K : Tup [.one .bool] → World → Prop) : Prop :=
  may_New_11  w fun r1 w2 =>
  joinP (σ := Tup [.one .bool]) (fun J3 =>
    cnd (Option.isNone r1) (
      J3 true w2) (
      purlinlaw24_one_12 r1 (9, 0, 0, 0, 0, (⟨#[47, 100]⟩ : ByteArray), (⟨#[]⟩ : ByteArray), ⟨none, 0, 0⟩) 4 w2 fun r6 w7 =>
      cnd (!r6) (
        J3 true w7) (
        purlinlaw24_one_12 r1 (1, 0, 0, 0, 1, (⟨#[47, 102]⟩ : ByteArray), (⟨#[]⟩ : ByteArray), ⟨none, 0, 0⟩) 5 w7 fun r8 w9 =>
        J3 (!r8) w9))) (fun s4 w5 =>
  cnd s4 (
    K false w5) (
    joinP (σ := Tup [.one .bool]) (fun J10 =>
      cnd over (
        purlinlaw24_one_12 r1 (1, 0, 0, 0, 1, (⟨#[47, 100, 47, 103]⟩ : ByteArray), (⟨#[]⟩ : ByteArray), ⟨none, 0, 0⟩) 6 w5 fun r13 w14 =>
        cnd (!r13) (
          J10 true w14) (
          purlinlaw24_one_12 r1 (21, 0, 0, 0, 0, (⟨#[]⟩ : ByteArray), (⟨#[]⟩ : ByteArray), ⟨none, 0, 0⟩) 0 w14 fun r15 w16 =>
          cnd (!r15) (
            J10 true w16) (
            purlinlaw24_one_12 r1 (15, 0, 0, 0, 0, (⟨#[47, 102]⟩ : ByteArray), (⟨#[47, 100, 47, 103]⟩ : ByteArray), ⟨none, 0, 0⟩) 0 w16 fun r17 w18 =>
            J10 (!r17) w18))) (
        purlinlaw24_one_12 r1 (21, 0, 0, 0, 0, (⟨#[]⟩ : ByteArray), (⟨#[]⟩ : ByteArray), ⟨none, 0, 0⟩) 0 w5 fun r19 w20 =>
        cnd (!r19) (
          J10 true w20) (
          purlinlaw24_one_12 r1 (15, 0, 0, 0, 0, (⟨#[47, 102]⟩ : ByteArray), (⟨#[47, 100, 47, 103]⟩ : ByteArray), ⟨none, 0, 0⟩) 0 w20 fun r21 w22 =>
          J10 (!r21) w22))) (fun s11 w12 =>
    cnd s11 (
      K false w12) (
      joinP (σ := Tup [.one .bool]) (fun J23 =>
        cnd last (
          purlinlaw24_one_12 r1 (21, 0, 0, 0, 0, (⟨#[]⟩ : ByteArray), (⟨#[]⟩ : ByteArray), ⟨none, 0, 0⟩) 0 w12 fun r26 w27 =>
          J23 (!r26) w27) (
          J23 false w12)) (fun s24 w25 =>
      cnd s24 (
        K false w25) (
        newP (.cells #[(.string (⟨#[]⟩ : ByteArray)), (.int .i64 0), (.int .i64 0), (.int .i64 0), (.slice none 0 0)] 30) w25 fun b28 w29 =>
        stN ⟨b28, 0, none⟩ [(.string (⟨#[47]⟩ : ByteArray)), (.int .i64 1), (.int .i64 2), (.int .i64 1), (.slice none 0 0)] w29 fun w30 =>
        newP (.cells #[(.string (⟨#[]⟩ : ByteArray)), (.int .i64 0), (.int .i64 0), (.int .i64 0), (.slice none 0 0)] 30) w30 fun b31 w32 =>
        stN ⟨b31, 0, none⟩ [(.string (⟨#[47, 100]⟩ : ByteArray)), (.int .i64 4), (.int .i64 2), (.int .i64 1), (.slice none 0 0)] w32 fun w33 =>
        newP (.cells #[(.string (⟨#[]⟩ : ByteArray)), (.int .i64 0), (.int .i64 0), (.int .i64 0), (.slice none 0 0)] 30) w33 fun b34 w35 =>
        stN ⟨b34, 0, none⟩ [(.string (⟨#[47, 102]⟩ : ByteArray)), (.int .i64 5), (.int .i64 1), (.int .i64 1), (.slice none 0 0)] w35 fun w36 =>
        newP (.cells #[(.string (⟨#[]⟩ : ByteArray)), (.int .i64 0), (.int .i64 0), (.int .i64 0), (.slice none 0 0)] 30) w36 fun b37 w38 =>
        stN ⟨b37, 0, none⟩ [(.string (⟨#[47, 100, 47, 103]⟩ : ByteArray)), (.int .i64 5), (.int .i64 1), (.int .i64 1), (.slice none 0 0)] w38 fun w39 =>
        newP (.cells #[(.string (⟨#[]⟩ : ByteArray)), (.int .i64 0), (.int .i64 0), (.int .i64 0), (.slice none 0 0)] 30) w39 fun b40 w41 =>
        stN ⟨b40, 0, none⟩ [(.string (⟨#[47, 100, 47, 103]⟩ : ByteArray)), (.int .i64 6), (.int .i64 1), (.int .i64 1), (.slice none 0 0)] w41 fun w42 =>
        joinP (σ := Tup [.one .ptr, .one .ptr]) (fun J43 =>
          ldA [.str, .int .i64, .int .i64, .int .i64, .slice] ⟨b34, 0, none⟩ w42.drew fun c46 =>
          ldA [.str, .int .i64, .int .i64, .int .i64, .slice] ⟨b37, 0, none⟩ w42.drew fun c47 =>
          (
            newP (.cells #[(.string (⟨#[]⟩ : ByteArray)), (.int .i64 0), (.int .i64 0), (.int .i64 0), (.slice none 0 0)] 30) w42.drew fun b48 w49 =>
            (cellsAt w49 ⟨b37, 0, none⟩ [(.string c47.1), (.int .i64 c47.2.1), (.int .i64 c47.2.2.1), (.int .i64 c47.2.2.2.1), (.slice c47.2.2.2.2.a c47.2.2.2.2.len c47.2.2.2.2.cap)]) ∧
            (cellsAt w49 ⟨b34, 0, none⟩ [(.string c46.1), (.int .i64 c46.2.1), (.int .i64 c46.2.2.1), (.int .i64 c46.2.2.2.1), (.slice c46.2.2.2.2.a c46.2.2.2.2.len c46.2.2.2.2.cap)]) ∧
            newP (.cells #[(.string (⟨#[]⟩ : ByteArray)), (.int .i64 0), (.int .i64 0), (.int .i64 0), (.slice none 0 0)] 30) w49 fun b50 w51 =>
            (cellsAt w51 ⟨b37, 0, none⟩ [(.string c47.1), (.int .i64 c47.2.1), (.int .i64 c47.2.2.1), (.int .i64 c47.2.2.2.1), (.slice c47.2.2.2.2.a c47.2.2.2.2.len c47.2.2.2.2.cap)]) ∧
            (cellsAt w51 ⟨b34, 0, none⟩ [(.string c46.1), (.int .i64 c46.2.1), (.int .i64 c46.2.2.1), (.int .i64 c46.2.2.2.1), (.slice c46.2.2.2.2.a c46.2.2.2.2.len c46.2.2.2.2.cap)]) ∧
            stN ⟨b48, 0, none⟩ [(.string c46.1), (.int .i64 c46.2.1), (.int .i64 c46.2.2.1), (.int .i64 c46.2.2.2.1), (.slice c46.2.2.2.2.a c46.2.2.2.2.len c46.2.2.2.2.cap)] w51 fun w52 =>
            (cellsAt w52 ⟨b37, 0, none⟩ [(.string c47.1), (.int .i64 c47.2.1), (.int .i64 c47.2.2.1), (.int .i64 c47.2.2.2.1), (.slice c47.2.2.2.2.a c47.2.2.2.2.len c47.2.2.2.2.cap)]) ∧
            stN ⟨b50, 0, none⟩ [(.string c47.1), (.int .i64 c47.2.1), (.int .i64 c47.2.2.1), (.int .i64 c47.2.2.2.1), (.slice c47.2.2.2.2.a c47.2.2.2.2.len c47.2.2.2.2.cap)] w52 fun w53 =>
            J43 ((some ⟨b48, 0, none⟩), (some ⟨b50, 0, none⟩)) w53) ∧
          newP (.cells #[(.string (⟨#[]⟩ : ByteArray)), (.int .i64 0), (.int .i64 0), (.int .i64 0), (.slice none 0 0)] 30) w42.drew fun b54 w55 =>
          (cellsAt w55 ⟨b37, 0, none⟩ [(.string c47.1), (.int .i64 c47.2.1), (.int .i64 c47.2.2.1), (.int .i64 c47.2.2.2.1), (.slice c47.2.2.2.2.a c47.2.2.2.2.len c47.2.2.2.2.cap)]) ∧
          (cellsAt w55 ⟨b34, 0, none⟩ [(.string c46.1), (.int .i64 c46.2.1), (.int .i64 c46.2.2.1), (.int .i64 c46.2.2.2.1), (.slice c46.2.2.2.2.a c46.2.2.2.2.len c46.2.2.2.2.cap)]) ∧
          newP (.cells #[(.string (⟨#[]⟩ : ByteArray)), (.int .i64 0), (.int .i64 0), (.int .i64 0), (.slice none 0 0)] 30) w55 fun b56 w57 =>
          (cellsAt w57 ⟨b37, 0, none⟩ [(.string c47.1), (.int .i64 c47.2.1), (.int .i64 c47.2.2.1), (.int .i64 c47.2.2.2.1), (.slice c47.2.2.2.2.a c47.2.2.2.2.len c47.2.2.2.2.cap)]) ∧
          (cellsAt w57 ⟨b34, 0, none⟩ [(.string c46.1), (.int .i64 c46.2.1), (.int .i64 c46.2.2.1), (.int .i64 c46.2.2.2.1), (.slice c46.2.2.2.2.a c46.2.2.2.2.len c46.2.2.2.2.cap)]) ∧
          stN ⟨b56, 0, none⟩ [(.string c46.1), (.int .i64 c46.2.1), (.int .i64 c46.2.2.1), (.int .i64 c46.2.2.2.1), (.slice c46.2.2.2.2.a c46.2.2.2.2.len c46.2.2.2.2.cap)] w57 fun w58 =>
          (cellsAt w58 ⟨b37, 0, none⟩ [(.string c47.1), (.int .i64 c47.2.1), (.int .i64 c47.2.2.1), (.int .i64 c47.2.2.2.1), (.slice c47.2.2.2.2.a c47.2.2.2.2.len c47.2.2.2.2.cap)]) ∧
          stN ⟨b54, 0, none⟩ [(.string c47.1), (.int .i64 c47.2.1), (.int .i64 c47.2.2.1), (.int .i64 c47.2.2.2.1), (.slice c47.2.2.2.2.a c47.2.2.2.2.len c47.2.2.2.2.cap)] w58 fun w59 =>
          J43 ((some ⟨b56, 0, none⟩), (some ⟨b54, 0, none⟩)) w59) (fun s44 w45 =>
        onSome s44.1 fun A60 =>
        stP (A60.add 3) (.int .i64 2) w45 fun w61 =>
        onSome s44.2 fun A62 =>
        stP (A62.add 3) (.int .i64 2) w61 fun w63 =>
        joinP (σ := Tup [.one .bool]) (fun J64 =>
          ldA [.str, .int .i64, .int .i64, .int .i64, .slice] ⟨b28, 0, none⟩ w63 fun c67 =>
          ldA [.str, .int .i64, .int .i64, .int .i64, .slice] ⟨b31, 0, none⟩ w63 fun c68 =>
          ldA [.str, .int .i64, .int .i64, .int .i64, .slice] ⟨b37, 0, none⟩ w63 fun c69 =>
          newP (.cells #[(.string c67.1), (.int .i64 c67.2.1), (.int .i64 c67.2.2.1), (.int .i64 c67.2.2.2.1), (.slice c67.2.2.2.2.a c67.2.2.2.2.len c67.2.2.2.2.cap), (.string c68.1), (.int .i64 c68.2.1), (.int .i64 c68.2.2.1), (.int .i64 c68.2.2.2.1), (.slice c68.2.2.2.2.a c68.2.2.2.2.len c68.2.2.2.2.cap), (.string c69.1), (.int .i64 c69.2.1), (.int .i64 c69.2.2.1), (.int .i64 c69.2.2.2.1), (.slice c69.2.2.2.2.a c69.2.2.2.2.len c69.2.2.2.2.cap)] 30) w63 fun b70 w71 =>
          may_History_Allows_13 r1 ⟨(some ⟨b70, 0, none⟩), 3, 3⟩ w71 fun r72 w73 =>
          cnd (!r72) (
            J64 true w73) (
            ldA [.str, .int .i64, .int .i64, .int .i64, .slice] ⟨b28, 0, none⟩ w73 fun c74 =>
            ldA [.str, .int .i64, .int .i64, .int .i64, .slice] ⟨b31, 0, none⟩ w73 fun c75 =>
            newP (.cells #[(.string c74.1), (.int .i64 c74.2.1), (.int .i64 c74.2.2.1), (.int .i64 c74.2.2.2.1), (.slice c74.2.2.2.2.a c74.2.2.2.2.len c74.2.2.2.2.cap), (.string c75.1), (.int .i64 c75.2.1), (.int .i64 c75.2.2.1), (.int .i64 c75.2.2.2.1), (.slice c75.2.2.2.2.a c75.2.2.2.2.len c75.2.2.2.2.cap)] 30) w73 fun b76 w77 =>
            may_History_Allows_13 r1 ⟨(some ⟨b76, 0, none⟩), 2, 2⟩ w77 fun r78 w79 =>
            cnd r78 (
              J64 true w79) (
              ldA [.str, .int .i64, .int .i64, .int .i64, .slice] ⟨b28, 0, none⟩ w79 fun c80 =>
              ldA [.str, .int .i64, .int .i64, .int .i64, .slice] ⟨b37, 0, none⟩ w79 fun c81 =>
              newP (.cells #[(.string c80.1), (.int .i64 c80.2.1), (.int .i64 c80.2.2.1), (.int .i64 c80.2.2.2.1), (.slice c80.2.2.2.2.a c80.2.2.2.2.len c80.2.2.2.2.cap), (.string c81.1), (.int .i64 c81.2.1), (.int .i64 c81.2.2.1), (.int .i64 c81.2.2.2.1), (.slice c81.2.2.2.2.a c81.2.2.2.2.len c81.2.2.2.2.cap)] 30) w79 fun b82 w83 =>
              may_History_Allows_13 r1 ⟨(some ⟨b82, 0, none⟩), 2, 2⟩ w83 fun r84 w85 =>
              cnd r84 (
                J64 true w85) (
                ldA [.str, .int .i64, .int .i64, .int .i64, .slice] ⟨b28, 0, none⟩ w85 fun c86 =>
                ldA [.str, .int .i64, .int .i64, .int .i64, .slice] ⟨b31, 0, none⟩ w85 fun c87 =>
                onSome s44.1 fun A88 =>
                ldA [.str, .int .i64, .int .i64, .int .i64, .slice] A88 w85 fun c89 =>
                onSome s44.2 fun A90 =>
                ldA [.str, .int .i64, .int .i64, .int .i64, .slice] A90 w85 fun c91 =>
                newP (.cells #[(.string c86.1), (.int .i64 c86.2.1), (.int .i64 c86.2.2.1), (.int .i64 c86.2.2.2.1), (.slice c86.2.2.2.2.a c86.2.2.2.2.len c86.2.2.2.2.cap), (.string c87.1), (.int .i64 c87.2.1), (.int .i64 c87.2.2.1), (.int .i64 c87.2.2.2.1), (.slice c87.2.2.2.2.a c87.2.2.2.2.len c87.2.2.2.2.cap), (.string c89.1), (.int .i64 c89.2.1), (.int .i64 c89.2.2.1), (.int .i64 c89.2.2.2.1), (.slice c89.2.2.2.2.a c89.2.2.2.2.len c89.2.2.2.2.cap), (.string c91.1), (.int .i64 c91.2.1), (.int .i64 c91.2.2.1), (.int .i64 c91.2.2.2.1), (.slice c91.2.2.2.2.a c91.2.2.2.2.len c91.2.2.2.2.cap)] 30) w85 fun b92 w93 =>
                may_History_Allows_13 r1 ⟨(some ⟨b92, 0, none⟩), 4, 4⟩ w93 fun r94 w95 =>
                J64 r94 w95)))) (fun s65 w66 =>
        cnd s65 (
          K false w66) (
          ldA [.str, .int .i64, .int .i64, .int .i64, .slice] ⟨b28, 0, none⟩ w66 fun c96 =>
          ldA [.str, .int .i64, .int .i64, .int .i64, .slice] ⟨b31, 0, none⟩ w66 fun c97 =>
          ldA [.str, .int .i64, .int .i64, .int .i64, .slice] ⟨b34, 0, none⟩ w66 fun c98 =>
          newP (.cells #[(.string c96.1), (.int .i64 c96.2.1), (.int .i64 c96.2.2.1), (.int .i64 c96.2.2.2.1), (.slice c96.2.2.2.2.a c96.2.2.2.2.len c96.2.2.2.2.cap), (.string c97.1), (.int .i64 c97.2.1), (.int .i64 c97.2.2.1), (.int .i64 c97.2.2.2.1), (.slice c97.2.2.2.2.a c97.2.2.2.2.len c97.2.2.2.2.cap), (.string c98.1), (.int .i64 c98.2.1), (.int .i64 c98.2.2.1), (.int .i64 c98.2.2.2.1), (.slice c98.2.2.2.2.a c98.2.2.2.2.len c98.2.2.2.2.cap)] 30) w66 fun b99 w100 =>
          may_History_Allows_13 r1 ⟨(some ⟨b99, 0, none⟩), 3, 3⟩ w100 fun r101 w102 =>
          cnd (!over) (
            cnd (r101 == (!last)) (
              ldA [.str, .int .i64, .int .i64, .int .i64, .slice] ⟨b28, 0, none⟩ w102 fun c103 =>
              ldA [.str, .int .i64, .int .i64, .int .i64, .slice] ⟨b31, 0, none⟩ w102 fun c104 =>
              ldA [.str, .int .i64, .int .i64, .int .i64, .slice] ⟨b34, 0, none⟩ w102 fun c105 =>
              ldA [.str, .int .i64, .int .i64, .int .i64, .slice] ⟨b40, 0, none⟩ w102 fun c106 =>
              newP (.cells #[(.string c103.1), (.int .i64 c103.2.1), (.int .i64 c103.2.2.1), (.int .i64 c103.2.2.2.1), (.slice c103.2.2.2.2.a c103.2.2.2.2.len c103.2.2.2.2.cap), (.string c104.1), (.int .i64 c104.2.1), (.int .i64 c104.2.2.1), (.int .i64 c104.2.2.2.1), (.slice c104.2.2.2.2.a c104.2.2.2.2.len c104.2.2.2.2.cap), (.string c105.1), (.int .i64 c105.2.1), (.int .i64 c105.2.2.1), (.int .i64 c105.2.2.2.1), (.slice c105.2.2.2.2.a c105.2.2.2.2.len c105.2.2.2.2.cap), (.string c106.1), (.int .i64 c106.2.1), (.int .i64 c106.2.2.1), (.int .i64 c106.2.2.2.1), (.slice c106.2.2.2.2.a c106.2.2.2.2.len c106.2.2.2.2.cap)] 30) w102 fun b107 w108 =>
              may_History_Allows_13 r1 ⟨(some ⟨b107, 0, none⟩), 4, 4⟩ w108 fun r109 w110 =>
              cnd over (
                cnd (r109 == (!last)) (
                  ldA [.str, .int .i64, .int .i64, .int .i64, .slice] ⟨b28, 0, none⟩ w110 fun c111 =>
                  ldA [.str, .int .i64, .int .i64, .int .i64, .slice] ⟨b31, 0, none⟩ w110 fun c112 =>
                  ldA [.str, .int .i64, .int .i64, .int .i64, .slice] ⟨b40, 0, none⟩ w110 fun c113 =>
                  newP (.cells #[(.string c111.1), (.int .i64 c111.2.1), (.int .i64 c111.2.2.1), (.int .i64 c111.2.2.2.1), (.slice c111.2.2.2.2.a c111.2.2.2.2.len c111.2.2.2.2.cap), (.string c112.1), (.int .i64 c112.2.1), (.int .i64 c112.2.2.1), (.int .i64 c112.2.2.2.1), (.slice c112.2.2.2.2.a c112.2.2.2.2.len c112.2.2.2.2.cap), (.string c113.1), (.int .i64 c113.2.1), (.int .i64 c113.2.2.1), (.int .i64 c113.2.2.2.1), (.slice c113.2.2.2.2.a c113.2.2.2.2.len c113.2.2.2.2.cap)] 30) w110 fun b114 w115 =>
                  may_History_Allows_13 r1 ⟨(some ⟨b114, 0, none⟩), 3, 3⟩ w115 fun r116 w117 =>
                  cnd (!r116) (
                    purlinlaw24_awake_10  w117 fun r118 w119 =>
                    K r118 w119) (
                    K false w117)) (
                  K false w110)) (
                cnd (r109 == false) (
                  ldA [.str, .int .i64, .int .i64, .int .i64, .slice] ⟨b28, 0, none⟩ w110 fun c120 =>
                  ldA [.str, .int .i64, .int .i64, .int .i64, .slice] ⟨b31, 0, none⟩ w110 fun c121 =>
                  ldA [.str, .int .i64, .int .i64, .int .i64, .slice] ⟨b40, 0, none⟩ w110 fun c122 =>
                  newP (.cells #[(.string c120.1), (.int .i64 c120.2.1), (.int .i64 c120.2.2.1), (.int .i64 c120.2.2.2.1), (.slice c120.2.2.2.2.a c120.2.2.2.2.len c120.2.2.2.2.cap), (.string c121.1), (.int .i64 c121.2.1), (.int .i64 c121.2.2.1), (.int .i64 c121.2.2.2.1), (.slice c121.2.2.2.2.a c121.2.2.2.2.len c121.2.2.2.2.cap), (.string c122.1), (.int .i64 c122.2.1), (.int .i64 c122.2.2.1), (.int .i64 c122.2.2.2.1), (.slice c122.2.2.2.2.a c122.2.2.2.2.len c122.2.2.2.2.cap)] 30) w110 fun b123 w124 =>
                  may_History_Allows_13 r1 ⟨(some ⟨b123, 0, none⟩), 3, 3⟩ w124 fun r125 w126 =>
                  cnd (!r125) (
                    purlinlaw24_awake_10  w126 fun r127 w128 =>
                    K r127 w128) (
                    K false w126)) (
                  K false w110))) (
              K false w102)) (
            cnd (r101 == false) (
              ldA [.str, .int .i64, .int .i64, .int .i64, .slice] ⟨b28, 0, none⟩ w102 fun c129 =>
              ldA [.str, .int .i64, .int .i64, .int .i64, .slice] ⟨b31, 0, none⟩ w102 fun c130 =>
              ldA [.str, .int .i64, .int .i64, .int .i64, .slice] ⟨b34, 0, none⟩ w102 fun c131 =>
              ldA [.str, .int .i64, .int .i64, .int .i64, .slice] ⟨b40, 0, none⟩ w102 fun c132 =>
              newP (.cells #[(.string c129.1), (.int .i64 c129.2.1), (.int .i64 c129.2.2.1), (.int .i64 c129.2.2.2.1), (.slice c129.2.2.2.2.a c129.2.2.2.2.len c129.2.2.2.2.cap), (.string c130.1), (.int .i64 c130.2.1), (.int .i64 c130.2.2.1), (.int .i64 c130.2.2.2.1), (.slice c130.2.2.2.2.a c130.2.2.2.2.len c130.2.2.2.2.cap), (.string c131.1), (.int .i64 c131.2.1), (.int .i64 c131.2.2.1), (.int .i64 c131.2.2.2.1), (.slice c131.2.2.2.2.a c131.2.2.2.2.len c131.2.2.2.2.cap), (.string c132.1), (.int .i64 c132.2.1), (.int .i64 c132.2.2.1), (.int .i64 c132.2.2.2.1), (.slice c132.2.2.2.2.a c132.2.2.2.2.len c132.2.2.2.2.cap)] 30) w102 fun b133 w134 =>
              may_History_Allows_13 r1 ⟨(some ⟨b133, 0, none⟩), 4, 4⟩ w134 fun r135 w136 =>
              cnd over (
                cnd (r135 == (!last)) (
                  ldA [.str, .int .i64, .int .i64, .int .i64, .slice] ⟨b28, 0, none⟩ w136 fun c137 =>
                  ldA [.str, .int .i64, .int .i64, .int .i64, .slice] ⟨b31, 0, none⟩ w136 fun c138 =>
                  ldA [.str, .int .i64, .int .i64, .int .i64, .slice] ⟨b40, 0, none⟩ w136 fun c139 =>
                  newP (.cells #[(.string c137.1), (.int .i64 c137.2.1), (.int .i64 c137.2.2.1), (.int .i64 c137.2.2.2.1), (.slice c137.2.2.2.2.a c137.2.2.2.2.len c137.2.2.2.2.cap), (.string c138.1), (.int .i64 c138.2.1), (.int .i64 c138.2.2.1), (.int .i64 c138.2.2.2.1), (.slice c138.2.2.2.2.a c138.2.2.2.2.len c138.2.2.2.2.cap), (.string c139.1), (.int .i64 c139.2.1), (.int .i64 c139.2.2.1), (.int .i64 c139.2.2.2.1), (.slice c139.2.2.2.2.a c139.2.2.2.2.len c139.2.2.2.2.cap)] 30) w136 fun b140 w141 =>
                  may_History_Allows_13 r1 ⟨(some ⟨b140, 0, none⟩), 3, 3⟩ w141 fun r142 w143 =>
                  cnd (!r142) (
                    purlinlaw24_awake_10  w143 fun r144 w145 =>
                    K r144 w145) (
                    K false w143)) (
                  K false w136)) (
                cnd (r135 == false) (
                  ldA [.str, .int .i64, .int .i64, .int .i64, .slice] ⟨b28, 0, none⟩ w136 fun c146 =>
                  ldA [.str, .int .i64, .int .i64, .int .i64, .slice] ⟨b31, 0, none⟩ w136 fun c147 =>
                  ldA [.str, .int .i64, .int .i64, .int .i64, .slice] ⟨b40, 0, none⟩ w136 fun c148 =>
                  newP (.cells #[(.string c146.1), (.int .i64 c146.2.1), (.int .i64 c146.2.2.1), (.int .i64 c146.2.2.2.1), (.slice c146.2.2.2.2.a c146.2.2.2.2.len c146.2.2.2.2.cap), (.string c147.1), (.int .i64 c147.2.1), (.int .i64 c147.2.2.1), (.int .i64 c147.2.2.2.1), (.slice c147.2.2.2.2.a c147.2.2.2.2.len c147.2.2.2.2.cap), (.string c148.1), (.int .i64 c148.2.1), (.int .i64 c148.2.2.1), (.int .i64 c148.2.2.2.1), (.slice c148.2.2.2.2.a c148.2.2.2.2.len c148.2.2.2.2.cap)] 30) w136 fun b149 w150 =>
                  may_History_Allows_13 r1 ⟨(some ⟨b149, 0, none⟩), 3, 3⟩ w150 fun r151 w152 =>
                  cnd (!r151) (
                    purlinlaw24_awake_10  w152 fun r153 w154 =>
                    K r153 w154) (
                    K false w152)) (
                  K false w136))) (
              K false w102)))))))))))
def an4 : List An := [
  .reg ⟨[], .done, []⟩,
  .reg ⟨[(0, [.one .ptr])], .done, []⟩,
  .join [(27, .one .bool)] [14, 15, 16, 17, 18, 19, 20, 21, 22, 23, 24, 25, 26],
  .reg ⟨[(5, [.one .bool]), (11, [.one .bool])], .done, []⟩,
  .nop,
  .reg ⟨[], .done, []⟩,
  .join [(46, .one .bool)] [28, 29, 30, 31, 32, 33, 34, 35, 36, 37, 38, 39, 40, 41, 42, 43, 44, 45],
  .reg ⟨[(4, [.one .bool]), (10, [.one .bool]), (16, [.one .bool])], .done, []⟩,
  .nop,
  .reg ⟨[], .done, []⟩,
  .join [(53, .one .bool)] [47, 48, 49, 50, 51, 52],
  .reg ⟨[(4, [.one .bool])], .done, []⟩,
  .nop,
  .reg ⟨[], .done, []⟩,
  .reg ⟨[], .done, []⟩,
  .reg ⟨[], .done, []⟩,
  .reg ⟨[], .done, []⟩,
  .reg ⟨[], .done, []⟩,
  .reg ⟨[], .done, []⟩,
  .join [(11, .one .ptr), (12, .one .ptr)] [59, 60],
  .reg ⟨[], (.nop 0 0 (.nop 1 0 (.bar 2 0 (.bar 3 0 (.bar 4 13 (.bar 5 31 .done .none) .none) .none) (.bar 3 0 (.bar 2 0 (.bar 4 13 (.bar 5 31 .done .none) .none) .none) .none)))), []⟩,
  .reg ⟨[], .done, []⟩,
  .join [(92, .one .bool)] [63, 64, 65, 66, 67, 68, 69, 70, 71, 72, 73, 74, 75, 76, 77, 78, 79, 80, 81, 82, 83, 84, 85, 86, 87, 88, 89, 90, 91],
  .reg ⟨[(5, [.one .bool]), (12, [.one .bool]), (19, [.one .bool]), (28, [.one .bool])], .done, []⟩,
  .nop,
  .reg ⟨[], .done, []⟩,
  .reg ⟨[(5, [.one .bool]), (20, [.one .bool]), (34, [.one .bool]), (38, [.one .bool])], .done, []⟩]
theorem purlinlaw24_MayRename_4_of (over : Bool) (last : Bool) (w : World) (K : Tup [.one .bool] → World → Prop) (hF_ : F4 over last w K) : purlinlaw24_MayRename_4 over last w K :=
  call_of_F (l := an4) (args := [Ty.mk (.one .bool) over, Ty.mk (.one .bool) last]) follows tabOk Tryz.func4 (by kernel_rfl) (by kernel_rfl) (by kernel_rfl) hF_

/-- purlin/purlinlaw24.MayUnlink -/
def F5 (two : Bool) (sync : Bool) (w : World) (K : Tup [.one .bool] → World → Prop) : Prop :=
  may_New_11  w fun r1 w2 =>
  joinP (σ := Tup [.one .bool]) (fun J3 =>
    cnd (Option.isNone r1) (
      J3 true w2) (
      purlinlaw24_one_12 r1 (1, 0, 0, 0, 1, (⟨#[47, 102]⟩ : ByteArray), (⟨#[]⟩ : ByteArray), ⟨none, 0, 0⟩) 5 w2 fun r6 w7 =>
      cnd (!r6) (
        J3 true w7) (
        purlinlaw24_one_12 r1 (9, 0, 0, 0, 0, (⟨#[47, 103]⟩ : ByteArray), (⟨#[]⟩ : ByteArray), ⟨none, 0, 0⟩) 6 w7 fun r8 w9 =>
        cnd (!r8) (
          J3 true w9) (
          cnd two (
            purlinlaw24_one_12 r1 (12, 0, 0, 0, 0, (⟨#[47, 102]⟩ : ByteArray), (⟨#[47, 104]⟩ : ByteArray), ⟨none, 0, 0⟩) 0 w9 fun r10 w11 =>
            cnd (!r10) (
              J3 true w11) (
              purlinlaw24_one_12 r1 (21, 0, 0, 0, 0, (⟨#[]⟩ : ByteArray), (⟨#[]⟩ : ByteArray), ⟨none, 0, 0⟩) 0 w11 fun r12 w13 =>
              cnd (!r12) (
                J3 true w13) (
                purlinlaw24_one_12 r1 (11, 0, 0, 0, 0, (⟨#[47, 102]⟩ : ByteArray), (⟨#[]⟩ : ByteArray), ⟨none, 0, 0⟩) 0 w13 fun r14 w15 =>
                J3 (!r14) w15))) (
            purlinlaw24_one_12 r1 (21, 0, 0, 0, 0, (⟨#[]⟩ : ByteArray), (⟨#[]⟩ : ByteArray), ⟨none, 0, 0⟩) 0 w9 fun r16 w17 =>
            cnd (!r16) (
              J3 true w17) (
              purlinlaw24_one_12 r1 (11, 0, 0, 0, 0, (⟨#[47, 102]⟩ : ByteArray), (⟨#[]⟩ : ByteArray), ⟨none, 0, 0⟩) 0 w17 fun r18 w19 =>
              J3 (!r18) w19)))))) (fun s4 w5 =>
  cnd s4 (
    K false w5) (
    joinP (σ := Tup [.one .bool]) (fun J20 =>
      cnd sync (
        purlinlaw24_one_12 r1 (21, 0, 0, 0, 0, (⟨#[]⟩ : ByteArray), (⟨#[]⟩ : ByteArray), ⟨none, 0, 0⟩) 0 w5 fun r23 w24 =>
        J20 (!r23) w24) (
        J20 false w5)) (fun s21 w22 =>
    cnd s21 (
      K false w22) (
      newP (.cells #[(.string (⟨#[]⟩ : ByteArray)), (.int .i64 0), (.int .i64 0), (.int .i64 0), (.slice none 0 0)] 30) w22 fun b25 w26 =>
      stN ⟨b25, 0, none⟩ [(.string (⟨#[47]⟩ : ByteArray)), (.int .i64 1), (.int .i64 2), (.int .i64 1), (.slice none 0 0)] w26 fun w27 =>
      newP (.cells #[(.string (⟨#[]⟩ : ByteArray)), (.int .i64 0), (.int .i64 0), (.int .i64 0), (.slice none 0 0)] 30) w27 fun b28 w29 =>
      stN ⟨b28, 0, none⟩ [(.string (⟨#[47, 103]⟩ : ByteArray)), (.int .i64 6), (.int .i64 2), (.int .i64 1), (.slice none 0 0)] w29 fun w30 =>
      newP (.cells #[(.string (⟨#[]⟩ : ByteArray)), (.int .i64 0), (.int .i64 0), (.int .i64 0), (.slice none 0 0)] 30) w30 fun b31 w32 =>
      stN ⟨b31, 0, none⟩ [(.string (⟨#[47, 102]⟩ : ByteArray)), (.int .i64 5), (.int .i64 1), (.int .i64 1), (.slice none 0 0)] w32 fun w33 =>
      newP (.cells #[(.string (⟨#[]⟩ : ByteArray)), (.int .i64 0), (.int .i64 0), (.int .i64 0), (.slice none 0 0)] 30) w33 fun b34 w35 =>
      stN ⟨b34, 0, none⟩ [(.string (⟨#[47, 104]⟩ : ByteArray)), (.int .i64 5), (.int .i64 1), (.int .i64 1), (.slice none 0 0)] w35 fun w36 =>
      cnd two (
        stP ⟨b31, 3, none⟩ (.int .i64 2) w36 fun w37 =>
        ldA [.str, .int .i64, .int .i64, .int .i64, .slice] ⟨b34, 0, none⟩ w37 fun c38 =>
        newP (.cells #[(.string (⟨#[]⟩ : ByteArray)), (.int .i64 0), (.int .i64 0), (.int .i64 0), (.slice none 0 0)] 30) w37 fun b39 w40 =>
        stN ⟨b39, 0, none⟩ [(.string c38.1), (.int .i64 c38.2.1), (.int .i64 c38.2.2.1), (.int .i64 c38.2.2.2.1), (.slice c38.2.2.2.2.a c38.2.2.2.2.len c38.2.2.2.2.cap)] w40 fun w41 =>
        stP ⟨b39, 3, none⟩ (.int .i64 2) w41 fun w42 =>
        ldA [.str, .int .i64, .int .i64, .int .i64, .slice] ⟨b25, 0, none⟩ w42 fun c43 =>
        ldA [.str, .int .i64, .int .i64, .int .i64, .slice] ⟨b28, 0, none⟩ w42 fun c44 =>
        ldA [.str, .int .i64, .int .i64, .int .i64, .slice] ⟨b34, 0, none⟩ w42 fun c45 =>
        newP (.cells #[(.string c43.1), (.int .i64 c43.2.1), (.int .i64 c43.2.2.1), (.int .i64 c43.2.2.2.1), (.slice c43.2.2.2.2.a c43.2.2.2.2.len c43.2.2.2.2.cap), (.string c44.1), (.int .i64 c44.2.1), (.int .i64 c44.2.2.1), (.int .i64 c44.2.2.2.1), (.slice c44.2.2.2.2.a c44.2.2.2.2.len c44.2.2.2.2.cap), (.string c45.1), (.int .i64 c45.2.1), (.int .i64 c45.2.2.1), (.int .i64 c45.2.2.2.1), (.slice c45.2.2.2.2.a c45.2.2.2.2.len c45.2.2.2.2.cap)] 30) w42 fun b46 w47 =>
        may_History_Allows_13 r1 ⟨(some ⟨b46, 0, none⟩), 3, 3⟩ w47 fun r48 w49 =>
        cnd r48 (
          ldA [.str, .int .i64, .int .i64, .int .i64, .slice] ⟨b25, 0, none⟩ w49 fun c50 =>
          ldA [.str, .int .i64, .int .i64, .int .i64, .slice] ⟨b28, 0, none⟩ w49 fun c51 =>
          ldA [.str, .int .i64, .int .i64, .int .i64, .slice] ⟨b31, 0, none⟩ w49 fun c52 =>
          ldA [.str, .int .i64, .int .i64, .int .i64, .slice] ⟨b39, 0, none⟩ w49 fun c53 =>
          newP (.cells #[(.string c50.1), (.int .i64 c50.2.1), (.int .i64 c50.2.2.1), (.int .i64 c50.2.2.2.1), (.slice c50.2.2.2.2.a c50.2.2.2.2.len c50.2.2.2.2.cap), (.string c51.1), (.int .i64 c51.2.1), (.int .i64 c51.2.2.1), (.int .i64 c51.2.2.2.1), (.slice c51.2.2.2.2.a c51.2.2.2.2.len c51.2.2.2.2.cap), (.string c52.1), (.int .i64 c52.2.1), (.int .i64 c52.2.2.1), (.int .i64 c52.2.2.2.1), (.slice c52.2.2.2.2.a c52.2.2.2.2.len c52.2.2.2.2.cap), (.string c53.1), (.int .i64 c53.2.1), (.int .i64 c53.2.2.1), (.int .i64 c53.2.2.2.1), (.slice c53.2.2.2.2.a c53.2.2.2.2.len c53.2.2.2.2.cap)] 30) w49 fun b54 w55 =>
          may_History_Allows_13 r1 ⟨(some ⟨b54, 0, none⟩), 4, 4⟩ w55 fun r56 w57 =>
          cnd (r56 == (!sync)) (
            ldA [.str, .int .i64, .int .i64, .int .i64, .slice] ⟨b25, 0, none⟩ w57 fun c58 =>
            ldA [.str, .int .i64, .int .i64, .int .i64, .slice] ⟨b28, 0, none⟩ w57 fun c59 =>
            newP (.cells #[(.string c58.1), (.int .i64 c58.2.1), (.int .i64 c58.2.2.1), (.int .i64 c58.2.2.2.1), (.slice c58.2.2.2.2.a c58.2.2.2.2.len c58.2.2.2.2.cap), (.string c59.1), (.int .i64 c59.2.1), (.int .i64 c59.2.2.1), (.int .i64 c59.2.2.2.1), (.slice c59.2.2.2.2.a c59.2.2.2.2.len c59.2.2.2.2.cap)] 30) w57 fun b60 w61 =>
            may_History_Allows_13 r1 ⟨(some ⟨b60, 0, none⟩), 2, 2⟩ w61 fun r62 w63 =>
            cnd (!r62) (
              ldA [.str, .int .i64, .int .i64, .int .i64, .slice] ⟨b25, 0, none⟩ w63 fun c64 =>
              ldA [.str, .int .i64, .int .i64, .int .i64, .slice] ⟨b34, 0, none⟩ w63 fun c65 =>
              newP (.cells #[(.string c64.1), (.int .i64 c64.2.1), (.int .i64 c64.2.2.1), (.int .i64 c64.2.2.2.1), (.slice c64.2.2.2.2.a c64.2.2.2.2.len c64.2.2.2.2.cap), (.string c65.1), (.int .i64 c65.2.1), (.int .i64 c65.2.2.1), (.int .i64 c65.2.2.2.1), (.slice c65.2.2.2.2.a c65.2.2.2.2.len c65.2.2.2.2.cap)] 30) w63 fun b66 w67 =>
              may_History_Allows_13 r1 ⟨(some ⟨b66, 0, none⟩), 2, 2⟩ w67 fun r68 w69 =>
              cnd (!r68) (
                purlinlaw24_awake_10  w69 fun r70 w71 =>
                K r70 w71) (
                K false w69)) (
              K false w63)) (
            K false w57)) (
          K false w49)) (
        ldA [.str, .int .i64, .int .i64, .int .i64, .slice] ⟨b25, 0, none⟩ w36 fun c72 =>
        ldA [.str, .int .i64, .int .i64, .int .i64, .slice] ⟨b28, 0, none⟩ w36 fun c73 =>
        newP (.cells #[(.string c72.1), (.int .i64 c72.2.1), (.int .i64 c72.2.2.1), (.int .i64 c72.2.2.2.1), (.slice c72.2.2.2.2.a c72.2.2.2.2.len c72.2.2.2.2.cap), (.string c73.1), (.int .i64 c73.2.1), (.int .i64 c73.2.2.1), (.int .i64 c73.2.2.2.1), (.slice c73.2.2.2.2.a c73.2.2.2.2.len c73.2.2.2.2.cap)] 30) w36 fun b74 w75 =>
        may_History_Allows_13 r1 ⟨(some ⟨b74, 0, none⟩), 2, 2⟩ w75 fun r76 w77 =>
        cnd r76 (
          ldA [.str, .int .i64, .int .i64, .int .i64, .slice] ⟨b25, 0, none⟩ w77 fun c78 =>
          ldA [.str, .int .i64, .int .i64, .int .i64, .slice] ⟨b28, 0, none⟩ w77 fun c79 =>
          ldA [.str, .int .i64, .int .i64, .int .i64, .slice] ⟨b31, 0, none⟩ w77 fun c80 =>
          newP (.cells #[(.string c78.1), (.int .i64 c78.2.1), (.int .i64 c78.2.2.1), (.int .i64 c78.2.2.2.1), (.slice c78.2.2.2.2.a c78.2.2.2.2.len c78.2.2.2.2.cap), (.string c79.1), (.int .i64 c79.2.1), (.int .i64 c79.2.2.1), (.int .i64 c79.2.2.2.1), (.slice c79.2.2.2.2.a c79.2.2.2.2.len c79.2.2.2.2.cap), (.string c80.1), (.int .i64 c80.2.1), (.int .i64 c80.2.2.1), (.int .i64 c80.2.2.2.1), (.slice c80.2.2.2.2.a c80.2.2.2.2.len c80.2.2.2.2.cap)] 30) w77 fun b81 w82 =>
          may_History_Allows_13 r1 ⟨(some ⟨b81, 0, none⟩), 3, 3⟩ w82 fun r83 w84 =>
          cnd (r83 == (!sync)) (
            ldA [.str, .int .i64, .int .i64, .int .i64, .slice] ⟨b25, 0, none⟩ w84 fun c85 =>
            ldA [.str, .int .i64, .int .i64, .int .i64, .slice] ⟨b31, 0, none⟩ w84 fun c86 =>
            newP (.cells #[(.string c85.1), (.int .i64 c85.2.1), (.int .i64 c85.2.2.1), (.int .i64 c85.2.2.2.1), (.slice c85.2.2.2.2.a c85.2.2.2.2.len c85.2.2.2.2.cap), (.string c86.1), (.int .i64 c86.2.1), (.int .i64 c86.2.2.1), (.int .i64 c86.2.2.2.1), (.slice c86.2.2.2.2.a c86.2.2.2.2.len c86.2.2.2.2.cap)] 30) w84 fun b87 w88 =>
            may_History_Allows_13 r1 ⟨(some ⟨b87, 0, none⟩), 2, 2⟩ w88 fun r89 w90 =>
            cnd (!r89) (
              ldA [.str, .int .i64, .int .i64, .int .i64, .slice] ⟨b25, 0, none⟩ w90 fun c91 =>
              ldA [.str, .int .i64, .int .i64, .int .i64, .slice] ⟨b28, 0, none⟩ w90 fun c92 =>
              ldA [.str, .int .i64, .int .i64, .int .i64, .slice] ⟨b34, 0, none⟩ w90 fun c93 =>
              newP (.cells #[(.string c91.1), (.int .i64 c91.2.1), (.int .i64 c91.2.2.1), (.int .i64 c91.2.2.2.1), (.slice c91.2.2.2.2.a c91.2.2.2.2.len c91.2.2.2.2.cap), (.string c92.1), (.int .i64 c92.2.1), (.int .i64 c92.2.2.1), (.int .i64 c92.2.2.2.1), (.slice c92.2.2.2.2.a c92.2.2.2.2.len c92.2.2.2.2.cap), (.string c93.1), (.int .i64 c93.2.1), (.int .i64 c93.2.2.1), (.int .i64 c93.2.2.2.1), (.slice c93.2.2.2.2.a c93.2.2.2.2.len c93.2.2.2.2.cap)] 30) w90 fun b94 w95 =>
              may_History_Allows_13 r1 ⟨(some ⟨b94, 0, none⟩), 3, 3⟩ w95 fun r96 w97 =>
              cnd (!r96) (
                purlinlaw24_awake_10  w97 fun r98 w99 =>
                K r98 w99) (
                K false w97)) (
              K false w90)) (
            K false w84)) (
          K false w77))))))
def an5 : List An := [
  .reg ⟨[], .done, []⟩,
  .reg ⟨[(0, [.one .ptr])], .done, []⟩,
  .join [(46, .one .bool)] [12, 13, 14, 15, 16, 17, 18, 19, 20, 21, 22, 23, 24, 25, 26, 27, 28, 29, 30, 31, 32, 33, 34, 35, 36, 37, 38, 39, 40, 41, 42, 43, 44, 45],
  .reg ⟨[(5, [.one .bool]), (11, [.one .bool]), (19, [.one .bool]), (26, [.one .bool]), (32, [.one .bool])], .done, []⟩,
  .nop,
  .reg ⟨[], .done, []⟩,
  .join [(53, .one .bool)] [47, 48, 49, 50, 51, 52],
  .reg ⟨[(4, [.one .bool])], .done, []⟩,
  .nop,
  .reg ⟨[], .done, []⟩,
  .reg ⟨[], .done, []⟩,
  .reg ⟨[], .done, []⟩,
  .reg ⟨[], .done, []⟩,
  .reg ⟨[], .done, []⟩,
  .reg ⟨[], .done, []⟩,
  .nop,
  .reg ⟨[], .done, []⟩,
  .reg ⟨[], .done, []⟩,
  .reg ⟨[], .done, []⟩,
  .reg ⟨[(5, [.one .bool]), (13, [.one .bool]), (23, [.one .bool]), (31, [.one .bool]), (35, [.one .bool])], .done, []⟩,
  .reg ⟨[(4, [.one .bool]), (11, [.one .bool]), (21, [.one .bool]), (30, [.one .bool]), (34, [.one .bool])], .done, []⟩]
theorem purlinlaw24_MayUnlink_5_of (two : Bool) (sync : Bool) (w : World) (K : Tup [.one .bool] → World → Prop) (hF_ : F5 two sync w K) : purlinlaw24_MayUnlink_5 two sync w K :=
  call_of_F (l := an5) (args := [Ty.mk (.one .bool) two, Ty.mk (.one .bool) sync]) follows tabOk Tryz.func5 (by kernel_rfl) (by kernel_rfl) (by kernel_rfl) hF_

/-- purlin/purlinlaw24.MayNone -/
def F7 (o : Carr [.int .i64, .int .i64, .int .i64, .int .i64, .int .i64, .str, .str, .slice]) (n : Carr [.str, .int .i64, .int .i64, .int .i64, .slice]) (w : World) (K : Tup [.one .bool] → World → Prop) : Prop :=
  newP (.cells #[(.int .i64 o.1), (.int .i64 o.2.1), (.int .i64 o.2.2.1), (.int .i64 o.2.2.2.1), (.int .i64 o.2.2.2.2.1), (.string o.2.2.2.2.2.1), (.string o.2.2.2.2.2.2.1), (.slice o.2.2.2.2.2.2.2.a o.2.2.2.2.2.2.2.len o.2.2.2.2.2.2.2.cap)] 28) w fun b1 w2 =>
  newP (.cells #[(.string n.1), (.int .i64 n.2.1), (.int .i64 n.2.2.1), (.int .i64 n.2.2.2.1), (.slice n.2.2.2.2.a n.2.2.2.2.len n.2.2.2.2.cap)] 30) w2 fun b3 w4 =>
  joinP (σ := Tup [.one .bool]) (fun J5 =>
    ldA [.int .i64, .int .i64, .int .i64, .int .i64, .int .i64, .str, .str, .slice] ⟨b1, 0, none⟩ w4 fun c8 =>
    purlinlaw0_Great_19 (c8.1, c8.2.1, c8.2.2.1, c8.2.2.2.1, c8.2.2.2.2.1, c8.2.2.2.2.2.1, c8.2.2.2.2.2.2.1, c8.2.2.2.2.2.2.2) w4 fun r9 w10 =>
    cnd r9 (
      J5 true w10) (
      ldP (.str) ⟨b3, 0, none⟩ w10 fun x11 =>
      cnd (decide ((x11.size : Int) > 300)) (
        J5 true w10) (
        ldP (.slice) ⟨b3, 4, none⟩ w10 fun x12 =>
        J5 (decide ((x12.len : Int) > 300)) w10))) (fun s6 w7 =>
  cnd s6 (
    purlinlaw24_awake_10  w7 fun r13 w14 =>
    K r13 w14) (
    ldA [.int .i64, .int .i64, .int .i64, .int .i64, .int .i64, .str, .str, .slice] ⟨b1, 0, none⟩ w7 fun c15 =>
    may_History_Did_16 none (c15.1, c15.2.1, c15.2.2.1, c15.2.2.2.1, c15.2.2.2.2.1, c15.2.2.2.2.2.1, c15.2.2.2.2.2.2.1, c15.2.2.2.2.2.2.2) 0 1 w7 fun r16 w17 =>
    cnd (!r16) (
      ldA [.str, .int .i64, .int .i64, .int .i64, .slice] ⟨b3, 0, none⟩ w17 fun c18 =>
      newP (.cells #[(.string c18.1), (.int .i64 c18.2.1), (.int .i64 c18.2.2.1), (.int .i64 c18.2.2.2.1), (.slice c18.2.2.2.2.a c18.2.2.2.2.len c18.2.2.2.2.cap)] 30) w17 fun b19 w20 =>
      may_History_Allows_13 none ⟨(some ⟨b19, 0, none⟩), 1, 1⟩ w20 fun r21 w22 =>
      cnd (!r21) (
        ldA [.str, .int .i64, .int .i64, .int .i64, .slice] ⟨b3, 0, none⟩ w22 fun c23 =>
        newP (.cells #[(.string c23.1), (.int .i64 c23.2.1), (.int .i64 c23.2.2.1), (.int .i64 c23.2.2.2.1), (.slice c23.2.2.2.2.a c23.2.2.2.2.len c23.2.2.2.2.cap)] 30) w22 fun b24 w25 =>
        may_History_Crashed_20 none ⟨(some ⟨b24, 0, none⟩), 1, 1⟩ w25 fun r26 w27 =>
        cnd (!r26) (
          may_History_Nodes_18 none w27 fun r28 w29 =>
          cnd ((r28.len : Int) == 0) (
            purlinlaw24_awake_10  w29 fun r30 w31 =>
            K r30 w31) (
            K false w29)) (
          K false w27)) (
        K false w22)) (
      K false w17)))
def an7 : List An := [
  .reg ⟨[], .done, []⟩,
  .join [(19, .one .bool)] [6, 7, 8, 9, 10, 11, 12, 13, 14, 15, 16, 17, 18],
  .reg ⟨[(1, [.one .bool])], .done, []⟩,
  .nop,
  .reg ⟨[(0, [.one .bool])], .done, []⟩,
  .reg ⟨[], .done, []⟩,
  .reg ⟨[(2, [.one .bool]), (8, [.one .bool]), (15, [.one .bool]), (20, [.one .slice]), (25, [.one .bool])], .done, []⟩]
theorem purlinlaw24_MayNone_7_of (o : Carr [.int .i64, .int .i64, .int .i64, .int .i64, .int .i64, .str, .str, .slice]) (n : Carr [.str, .int .i64, .int .i64, .int .i64, .slice]) (w : World) (K : Tup [.one .bool] → World → Prop) (hF_ : F7 o n w K) : purlinlaw24_MayNone_7 o n w K :=
  call_of_F (l := an7) (args := [Ty.mk (.agg [.int .i64, .int .i64, .int .i64, .int .i64, .int .i64, .str, .str, .slice]) o, Ty.mk (.agg [.str, .int .i64, .int .i64, .int .i64, .slice]) n]) follows tabOk Tryz.func7 (by kernel_rfl) (by kernel_rfl) (by kernel_rfl) hF_

end Go.Proofs.YtcpoglgnkedpaaaGreatDoor
