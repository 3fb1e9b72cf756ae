/-
  What the functions' bodies ask (printed by vcgen.py).
-/
import Derived.Test.YtcpoglgnkedpaaaGreatDoorTS
namespace Go.Proofs.YtcpoglgnkedpaaaGreatDoor
open Go Go.Vc Go.Proofs


/-- purlin/purlinref12.parts -/
def F159 (p : ByteArray) (w : World) (K : Tup [.one .slice] → World → Prop) : Prop :=
  loopP (σ := Tup [.one .slice, .one (.int .i64), .one (.int .i64)]) (fun again1 s2 w3 =>
    cnd (decide (s2.2.2 ≤ (p.size : Int))) (
      joinP (σ := Tup [.one .bool]) (fun J4 =>
        cnd (decide (s2.2.2 < (p.size : Int))) (
          idxS p s2.2.2 fun b7 =>
          J4 ((b7.toNat : Int) != 47) w3) (
          J4 false w3)) (fun s5 w6 =>
      cnd s5 (
        again1 (s2.1, s2.2.1, (w64 (s2.2.2 + 1))) w6) (
        joinP (σ := Tup [.one .bool]) (fun J8 =>
          cnd (decide (s2.2.2 > s2.2.1)) (
            strP p s2.2.1 (some s2.2.2) fun x11 =>
            J8 (!(x11.toList == (⟨#[46]⟩ : ByteArray).toList)) w6) (
            J8 false w6)) (fun s9 w10 =>
        cnd s9 (
          strP p s2.2.1 (some s2.2.2) fun x12 =>
          newP (.cells #[(.string x12)] 9) w10 fun b13 w14 =>
          runP Tryz.prog (Builtin.append_ #[41, 41] 41 #[(.slice s2.1.a s2.1.len s2.1.cap), (.slice (some ⟨b13, 0, none⟩) 1 1)]) [.one .slice] w14 fun c15 w16 =>
          again1 (c15, (w64 (s2.2.2 + 1)), (w64 (s2.2.2 + 1))) w16) (
          again1 (s2.1, (w64 (s2.2.2 + 1)), (w64 (s2.2.2 + 1))) w10))))) (
      K s2.1 w3)) (⟨none, 0, 0⟩, 0, 0) w
def an159 : List An := [
  .reg ⟨[], .done, []⟩,
  .reg ⟨[], .done, []⟩,
  .reg ⟨[], .done, []⟩,
  .reg ⟨[], .done, []⟩,
  .nop,
  .nop,
  .loop [(3, .one .slice), (4, .one (.int .i64)), (5, .one (.int .i64))] [6, 7, 8, 9, 10, 11, 12, 13, 14, 15, 16, 17, 18, 19, 20, 21, 22, 23, 24, 25, 26, 27, 28, 29, 30, 31, 32, 33, 34, 35, 36, 37, 38, 39, 40],
  .reg ⟨[], .done, []⟩,
  .nop,
  .nop,
  .join [(21, .one .bool)] [12, 13, 14, 15, 16, 17, 18, 19, 20],
  .reg ⟨[], .done, []⟩,
  .nop,
  .join [(31, .one .bool)] [22, 23, 24, 25, 26, 27, 28, 29, 30],
  .reg ⟨[], .done, []⟩,
  .nop,
  .reg ⟨[(6, [.one .slice])], .done, []⟩,
  .reg ⟨[], .done, []⟩,
  .reg ⟨[], .done, []⟩,
  .reg ⟨[], .done, []⟩]
theorem purlinref12_parts_159_of (p : ByteArray) (w : World) (K : Tup [.one .slice] → World → Prop) (hF_ : F159 p w K) : purlinref12_parts_159 p w K :=
  call_of_F (l := an159) (args := [Ty.mk (.one .str) p]) follows tabOk Tryz.func159 (by kernel_rfl) (by kernel_rfl) (by kernel_rfl) hF_

/-- purlin/purlinref12.Join -/
def F160 (ps : Sl) (w : World) (K : Tup [.one .str] → World → Prop) : Prop :=
  loopP (σ := Tup [.one .str, .one (.int .i64)]) (fun again1 s2 w3 =>
    cnd (decide (s2.2 < (ps.len : Int))) (
      ((s2.1.size + (⟨#[47]⟩ : ByteArray).size : Nat) : Int) ≤ IntKind.i64.max ∧
      idxP s2.2 ps.len (
        onSome ps.a fun A4 =>
        ldP (.str) (A4.add (Int.toNat s2.2 * 1)) w3 fun x5 =>
        (((s2.1 ++ (⟨#[47]⟩ : ByteArray)).size + x5.size : Nat) : Int) ≤ IntKind.i64.max ∧
        again1 (((s2.1 ++ (⟨#[47]⟩ : ByteArray)) ++ x5), (w64 (s2.2 + 1))) w3)) (
      cnd (s2.1.toList == (⟨#[]⟩ : ByteArray).toList) (
        K (⟨#[47]⟩ : ByteArray) w3) (
        K s2.1 w3))) ((⟨#[]⟩ : ByteArray), 0) w
def an160 : List An := [
  .reg ⟨[], .done, []⟩,
  .reg ⟨[], .done, []⟩,
  .reg ⟨[], .done, []⟩,
  .nop,
  .nop,
  .loop [(3, .one .str), (4, .one (.int .i64))] [5, 6, 7, 8, 9, 10, 11, 12, 13, 14, 15, 16, 17],
  .reg ⟨[], .done, []⟩,
  .nop,
  .nop,
  .reg ⟨[], .done, []⟩,
  .reg ⟨[], .done, []⟩,
  .reg ⟨[], .done, []⟩,
  .nop,
  .reg ⟨[], .done, []⟩,
  .reg ⟨[], .done, []⟩]
theorem purlinref12_Join_160_of (ps : Sl) (w : World) (K : Tup [.one .str] → World → Prop) (hF_ : F160 ps w K) : purlinref12_Join_160 ps w K :=
  call_of_F (l := an160) (args := [Ty.mk (.one .slice) ps]) follows tabOk Tryz.func160 (by kernel_rfl) (by kernel_rfl) (by kernel_rfl) hF_

/-- slices.pdqsortCmpFunc[purlin/api.Node] -/
def F161 (p0 : Sl) (data : Int) (a : Int) (b : Int) (limit : Value) (w : World) (K : Tup [] → World → Prop) : Prop :=
  loopP (σ := Tup [.one (.int .i64), .one (.int .i64), .one (.int .i64), .one .bool, .one .bool]) (fun again1 s2 w3 =>
    cnd (decide ((w64 (s2.2.1 - s2.1)) ≤ 12)) (
      slices_insertionSortCmpFunc_188 p0 s2.1 s2.2.1 limit w3 fun _r4 w5 =>
      K () w5) (
      cnd (s2.2.2.1 == 0) (
        slices_heapSortCmpFunc_189 p0 s2.1 s2.2.1 limit w3 fun _r6 w7 =>
        K () w7) (
        joinP (σ := Tup [.one (.int .i64)]) (fun J8 =>
          cnd (!s2.2.2.2.1) (
            slices_breakPatternsCmpFunc_190 p0 s2.1 s2.2.1 limit w3 fun _r11 w12 =>
            J8 (w64 (s2.2.2.1 - 1)) w12) (
            J8 s2.2.2.1 w3)) (fun s9 w10 =>
        slices_choosePivotCmpFunc_191 p0 s2.1 s2.2.1 limit w10 fun r13 w14 =>
        joinP (σ := Tup [.one (.int .i64), .one (.int .i64)]) (fun J15 =>
          cnd (r13.2 == 2) (
            slices_reverseRangeCmpFunc_192 p0 s2.1 s2.2.1 limit w14 fun _r18 w19 =>
            J15 ((w64 ((w64 (s2.2.1 - 1)) - (w64 (r13.1 - s2.1)))), 1) w19) (
            J15 (r13.1, r13.2) w14)) (fun s16 w17 =>
        joinP (σ := Tup [.one .bool]) (fun J20 =>
          cnd s2.2.2.2.1 (
            cnd s2.2.2.2.2 (
              J20 (s16.2 == 1) w17) (
              J20 false w17)) (
            J20 false w17)) (fun s21 w22 =>
        joinP (σ := Tup []) (fun J23 =>
          cnd s21 (
            slices_partialInsertionSortCmpFunc_193 p0 s2.1 s2.2.1 limit w22 fun r26 w27 =>
            cnd r26 (
              K () w27) (
              J23 () w27)) (
            J23 () w22)) (fun _s24 w25 =>
        joinP (σ := Tup [.one .bool]) (fun J28 =>
          cnd (decide (s2.1 > 0)) (
            idxP (w64 (s2.1 - 1)) p0.len (
              onSome p0.a fun A31 =>
              ldA [.str, .int .i64, .int .i64, .int .i64, .slice] (A31.add (Int.toNat (w64 (s2.1 - 1)) * 5)) w25.drew fun c32 =>
              idxP s16.1 p0.len (
                onSome p0.a fun A33 =>
                ldA [.str, .int .i64, .int .i64, .int .i64, .slice] (A33.add (Int.toNat s16.1 * 5)) w25.drew fun c34 =>
                callV Tryz.prog limit #[(.agg #[(.string c32.1), (.int .i64 c32.2.1), (.int .i64 c32.2.2.1), (.int .i64 c32.2.2.2.1), (.slice c32.2.2.2.2.a c32.2.2.2.2.len c32.2.2.2.2.cap)]), (.agg #[(.string c34.1), (.int .i64 c34.2.1), (.int .i64 c34.2.2.1), (.int .i64 c34.2.2.2.1), (.slice c34.2.2.2.2.a c34.2.2.2.2.len c34.2.2.2.2.cap)])] [.one (.int .i64)] w25.drew fun r35 w36 =>
                J28 (!(decide (r35 < 0))) w36))) (
            J28 false w25.drew)) (fun s29 w30 =>
        cnd s29 (
          slices_partitionEqualCmpFunc_194 p0 s2.1 s2.2.1 s16.1 limit w30 fun r37 w38 =>
          again1 (r37, s2.2.1, s9, s2.2.2.2.1, s2.2.2.2.2) w38) (
          slices_partitionCmpFunc_195 p0 s2.1 s2.2.1 s16.1 limit w30 fun r39 w40 =>
          (8 : Int) ≠ 0 ∧
          cnd (decide ((w64 (r39.1 - s2.1)) < (w64 (s2.2.1 - r39.1)))) (
            slices_pdqsortCmpFunc_161 p0 s2.1 r39.1 s9 limit w40 fun _r41 w42 =>
            again1 ((w64 (r39.1 + 1)), s2.2.1, s9, (decide ((w64 (r39.1 - s2.1)) ≥ (w64 (Int.tdiv (w64 (s2.2.1 - s2.1)) 8)))), r39.2) w42) (
            slices_pdqsortCmpFunc_161 p0 (w64 (r39.1 + 1)) s2.2.1 s9 limit w40 fun _r43 w44 =>
            again1 (s2.1, r39.1, s9, (decide ((w64 (s2.2.1 - r39.1)) ≥ (w64 (Int.tdiv (w64 (s2.2.1 - s2.1)) 8)))), r39.2) w44)))))))))) (data, a, b, true, true) w
def an161 : List An := [
  .reg ⟨[], .done, []⟩,
  .reg ⟨[], .done, []⟩,
  .nop,
  .nop,
  .loop [(1, .one (.int .i64)), (2, .one (.int .i64)), (3, .one (.int .i64)), (10, .one .bool), (11, .one .bool)] [12, 13, 14, 15, 16, 17, 18, 19, 20, 21, 22, 23, 24, 25, 26, 27, 28, 29, 30, 31, 32, 33, 34, 35, 36, 37, 38, 39, 40, 41, 42, 43, 44, 45, 46, 47, 48, 49, 50, 51, 52, 53, 54, 55, 56, 57, 58, 59, 60, 61, 62, 63, 64, 65, 66, 67, 68, 69, 70, 71, 72, 73, 74, 75, 76, 77, 78, 79, 80, 81, 82, 83, 84, 85, 86, 87, 88, 89, 90, 91, 92, 93, 94, 95, 96, 97, 98, 99, 100, 101, 102, 103, 104, 105, 106, 107, 108, 109, 110, 111, 112, 113, 114, 115, 116, 117, 118, 119, 120, 121, 122, 123, 124, 125, 126, 127, 128, 129, 130, 131, 132, 133, 134, 135, 136, 137, 138, 139, 140, 141, 142, 143, 144, 145, 146, 147],
  .nop,
  .reg ⟨[], .done, []⟩,
  .reg ⟨[], .done, []⟩,
  .nop,
  .reg ⟨[(4, [])], .done, []⟩,
  .reg ⟨[], .done, []⟩,
  .nop,
  .reg ⟨[(4, [])], .done, []⟩,
  .reg ⟨[], .done, []⟩,
  .join [(3, .one (.int .i64))] [40, 41, 42, 43, 44, 45, 46],
  .reg ⟨[(4, [])], .done, []⟩,
  .reg ⟨[], .done, []⟩,
  .reg ⟨[(4, [.one (.int .i64), .one (.int .i64)])], .done, []⟩,
  .reg ⟨[], .done, []⟩,
  .join [(13, .one (.int .i64)), (14, .one (.int .i64))] [57, 58, 59, 60, 61, 62, 63, 64, 65, 66, 67],
  .reg ⟨[(4, [])], .done, []⟩,
  .reg ⟨[], .done, []⟩,
  .reg ⟨[], .done, []⟩,
  .join [(75, .one .bool)] [68, 69, 70, 71, 72, 73, 74],
  .reg ⟨[], .done, []⟩,
  .join [] [76, 77, 78, 79, 80],
  .reg ⟨[(4, [.one .bool])], .done, []⟩,
  .nop,
  .join [(97, .one .bool)] [81, 82, 83, 84, 85, 86, 87, 88, 89, 90, 91, 92, 93, 94, 95, 96],
  .reg ⟨[(13, [.one (.int .i64)])], (.nop 0 0 (.nop 1 1 (.nop 2 3 (.nop 3 7 (.nop 4 7 (.nop 5 7 (.nop 6 39 (.nop 7 119 (.nop 8 247 (.nop 9 7 (.nop 10 7 (.nop 11 1543 (.nop 12 3591 (.bar 13 8191 (.nop 14 16383 (.nop 15 32767 (.nop 16 65535 .done))) .none)))))))))))))), []⟩,
  .nop,
  .reg ⟨[(5, [.one (.int .i64)])], .done, []⟩,
  .reg ⟨[], .done, []⟩,
  .reg ⟨[(5, [.one (.int .i64), .one .bool])], .done, []⟩,
  .reg ⟨[], .done, []⟩,
  .reg ⟨[], .done, []⟩,
  .reg ⟨[], .done, []⟩,
  .reg ⟨[], .done, []⟩,
  .nop,
  .reg ⟨[], .done, []⟩,
  .reg ⟨[(5, [])], .done, []⟩,
  .reg ⟨[], .done, []⟩,
  .reg ⟨[], .done, []⟩,
  .reg ⟨[(6, [])], .done, []⟩,
  .reg ⟨[], .done, []⟩]
theorem slices_pdqsortCmpFunc_161_of (p0 : Sl) (data : Int) (a : Int) (b : Int) (limit : Value) (w : World) (K : Tup [] → World → Prop) (hF_ : F161 p0 data a b limit w K) : slices_pdqsortCmpFunc_161 p0 data a b limit w K :=
  call_of_F (l := an161) (args := [Ty.mk (.one .slice) p0, Ty.mk (.one (.int .i64)) data, Ty.mk (.one (.int .i64)) a, Ty.mk (.one (.int .i64)) b, Ty.mk (.one .any) limit]) follows tabOk Tryz.func161 (by kernel_rfl) (by kernel_rfl) (by kernel_rfl) hF_

/-- math/bits.Len -/
def F162 (x : Int) (w : World) (K : Tup [.one (.int .i64)] → World → Prop) : Prop :=
  bits_Len64_197 x w fun r1 w2 =>
  K r1 w2
def an162 : List An := [
  .reg ⟨[], .done, []⟩,
  .nop,
  .reg ⟨[(2, [.one (.int .i64)])], .done, []⟩,
  .reg ⟨[(1, [.one (.int .i64)])], .done, []⟩]
theorem bits_Len_162_of (x : Int) (w : World) (K : Tup [.one (.int .i64)] → World → Prop) (hF_ : F162 x w K) : bits_Len_162 x w K :=
  call_of_F (l := an162) (args := [Ty.mk (.one (.int .u64)) x]) follows tabOk Tryz.func162 (by kernel_rfl) (by kernel_rfl) (by kernel_rfl) hF_

/-- internal/bytealg.LastIndexByteString -/
def F164 (s : ByteArray) (c : Int) (w : World) (K : Tup [.one (.int .i64)] → World → Prop) : Prop :=
  loopP (σ := Tup [.one (.int .i64)]) (fun again1 s2 w3 =>
    cnd (decide (s2 ≥ 0)) (
      idxS s s2 fun b4 =>
      cnd ((b4.toNat : Int) == c) (
        K s2 w3) (
        again1 (w64 (s2 - 1)) w3)) (
      K (-1) w3)) (w64 ((s.size : Int) - 1)) w
def an164 : List An := [
  .reg ⟨[], .done, []⟩,
  .reg ⟨[], .done, []⟩,
  .nop,
  .nop,
  .loop [(5, .one (.int .i64))] [4, 9, 10, 11, 12, 13, 14, 15, 16, 17, 18],
  .reg ⟨[], .done, []⟩,
  .nop,
  .nop,
  .reg ⟨[], .done, []⟩,
  .nop,
  .reg ⟨[], .done, []⟩,
  .reg ⟨[], .done, []⟩,
  .reg ⟨[], .done, []⟩]
theorem bytealg_LastIndexByteString_164_of (s : ByteArray) (c : Int) (w : World) (K : Tup [.one (.int .i64)] → World → Prop) (hF_ : F164 s c w K) : bytealg_LastIndexByteString_164 s c w K :=
  call_of_F (l := an164) (args := [Ty.mk (.one .str) s, Ty.mk (.one (.int .u8)) c]) follows tabOk Tryz.func164 (by kernel_rfl) (by kernel_rfl) (by kernel_rfl) hF_

/-- slices.pdqsortOrdered[int] -/
def F166 (p0 : Sl) (data : Int) (a : Int) (b : Int) (w : World) (K : Tup [] → World → Prop) : Prop :=
  loopP (σ := Tup [.one (.int .i64), .one (.int .i64), .one (.int .i64), .one .bool, .one .bool]) (fun again1 s2 w3 =>
    cnd (decide ((w64 (s2.2.1 - s2.1)) ≤ 12)) (
      slices_insertionSortOrdered_199 p0 s2.1 s2.2.1 w3 fun _r4 w5 =>
      K () w5) (
      cnd (s2.2.2.1 == 0) (
        slices_heapSortOrdered_200 p0 s2.1 s2.2.1 w3 fun _r6 w7 =>
        K () w7) (
        joinP (σ := Tup [.one (.int .i64)]) (fun J8 =>
          cnd (!s2.2.2.2.1) (
            slices_breakPatternsOrdered_201 p0 s2.1 s2.2.1 w3 fun _r11 w12 =>
            J8 (w64 (s2.2.2.1 - 1)) w12) (
            J8 s2.2.2.1 w3)) (fun s9 w10 =>
        slices_choosePivotOrdered_202 p0 s2.1 s2.2.1 w10 fun r13 w14 =>
        joinP (σ := Tup [.one (.int .i64), .one (.int .i64)]) (fun J15 =>
          cnd (r13.2 == 2) (
            slices_reverseRangeOrdered_203 p0 s2.1 s2.2.1 w14 fun _r18 w19 =>
            J15 ((w64 ((w64 (s2.2.1 - 1)) - (w64 (r13.1 - s2.1)))), 1) w19) (
            J15 (r13.1, r13.2) w14)) (fun s16 w17 =>
        joinP (σ := Tup [.one .bool]) (fun J20 =>
          cnd s2.2.2.2.1 (
            cnd s2.2.2.2.2 (
              J20 (s16.2 == 1) w17) (
              J20 false w17)) (
            J20 false w17)) (fun s21 w22 =>
        joinP (σ := Tup []) (fun J23 =>
          cnd s21 (
            slices_partialInsertionSortOrdered_204 p0 s2.1 s2.2.1 w22 fun r26 w27 =>
            cnd r26 (
              K () w27) (
              J23 () w27)) (
            J23 () w22)) (fun _s24 w25 =>
        joinP (σ := Tup [.one .bool]) (fun J28 =>
          cnd (decide (s2.1 > 0)) (
            idxP (w64 (s2.1 - 1)) p0.len (
              onSome p0.a fun A31 =>
              ldP (.int .i64) (A31.add (Int.toNat (w64 (s2.1 - 1)) * 1)) w25.drew fun x32 =>
              idxP s16.1 p0.len (
                onSome p0.a fun A33 =>
                ldP (.int .i64) (A33.add (Int.toNat s16.1 * 1)) w25.drew fun x34 =>
                cmp_Less_205 x32 x34 w25.drew fun r35 w36 =>
                J28 (!r35) w36))) (
            J28 false w25.drew)) (fun s29 w30 =>
        cnd s29 (
          slices_partitionEqualOrdered_206 p0 s2.1 s2.2.1 s16.1 w30 fun r37 w38 =>
          again1 (r37, s2.2.1, s9, s2.2.2.2.1, s2.2.2.2.2) w38) (
          slices_partitionOrdered_207 p0 s2.1 s2.2.1 s16.1 w30 fun r39 w40 =>
          (8 : Int) ≠ 0 ∧
          cnd (decide ((w64 (r39.1 - s2.1)) < (w64 (s2.2.1 - r39.1)))) (
            slices_pdqsortOrdered_166 p0 s2.1 r39.1 s9 w40 fun _r41 w42 =>
            again1 ((w64 (r39.1 + 1)), s2.2.1, s9, (decide ((w64 (r39.1 - s2.1)) ≥ (w64 (Int.tdiv (w64 (s2.2.1 - s2.1)) 8)))), r39.2) w42) (
            slices_pdqsortOrdered_166 p0 (w64 (r39.1 + 1)) s2.2.1 s9 w40 fun _r43 w44 =>
            again1 (s2.1, r39.1, s9, (decide ((w64 (s2.2.1 - r39.1)) ≥ (w64 (Int.tdiv (w64 (s2.2.1 - s2.1)) 8)))), r39.2) w44)))))))))) (data, a, b, true, true) w
def an166 : List An := [
  .reg ⟨[], .done, []⟩,
  .reg ⟨[], .done, []⟩,
  .nop,
  .nop,
  .loop [(1, .one (.int .i64)), (2, .one (.int .i64)), (3, .one (.int .i64)), (8, .one .bool), (9, .one .bool)] [10, 11, 12, 13, 14, 15, 16, 17, 18, 19, 20, 21, 22, 23, 24, 25, 26, 27, 28, 29, 30, 31, 32, 33, 34, 35, 36, 37, 38, 39, 40, 41, 42, 43, 44, 45, 46, 47, 48, 49, 50, 51, 52, 53, 54, 55, 56, 57, 58, 59, 60, 61, 62, 63, 64, 65, 66, 67, 68, 69, 70, 71, 72, 73, 74, 75, 76, 77, 78, 79, 80, 81, 82, 83, 84, 85, 86, 87, 88, 89, 90, 91, 92, 93, 94, 95, 96, 97, 98, 99, 100, 101, 102, 103, 104, 105, 106, 107, 108, 109, 110, 111, 112, 113, 114, 115, 116, 117, 118, 119, 120, 121, 122, 123, 124, 125, 126, 127, 128, 129, 130, 131, 132, 133],
  .nop,
  .reg ⟨[], .done, []⟩,
  .reg ⟨[], .done, []⟩,
  .nop,
  .reg ⟨[(3, [])], .done, []⟩,
  .reg ⟨[], .done, []⟩,
  .nop,
  .reg ⟨[(3, [])], .done, []⟩,
  .reg ⟨[], .done, []⟩,
  .join [(3, .one (.int .i64))] [36, 37, 38, 39, 40, 41],
  .reg ⟨[(3, [])], .done, []⟩,
  .reg ⟨[], .done, []⟩,
  .reg ⟨[(3, [.one (.int .i64), .one (.int .i64)])], .done, []⟩,
  .reg ⟨[], .done, []⟩,
  .join [(11, .one (.int .i64)), (12, .one (.int .i64))] [51, 52, 53, 54, 55, 56, 57, 58, 59, 60],
  .reg ⟨[(3, [])], .done, []⟩,
  .reg ⟨[], .done, []⟩,
  .reg ⟨[], .done, []⟩,
  .join [(68, .one .bool)] [61, 62, 63, 64, 65, 66, 67],
  .reg ⟨[], .done, []⟩,
  .join [] [69, 70, 71, 72],
  .reg ⟨[(3, [.one .bool])], .done, []⟩,
  .nop,
  .join [(87, .one .bool)] [73, 74, 75, 76, 77, 78, 79, 80, 81, 82, 83, 84, 85, 86],
  .reg ⟨[(12, [.one .bool])], (.nop 0 0 (.nop 1 1 (.nop 2 3 (.nop 3 7 (.nop 4 7 (.nop 5 23 (.nop 6 63 (.nop 7 127 (.nop 8 7 (.nop 9 7 (.nop 10 775 (.nop 11 1799 (.bar 12 4095 (.nop 13 8191 (.nop 14 16383 .done)) .none))))))))))))), []⟩,
  .nop,
  .reg ⟨[(4, [.one (.int .i64)])], .done, []⟩,
  .reg ⟨[], .done, []⟩,
  .reg ⟨[(4, [.one (.int .i64), .one .bool])], .done, []⟩,
  .reg ⟨[], .done, []⟩,
  .reg ⟨[], .done, []⟩,
  .reg ⟨[], .done, []⟩,
  .reg ⟨[], .done, []⟩,
  .nop,
  .reg ⟨[], .done, []⟩,
  .reg ⟨[(4, [])], .done, []⟩,
  .reg ⟨[], .done, []⟩,
  .reg ⟨[], .done, []⟩,
  .reg ⟨[(5, [])], .done, []⟩,
  .reg ⟨[], .done, []⟩]
theorem slices_pdqsortOrdered_166_of (p0 : Sl) (data : Int) (a : Int) (b : Int) (w : World) (K : Tup [] → World → Prop) (hF_ : F166 p0 data a b w K) : slices_pdqsortOrdered_166 p0 data a b w K :=
  call_of_F (l := an166) (args := [Ty.mk (.one .slice) p0, Ty.mk (.one (.int .i64)) data, Ty.mk (.one (.int .i64)) a, Ty.mk (.one (.int .i64)) b]) follows tabOk Tryz.func166 (by kernel_rfl) (by kernel_rfl) (by kernel_rfl) hF_

/-- (*purlin/purlinref24.History).entry -/
def F167 (h : Option Addr) (dir : Int) (name : ByteArray) (w : World) (K : Tup [] → World → Prop) : Prop :=
  purlinref24_History_now_55 h w fun r1 w2 =>
  onSome h fun A3 =>
  ldP (.slice) (A3.add 4) w2 fun x4 =>
  runP Tryz.prog (Builtin.append_ #[54, 54] 54 #[(.slice none 0 0), (.slice x4.a x4.len x4.cap)]) [.one .slice] w2 fun c5 w6 =>
  newP (.cells #[(.int .i64 dir), (.string name), (.int .i64 r1.2)] 257) w6 fun b7 w8 =>
  runP Tryz.prog (Builtin.append_ #[54, 54] 54 #[(.slice c5.a c5.len c5.cap), (.slice (some ⟨b7, 0, none⟩) 1 1)]) [.one .slice] w8 fun c9 w10 =>
  onSome h fun A11 =>
  stP (A11.add 4) (.slice c9.a c9.len c9.cap) w10 fun w12 =>
  purlinref14_Tree_Look_155 r1.1 dir name w12 fun r13 w14 =>
  cnd (r13 != 0) (
    onSome h fun A15 =>
    ldP (.slice) (A15.add 6) w14 fun x16 =>
    idxP r13 x16.len (
      onSome x16.a fun A17 =>
      stP (A17.add (Int.toNat r13 * 1)) (.int .i64 r1.2) w14 fun w18 =>
      K () w18)) (
    K () w14)
def an167 : List An := [
  .reg ⟨[(1, [.one .ptr, .one (.int .i64)])], .done, []⟩,
  .reg ⟨[(5, [.one .slice]), (11, [.one .slice])], .done, []⟩,
  .reg ⟨[(3, [.one (.int .i64)])], .done, []⟩,
  .reg ⟨[], .done, []⟩,
  .nop,
  .reg ⟨[], .done, []⟩]
theorem purlinref24_History_entry_167_of (h : Option Addr) (dir : Int) (name : ByteArray) (w : World) (K : Tup [] → World → Prop) (hF_ : F167 h dir name w K) : purlinref24_History_entry_167 h dir name w K :=
  call_of_F (l := an167) (args := [Ty.mk (.one .ptr) h, Ty.mk (.one (.int .i64)) dir, Ty.mk (.one .str) name]) follows tabOk Tryz.func167 (by kernel_rfl) (by kernel_rfl) (by kernel_rfl) hF_

/-- (*purlin/purlinref24.History).up -/
def F168 (h : Option Addr) (dir : Int) (w : World) (K : Tup [] → World → Prop) : Prop :=
  purlinref24_History_now_55 h w fun r1 w2 =>
  loopP (σ := Tup [.one (.int .i64)]) (fun again3 s4 w5 =>
    joinP (σ := Tup [.one .bool]) (fun J6 =>
      cnd (s4 != 1) (
        onSome r1.1 fun A9 =>
        ldP (.slice) A9 w5 fun x10 =>
        idxP s4 x10.len (
          onSome x10.a fun A11 =>
          ldP (.int .i64) ((A11.add (Int.toNat s4 * 7)).add 1) w5 fun x12 =>
          J6 (decide (x12 > 0)) w5)) (
        J6 false w5)) (fun s7 w8 =>
    cnd s7 (
      onSome r1.1 fun A13 =>
      ldP (.slice) A13 w8 fun x14 =>
      idxP s4 x14.len (
        onSome x14.a fun A15 =>
        ldP (.int .i64) ((A15.add (Int.toNat s4 * 7)).add 2) w8 fun x16 =>
        loopP (σ := Tup [.one (.int .i64)]) (fun again17 s18 w19 =>
          onSome r1.1 fun A20 =>
          ldP (.slice) A20 w19 fun x21 =>
          idxP x16 x21.len (
            onSome x21.a fun A22 =>
            ldP (.slice) ((A22.add (Int.toNat x16 * 7)).add 4) w19 fun x23 =>
            cnd (decide (s18 < (x23.len : Int))) (
              onSome r1.1 fun A24 =>
              ldP (.slice) A24 w19 fun x25 =>
              idxP x16 x25.len (
                onSome x25.a fun A26 =>
                ldP (.slice) ((A26.add (Int.toNat x16 * 7)).add 4) w19 fun x27 =>
                idxP s18 x27.len (
                  onSome x27.a fun A28 =>
                  ldP (.int .i64) ((A28.add (Int.toNat s18 * 2)).add 1) w19 fun x29 =>
                  cnd (x29 == s4) (
                    onSome r1.1 fun A30 =>
                    ldP (.slice) A30 w19 fun x31 =>
                    idxP x16 x31.len (
                      onSome x31.a fun A32 =>
                      ldP (.slice) ((A32.add (Int.toNat x16 * 7)).add 4) w19 fun x33 =>
                      idxP s18 x33.len (
                        onSome x33.a fun A34 =>
                        ldP (.str) (A34.add (Int.toNat s18 * 2)) w19 fun x35 =>
                        purlinref24_History_entry_167 h x16 x35 w19 fun _r36 w37 =>
                        again17 (w64 (s18 + 1)) w37))) (
                    again17 (w64 (s18 + 1)) w19)))) (
              again3 x16 w19))) 0 w8)) (
      K () w8))) dir w2
def an168 : List An := [
  .reg ⟨[(1, [.one .ptr, .one (.int .i64)])], .done, []⟩,
  .nop,
  .nop,
  .loop [(1, .one (.int .i64))] [6, 7, 13, 14, 15, 16, 17, 18, 19, 20, 21, 22, 23, 24, 25, 26, 27, 28, 29, 30, 31, 32, 33, 34, 35, 36, 37, 38, 39, 40, 41, 42, 43, 44, 45, 46, 47, 48, 49, 50, 51, 52, 53, 54, 55, 56, 57, 58, 59, 60, 61, 62, 63, 64, 65, 66, 67, 68, 69, 70, 71, 72, 73, 74, 75, 76],
  .join [(25, .one .bool)] [13, 14, 15, 16, 17, 18, 19, 20, 21, 22, 23, 24],
  .reg ⟨[], .done, []⟩,
  .nop,
  .nop,
  .reg ⟨[], .done, []⟩,
  .reg ⟨[], .done, []⟩,
  .nop,
  .nop,
  .loop [(7, .one (.int .i64))] [34, 35, 36, 37, 38, 39, 40, 41, 42, 43, 44, 45, 46, 47, 48, 49, 50, 51, 52, 53, 54, 55, 56, 57, 58, 59, 60, 61, 62, 63, 64, 65, 66, 67, 68, 69, 70, 71, 72, 73, 74, 75],
  .reg ⟨[], .done, []⟩,
  .nop,
  .nop,
  .reg ⟨[], .done, []⟩,
  .nop,
  .reg ⟨[(14, [])], .done, []⟩,
  .reg ⟨[], .done, []⟩,
  .reg ⟨[], .done, []⟩]
theorem purlinref24_History_up_168_of (h : Option Addr) (dir : Int) (w : World) (K : Tup [] → World → Prop) (hF_ : F168 h dir w K) : purlinref24_History_up_168 h dir w K :=
  call_of_F (l := an168) (args := [Ty.mk (.one .ptr) h, Ty.mk (.one (.int .i64)) dir]) follows tabOk Tryz.func168 (by kernel_rfl) (by kernel_rfl) (by kernel_rfl) hF_

/-- slices.IndexFunc[[][]byte,[]byte] -/
def F169 (p0 : Sl) (s : Value) (w : World) (K : Tup [.one (.int .i64)] → World → Prop) : Prop :=
  loopP (σ := Tup [.one (.int .i64)]) (fun again1 s2 w3 =>
    cnd (decide (s2 < (p0.len : Int))) (
      idxP s2 p0.len (
        onSome p0.a fun A4 =>
        ldP (.slice) (A4.add (Int.toNat s2 * 1)) w3 fun x5 =>
        callV Tryz.prog s #[(.slice x5.a x5.len x5.cap)] [.one .bool] w3 fun r6 w7 =>
        cnd r6 (
          K s2 w7) (
          again1 (w64 (s2 + 1)) w7))) (
      K (-1) w3)) 0 w
def an169 : List An := [
  .reg ⟨[], .done, []⟩,
  .reg ⟨[], .done, []⟩,
  .nop,
  .nop,
  .loop [(8, .one (.int .i64))] [4, 5, 9, 10, 11, 12, 13, 14, 15, 16, 17, 18],
  .reg ⟨[], .done, []⟩,
  .nop,
  .nop,
  .reg ⟨[], .done, []⟩,
  .reg ⟨[(5, [.one .bool])], .done, []⟩,
  .nop,
  .reg ⟨[], .done, []⟩,
  .reg ⟨[], .done, []⟩,
  .reg ⟨[], .done, []⟩]
theorem slices_IndexFunc_169_of (p0 : Sl) (s : Value) (w : World) (K : Tup [.one (.int .i64)] → World → Prop) (hF_ : F169 p0 s w K) : slices_IndexFunc_169 p0 s w K :=
  call_of_F (l := an169) (args := [Ty.mk (.one .slice) p0, Ty.mk (.one .any) s]) follows tabOk Tryz.func169 (by kernel_rfl) (by kernel_rfl) (by kernel_rfl) hF_

/-- purlin/tree.long -/
def F170 (parts : Sl) (w : World) (K : Tup [.one .bool] → World → Prop) : Prop :=
  cnd (decide ((parts.len : Int) > 20)) (
    K true w) (
    path_Join_181 parts w fun r1 w2 =>
    K (decide ((r1.size : Int) > 200)) w2)
def an170 : List An := [
  .reg ⟨[], .done, []⟩,
  .reg ⟨[(5, [.one .str])], .done, []⟩]
theorem tree_long_170_of (parts : Sl) (w : World) (K : Tup [.one .bool] → World → Prop) (hF_ : F170 parts w K) : tree_long_170 parts w K :=
  call_of_F (l := an170) (args := [Ty.mk (.one .slice) parts]) follows tabOk Tryz.func170 (by kernel_rfl) (by kernel_rfl) (by kernel_rfl) hF_

/-- slices.IndexFunc[[]purlin/table.slot,purlin/table.slot] -/
def F171 (p0 : Sl) (s : Value) (w : World) (K : Tup [.one (.int .i64)] → World → Prop) : Prop :=
  loopP (σ := Tup [.one (.int .i64)]) (fun again1 s2 w3 =>
    cnd (decide (s2 < (p0.len : Int))) (
      idxP s2 p0.len (
        onSome p0.a fun A4 =>
        ldA [.int .i64, .int .i64, .int .i64, .bool] (A4.add (Int.toNat s2 * 4)) w3 fun c5 =>
        callV Tryz.prog s #[(.agg #[(.int .i64 c5.1), (.int .i64 c5.2.1), (.int .i64 c5.2.2.1), (.bool c5.2.2.2)])] [.one .bool] w3 fun r6 w7 =>
        cnd r6 (
          K s2 w7) (
          again1 (w64 (s2 + 1)) w7))) (
      K (-1) w3)) 0 w
def an171 : List An := [
  .reg ⟨[], .done, []⟩,
  .reg ⟨[], .done, []⟩,
  .nop,
  .nop,
  .loop [(8, .one (.int .i64))] [4, 5, 9, 10, 11, 12, 13, 14, 15, 16, 17, 18],
  .reg ⟨[], .done, []⟩,
  .nop,
  .nop,
  .reg ⟨[], .done, []⟩,
  .reg ⟨[(5, [.one .bool])], .done, []⟩,
  .nop,
  .reg ⟨[], .done, []⟩,
  .reg ⟨[], .done, []⟩,
  .reg ⟨[], .done, []⟩]
theorem slices_IndexFunc_171_of (p0 : Sl) (s : Value) (w : World) (K : Tup [.one (.int .i64)] → World → Prop) (hF_ : F171 p0 s w K) : slices_IndexFunc_171 p0 s w K :=
  call_of_F (l := an171) (args := [Ty.mk (.one .slice) p0, Ty.mk (.one .any) s]) follows tabOk Tryz.func171 (by kernel_rfl) (by kernel_rfl) (by kernel_rfl) hF_

/-- (*purlin/table.Table).Open$1 -/
def F172 (s : Carr [.int .i64, .int .i64, .int .i64, .bool]) (w : World) (K : Tup [.one .bool] → World → Prop) : Prop :=
  newP (.cells #[(.int .i64 s.1), (.int .i64 s.2.1), (.int .i64 s.2.2.1), (.bool s.2.2.2)] 142) w fun b1 w2 =>
  ldP (.bool) ⟨b1, 3, none⟩ w2 fun x3 =>
  K (!x3) w2
def an172 : List An := [
  .reg ⟨[], .done, []⟩,
  .reg ⟨[], .done, []⟩]
theorem table_Table_Open_1_172_of (s : Carr [.int .i64, .int .i64, .int .i64, .bool]) (w : World) (K : Tup [.one .bool] → World → Prop) (hF_ : F172 s w K) : table_Table_Open_1_172 s w K :=
  call_of_F (l := an172) (args := [Ty.mk (.agg [.int .i64, .int .i64, .int .i64, .bool]) s]) follows tabOk Tryz.func172 (by kernel_rfl) (by kernel_rfl) (by kernel_rfl) hF_

/-- (*purlin/table.Table).at -/
def F173 (t : Option Addr) (fd : Int) (w : World) (K : Tup [.one .ptr, .one (.int .i64)] → World → Prop) : Prop :=
  cnd (Option.isNone t) (
    K (none, 1) w) (
    joinP (σ := Tup [.one .bool]) (fun J1 =>
      cnd (decide (fd < 0)) (
        J1 true w) (
        cnd (decide (fd ≥ 16)) (
          J1 true w) (
          onSome t fun A4 =>
          idxP fd 16 (
            ldP (.bool) ((A4.add (Int.toNat fd * 4)).add 3) w fun x5 =>
            J1 (!x5) w)))) (fun s2 w3 =>
    cnd s2 (
      K (none, 10) w3) (
      onSome t fun A6 =>
      idxP fd 16 (
        K ((some (A6.add (Int.toNat fd * 4))), 0) w3))))
def an173 : List An := [
  .reg ⟨[], .done, []⟩,
  .nop,
  .reg ⟨[], .done, []⟩,
  .nop,
  .reg ⟨[], .done, []⟩,
  .join [(9, .one .bool)] [10, 11, 12, 13, 14, 15, 16, 17, 18, 19, 20, 21, 22, 23, 24, 25],
  .reg ⟨[], .done, []⟩,
  .nop,
  .reg ⟨[], .done, []⟩,
  .reg ⟨[], .done, []⟩]
theorem table_Table_at_173_of (t : Option Addr) (fd : Int) (w : World) (K : Tup [.one .ptr, .one (.int .i64)] → World → Prop) (hF_ : F173 t fd w K) : table_Table_at_173 t fd w K :=
  call_of_F (l := an173) (args := [Ty.mk (.one .ptr) t, Ty.mk (.one (.int .i64)) fd]) follows tabOk Tryz.func173 (by kernel_rfl) (by kernel_rfl) (by kernel_rfl) hF_

/-- (*purlin/table.Table).Holds -/
def F174 (t : Option Addr) (node : Int) (w : World) (K : Tup [.one .bool] → World → Prop) : Prop :=
  newP (.cells #[(.int .i64 node)] 3) w fun b1 w2 =>
  cnd (!(Option.isNone t)) (
    onSome t fun A3 =>
    slcP ⟨some A3, 16, 16⟩ 0 none 4 fun s4 =>
    slices_ContainsFunc_208 s4 (.func (.func 209) #[] #[(.pointer (some ⟨b1, 0, none⟩))]) w2 fun r5 w6 =>
    K r5 w6) (
    K false w2)
def an174 : List An := [
  .reg ⟨[], .done, []⟩,
  .reg ⟨[(8, [.one .bool])], .done, []⟩]
theorem table_Table_Holds_174_of (t : Option Addr) (node : Int) (w : World) (K : Tup [.one .bool] → World → Prop) (hF_ : F174 t node w K) : table_Table_Holds_174 t node w K :=
  call_of_F (l := an174) (args := [Ty.mk (.one .ptr) t, Ty.mk (.one (.int .i64)) node]) follows tabOk Tryz.func174 (by kernel_rfl) (by kernel_rfl) (by kernel_rfl) hF_

/-- strings.Contains -/
def F175 (s : ByteArray) (substr : ByteArray) (w : World) (K : Tup [.one .bool] → World → Prop) : Prop :=
  strings_Index_210 s substr w fun r1 w2 =>
  K (decide (r1 ≥ 0)) w2
def an175 : List An := [
  .reg ⟨[], .done, []⟩,
  .reg ⟨[(2, [.one (.int .i64)])], .done, []⟩]
theorem strings_Contains_175_of (s : ByteArray) (substr : ByteArray) (w : World) (K : Tup [.one .bool] → World → Prop) (hF_ : F175 s substr w K) : strings_Contains_175 s substr w K :=
  call_of_F (l := an175) (args := [Ty.mk (.one .str) s, Ty.mk (.one .str) substr]) follows tabOk Tryz.func175 (by kernel_rfl) (by kernel_rfl) (by kernel_rfl) hF_

/-- purlin/path.parts -/
def F176 (s : ByteArray) (w : World) (K : Tup [.one .slice, .one .bool] → World → Prop) : Prop :=
  strings_Split_211 s (⟨#[47]⟩ : ByteArray) w fun r1 w2 =>
  loopP (σ := Tup [.one .slice, .one (.int .i64)]) (fun again3 s4 w5 =>
    cnd (decide (s4.2 < (r1.len : Int))) (
      idxP s4.2 r1.len (
        onSome r1.a fun A6 =>
        ldP (.str) (A6.add (Int.toNat s4.2 * 1)) w5 fun x7 =>
        joinP (σ := Tup [.one .bool]) (fun J8 =>
          cnd (x7.toList == (⟨#[]⟩ : ByteArray).toList) (
            J8 true w5) (
            J8 (x7.toList == (⟨#[46]⟩ : ByteArray).toList) w5)) (fun s9 w10 =>
        cnd s9 (
          again3 (s4.1, (w64 (s4.2 + 1))) w10) (
          cnd (decide ((x7.size : Int) > 24)) (
            K (⟨none, 0, 0⟩, false) w10) (
            strings_Clone_212 x7 w10 fun r11 w12 =>
            newP (.cells #[(.string r11)] 9) w12 fun b13 w14 =>
            runP Tryz.prog (Builtin.append_ #[41, 41] 41 #[(.slice s4.1.a s4.1.len s4.1.cap), (.slice (some ⟨b13, 0, none⟩) 1 1)]) [.one .slice] w14 fun c15 w16 =>
            again3 (c15, (w64 (s4.2 + 1))) w16))))) (
      K (s4.1, (decide ((s4.1.len : Int) ≤ 20))) w5)) (⟨none, 0, 0⟩, 0) w2
def an176 : List An := [
  .reg ⟨[], .done, []⟩,
  .reg ⟨[], .done, []⟩,
  .reg ⟨[(1, [.one .slice])], .done, []⟩,
  .nop,
  .nop,
  .loop [(4, .one .slice), (10, .one (.int .i64))] [2, 3, 6, 11, 12, 13, 14, 15, 16, 17, 18, 19, 20, 21, 22, 23, 24, 25, 26, 27, 28, 29, 30],
  .reg ⟨[], .done, []⟩,
  .nop,
  .nop,
  .reg ⟨[], .done, []⟩,
  .nop,
  .join [(14, .one .bool)] [15, 16, 17, 18, 19, 20],
  .reg ⟨[], .done, []⟩,
  .nop,
  .reg ⟨[], .done, []⟩,
  .nop,
  .reg ⟨[], .done, []⟩,
  .reg ⟨[(2, [.one .str]), (4, [.one .slice])], .done, []⟩,
  .reg ⟨[], .done, []⟩,
  .reg ⟨[], .done, []⟩]
theorem path_parts_176_of (s : ByteArray) (w : World) (K : Tup [.one .slice, .one .bool] → World → Prop) (hF_ : F176 s w K) : path_parts_176 s w K :=
  call_of_F (l := an176) (args := [Ty.mk (.one .str) s]) follows tabOk Tryz.func176 (by kernel_rfl) (by kernel_rfl) (by kernel_rfl) hF_

/-- strings.HasPrefix -/
def F177 (s : ByteArray) (prefix_ : ByteArray) (w : World) (K : Tup [.one .bool] → World → Prop) : Prop :=
  stringslite_HasPrefix_213 s prefix_ w fun r1 w2 =>
  K r1 w2
def an177 : List An := [
  .reg ⟨[], .done, []⟩,
  .reg ⟨[(2, [.one .bool])], .done, []⟩]
theorem strings_HasPrefix_177_of (s : ByteArray) (prefix_ : ByteArray) (w : World) (K : Tup [.one .bool] → World → Prop) (hF_ : F177 s prefix_ w K) : strings_HasPrefix_177 s prefix_ w K :=
  call_of_F (l := an177) (args := [Ty.mk (.one .str) s, Ty.mk (.one .str) prefix_]) follows tabOk Tryz.func177 (by kernel_rfl) (by kernel_rfl) (by kernel_rfl) hF_

/-- slices.Collect[string] -/
def F178 (p0 : Value) (w : World) (K : Tup [.one .slice] → World → Prop) : Prop :=
  slices_AppendSeq_214 ⟨none, 0, 0⟩ p0 w fun r1 w2 =>
  K r1 w2
def an178 : List An := [
  .reg ⟨[], .done, []⟩,
  .reg ⟨[(1, [.one .slice])], .done, []⟩]
theorem slices_Collect_178_of (p0 : Value) (w : World) (K : Tup [.one .slice] → World → Prop) (hF_ : F178 p0 w K) : slices_Collect_178 p0 w K :=
  call_of_F (l := an178) (args := [Ty.mk (.one .any) p0]) follows tabOk Tryz.func178 (by kernel_rfl) (by kernel_rfl) (by kernel_rfl) hF_

/-- slices.Sort[[]string,string] -/
def F179 (p0 : Sl) (w : World) (K : Tup [] → World → Prop) : Prop :=
  bits_Len_162 (IntKind.wrap .u64 ((p0.len : Int))) w fun r1 w2 =>
  slices_pdqsortOrdered_215 p0 0 (p0.len : Int) r1 w2 fun _r3 w4 =>
  K () w4
def an179 : List An := [
  .reg ⟨[], .done, []⟩,
  .reg ⟨[(4, [.one (.int .i64)]), (5, [])], .done, []⟩]
theorem slices_Sort_179_of (p0 : Sl) (w : World) (K : Tup [] → World → Prop) (hF_ : F179 p0 w K) : slices_Sort_179 p0 w K :=
  call_of_F (l := an179) (args := [Ty.mk (.one .slice) p0]) follows tabOk Tryz.func179 (by kernel_rfl) (by kernel_rfl) (by kernel_rfl) hF_

/-- maps.Keys[map[string]int,string,int]$1 -/
def F180 (yield : Value) (p1 : Option Addr) (w : World) (K : Tup [] → World → Prop) : Prop :=
  onSome p1 fun A1 =>
  ldP (.map) A1 w fun x2 =>
  runP Tryz.prog (Instr.range 66 (.map x2)) [.one .ptr] w fun c3 w4 =>
  loopP (σ := Tup []) (fun again5 _s6 w7 =>
    nextP Tryz.prog (Instr.next (.pointer c3) false 0) [.one .str, .one (.int .i64)] w7 (fun w8 =>
      K () w8) (fun _c10 w9 =>
      rdP Tryz.prog (Instr.entry (.pointer c3)) [.one .str, .one (.int .i64)] w9 fun c11 =>
      callV Tryz.prog yield #[(.string c11.1)] [.one .bool] w9 fun r12 w13 =>
      cnd (!r12) (
        K () w13) (
        again5 () w13))) () w4
def an180 : List An := [
  .reg ⟨[], .done, []⟩,
  .nop,
  .nop,
  .loop [] [3, 6, 7, 8, 9, 10, 11, 12, 13],
  .reg ⟨[(0, [.one .str, .one (.int .i64)])], .done, []⟩,
  .nop,
  .nop,
  .reg ⟨[(0, [.one .str, .one (.int .i64)])], .done, []⟩,
  .reg ⟨[(2, [.one .bool])], .done, []⟩,
  .nop]
theorem maps_Keys_1_180_of (yield : Value) (p1 : Option Addr) (w : World) (K : Tup [] → World → Prop) (hF_ : F180 yield p1 w K) : maps_Keys_1_180 yield p1 w K :=
  call_of_F (l := an180) (args := [Ty.mk (.one .any) yield, Ty.mk (.one .ptr) p1]) follows tabOk Tryz.func180 (by kernel_rfl) (by kernel_rfl) (by kernel_rfl) hF_

/-- purlin/path.Join -/
def F181 (parts : Sl) (w : World) (K : Tup [.one .str] → World → Prop) : Prop :=
  strings_Join_216 parts (⟨#[47]⟩ : ByteArray) w fun r1 w2 =>
  (((⟨#[47]⟩ : ByteArray).size + r1.size : Nat) : Int) ≤ IntKind.i64.max ∧
  K ((⟨#[47]⟩ : ByteArray) ++ r1) w2
def an181 : List An := [
  .reg ⟨[], .done, []⟩,
  .reg ⟨[(1, [.one .str])], .done, []⟩]
theorem path_Join_181_of (parts : Sl) (w : World) (K : Tup [.one .str] → World → Prop) (hF_ : F181 parts w K) : path_Join_181 parts w K :=
  call_of_F (l := an181) (args := [Ty.mk (.one .slice) parts]) follows tabOk Tryz.func181 (by kernel_rfl) (by kernel_rfl) (by kernel_rfl) hF_

/-- slices.Clone[[]string,string] -/
def F182 (p0 : Sl) (w : World) (K : Tup [.one .slice] → World → Prop) : Prop :=
  cnd (Option.isNone p0.a) (
    K ⟨none, 0, 0⟩ w) (
    newP (.cells #[] 9) w fun b1 w2 =>
    runP Tryz.prog (Builtin.append_ #[41, 41] 41 #[(.slice (some ⟨b1, 0, none⟩) 0 0), (.slice p0.a p0.len p0.cap)]) [.one .slice] w2 fun c3 w4 =>
    K c3 w4)
def an182 : List An := [
  .reg ⟨[], .done, []⟩,
  .reg ⟨[], .done, []⟩,
  .nop,
  .reg ⟨[], .done, []⟩,
  .reg ⟨[(2, [.one .slice])], .done, []⟩]
theorem slices_Clone_182_of (p0 : Sl) (w : World) (K : Tup [.one .slice] → World → Prop) (hF_ : F182 p0 w K) : slices_Clone_182 p0 w K :=
  call_of_F (l := an182) (args := [Ty.mk (.one .slice) p0]) follows tabOk Tryz.func182 (by kernel_rfl) (by kernel_rfl) (by kernel_rfl) hF_

/-- slices.Reverse[[]string,string] -/
def F183 (p0 : Sl) (w : World) (K : Tup [] → World → Prop) : Prop :=
  loopP (σ := Tup [.one (.int .i64), .one (.int .i64)]) (fun again1 s2 w3 =>
    cnd (decide (s2.1 < s2.2)) (
      idxP s2.2 p0.len (
        onSome p0.a fun A4 =>
        ldP (.str) (A4.add (Int.toNat s2.2 * 1)) w3.drew fun x5 =>
        idxP s2.1 p0.len (
          onSome p0.a fun A6 =>
          ldP (.str) (A6.add (Int.toNat s2.1 * 1)) w3.drew fun x7 =>
          idxP s2.1 p0.len (
            onSome p0.a fun A8 =>
            stP (A8.add (Int.toNat s2.1 * 1)) (.string x5) w3.drew fun w9 =>
            idxP s2.2 p0.len (
              onSome p0.a fun A10 =>
              stP (A10.add (Int.toNat s2.2 * 1)) (.string x7) w9 fun w11 =>
              again1 ((w64 (s2.1 + 1)), (w64 (s2.2 - 1))) w11))))) (
      K () w3)) (0, (w64 ((p0.len : Int) - 1))) w
def an183 : List An := [
  .reg ⟨[], .done, []⟩,
  .nop,
  .nop,
  .loop [(2, .one (.int .i64)), (3, .one (.int .i64))] [7, 8, 9, 10, 11, 12, 13, 14, 15, 16, 17, 18, 19, 20, 21, 22, 23, 24, 25, 26, 27],
  .reg ⟨[], .done, []⟩,
  .nop,
  .nop,
  .reg ⟨[], (.nop 0 0 (.nop 1 0 (.nop 2 0 (.nop 3 0 (.nop 4 0 (.nop 5 0 (.nop 6 48 (.nop 7 112 (.nop 8 0 (.nop 9 0 (.nop 10 768 (.nop 11 1792 (.nop 12 4083 (.bar 13 8179 (.nop 14 16383 (.bar 15 32767 .done .none)) .none)))))))))))))), []⟩,
  .reg ⟨[], .done, []⟩]
theorem slices_Reverse_183_of (p0 : Sl) (w : World) (K : Tup [] → World → Prop) (hF_ : F183 p0 w K) : slices_Reverse_183 p0 w K :=
  call_of_F (l := an183) (args := [Ty.mk (.one .slice) p0]) follows tabOk Tryz.func183 (by kernel_rfl) (by kernel_rfl) (by kernel_rfl) hF_

/-- maps.Keys[map[int]*purlin/tree.node,int,*purlin/tree.node]$1 -/
def F184 (yield : Value) (p1 : Option Addr) (w : World) (K : Tup [] → World → Prop) : Prop :=
  onSome p1 fun A1 =>
  ldP (.map) A1 w fun x2 =>
  runP Tryz.prog (Instr.range 127 (.map x2)) [.one .ptr] w fun c3 w4 =>
  loopP (σ := Tup []) (fun again5 _s6 w7 =>
    nextP Tryz.prog (Instr.next (.pointer c3) false 0) [.one (.int .i64), .one .ptr] w7 (fun w8 =>
      K () w8) (fun _c10 w9 =>
      rdP Tryz.prog (Instr.entry (.pointer c3)) [.one (.int .i64), .one .ptr] w9 fun c11 =>
      callV Tryz.prog yield #[(.int .i64 c11.1)] [.one .bool] w9 fun r12 w13 =>
      cnd (!r12) (
        K () w13) (
        again5 () w13))) () w4
def an184 : List An := [
  .reg ⟨[], .done, []⟩,
  .nop,
  .nop,
  .loop [] [3, 6, 7, 8, 9, 10, 11, 12, 13],
  .reg ⟨[(0, [.one (.int .i64), .one .ptr])], .done, []⟩,
  .nop,
  .nop,
  .reg ⟨[(0, [.one (.int .i64), .one .ptr])], .done, []⟩,
  .reg ⟨[(2, [.one .bool])], .done, []⟩,
  .nop]
theorem maps_Keys_1_184_of (yield : Value) (p1 : Option Addr) (w : World) (K : Tup [] → World → Prop) (hF_ : F184 yield p1 w K) : maps_Keys_1_184 yield p1 w K :=
  call_of_F (l := an184) (args := [Ty.mk (.one .any) yield, Ty.mk (.one .ptr) p1]) follows tabOk Tryz.func184 (by kernel_rfl) (by kernel_rfl) (by kernel_rfl) hF_

/-- (*purlin/tree.Tree).above -/
def F185 (t : Option Addr) (n : Int) (w : World) (K : Tup [.one (.int .i64)] → World → Prop) : Prop :=
  onSome t fun A1 =>
  ldP (.map) A1 w fun x2 =>
  rdP Tryz.prog (Instr.lookup 127 (.map x2) (.int .i64 n) false) [.one .ptr] w fun c3 =>
  onSome c3 fun A4 =>
  ldP (.int .i64) (A4.add 6) w fun x5 =>
  cnd (x5 != 0) (
    K x5 w) (
    K n w)
def an185 : List An := [
  .reg ⟨[], .done, []⟩,
  .reg ⟨[], .done, []⟩,
  .reg ⟨[], .done, []⟩,
  .nop,
  .reg ⟨[], .done, []⟩,
  .reg ⟨[], .done, []⟩]
theorem tree_Tree_above_185_of (t : Option Addr) (n : Int) (w : World) (K : Tup [.one (.int .i64)] → World → Prop) (hF_ : F185 t n w K) : tree_Tree_above_185 t n w K :=
  call_of_F (l := an185) (args := [Ty.mk (.one .ptr) t, Ty.mk (.one (.int .i64)) n]) follows tabOk Tryz.func185 (by kernel_rfl) (by kernel_rfl) (by kernel_rfl) hF_

/-- slices.Reverse[[]int,int] -/
def F187 (p0 : Sl) (w : World) (K : Tup [] → World → Prop) : Prop :=
  loopP (σ := Tup [.one (.int .i64), .one (.int .i64)]) (fun again1 s2 w3 =>
    cnd (decide (s2.1 < s2.2)) (
      idxP s2.2 p0.len (
        onSome p0.a fun A4 =>
        ldP (.int .i64) (A4.add (Int.toNat s2.2 * 1)) w3.drew fun x5 =>
        idxP s2.1 p0.len (
          onSome p0.a fun A6 =>
          ldP (.int .i64) (A6.add (Int.toNat s2.1 * 1)) w3.drew fun x7 =>
          idxP s2.1 p0.len (
            onSome p0.a fun A8 =>
            stP (A8.add (Int.toNat s2.1 * 1)) (.int .i64 x5) w3.drew fun w9 =>
            idxP s2.2 p0.len (
              onSome p0.a fun A10 =>
              stP (A10.add (Int.toNat s2.2 * 1)) (.int .i64 x7) w9 fun w11 =>
              again1 ((w64 (s2.1 + 1)), (w64 (s2.2 - 1))) w11))))) (
      K () w3)) (0, (w64 ((p0.len : Int) - 1))) w
def an187 : List An := [
  .reg ⟨[], .done, []⟩,
  .nop,
  .nop,
  .loop [(2, .one (.int .i64)), (3, .one (.int .i64))] [7, 8, 9, 10, 11, 12, 13, 14, 15, 16, 17, 18, 19, 20, 21, 22, 23, 24, 25, 26, 27],
  .reg ⟨[], .done, []⟩,
  .nop,
  .nop,
  .reg ⟨[], (.nop 0 0 (.nop 1 0 (.nop 2 0 (.nop 3 0 (.nop 4 0 (.nop 5 0 (.nop 6 48 (.nop 7 112 (.nop 8 0 (.nop 9 0 (.nop 10 768 (.nop 11 1792 (.nop 12 4083 (.bar 13 8179 (.nop 14 16383 (.bar 15 32767 .done .none)) .none)))))))))))))), []⟩,
  .reg ⟨[], .done, []⟩]
theorem slices_Reverse_187_of (p0 : Sl) (w : World) (K : Tup [] → World → Prop) (hF_ : F187 p0 w K) : slices_Reverse_187 p0 w K :=
  call_of_F (l := an187) (args := [Ty.mk (.one .slice) p0]) follows tabOk Tryz.func187 (by kernel_rfl) (by kernel_rfl) (by kernel_rfl) hF_

/-- slices.insertionSortCmpFunc[purlin/api.Node] -/
def F188 (p0 : Sl) (data : Int) (a : Int) (b : Value) (w : World) (K : Tup [] → World → Prop) : Prop :=
  loopP (σ := Tup [.one (.int .i64)]) (fun again1 s2 w3 =>
    cnd (decide (s2 < a)) (
      loopP (σ := Tup [.one (.int .i64)]) (fun again4 s5 w6 =>
        joinP (σ := Tup [.one .bool]) (fun J7 =>
          cnd (decide (s5 > data)) (
            idxP s5 p0.len (
              onSome p0.a fun A10 =>
              ldA [.str, .int .i64, .int .i64, .int .i64, .slice] (A10.add (Int.toNat s5 * 5)) w6.drew fun c11 =>
              idxP (w64 (s5 - 1)) p0.len (
                onSome p0.a fun A12 =>
                ldA [.str, .int .i64, .int .i64, .int .i64, .slice] (A12.add (Int.toNat (w64 (s5 - 1)) * 5)) w6.drew fun c13 =>
                callV Tryz.prog b #[(.agg #[(.string c11.1), (.int .i64 c11.2.1), (.int .i64 c11.2.2.1), (.int .i64 c11.2.2.2.1), (.slice c11.2.2.2.2.a c11.2.2.2.2.len c11.2.2.2.2.cap)]), (.agg #[(.string c13.1), (.int .i64 c13.2.1), (.int .i64 c13.2.2.1), (.int .i64 c13.2.2.2.1), (.slice c13.2.2.2.2.a c13.2.2.2.2.len c13.2.2.2.2.cap)])] [.one (.int .i64)] w6.drew fun r14 w15 =>
                J7 (decide (r14 < 0)) w15))) (
            J7 false w6.drew)) (fun s8 w9 =>
        cnd s8 (
          idxP (w64 (s5 - 1)) p0.len (
            onSome p0.a fun A16 =>
            ldA [.str, .int .i64, .int .i64, .int .i64, .slice] (A16.add (Int.toNat (w64 (s5 - 1)) * 5)) w9.drew fun c17 =>
            idxP s5 p0.len (
              onSome p0.a fun A18 =>
              ldA [.str, .int .i64, .int .i64, .int .i64, .slice] (A18.add (Int.toNat s5 * 5)) w9.drew fun c19 =>
              idxP s5 p0.len (
                onSome p0.a fun A20 =>
                stN (A20.add (Int.toNat s5 * 5)) [(.string c17.1), (.int .i64 c17.2.1), (.int .i64 c17.2.2.1), (.int .i64 c17.2.2.2.1), (.slice c17.2.2.2.2.a c17.2.2.2.2.len c17.2.2.2.2.cap)] w9.drew fun w21 =>
                idxP (w64 (s5 - 1)) p0.len (
                  onSome p0.a fun A22 =>
                  stN (A22.add (Int.toNat (w64 (s5 - 1)) * 5)) [(.string c19.1), (.int .i64 c19.2.1), (.int .i64 c19.2.2.1), (.int .i64 c19.2.2.2.1), (.slice c19.2.2.2.2.a c19.2.2.2.2.len c19.2.2.2.2.cap)] w21 fun w23 =>
                  again4 (w64 (s5 - 1)) w23))))) (
          again1 (w64 (s2 + 1)) w9))) s2 w3) (
      K () w3)) (w64 (data + 1)) w
def an188 : List An := [
  .reg ⟨[], .done, []⟩,
  .nop,
  .nop,
  .loop [(8, .one (.int .i64))] [9, 12, 13, 14, 15, 16, 17, 18, 19, 20, 21, 22, 23, 24, 25, 26, 27, 28, 29, 30, 31, 32, 33, 34, 35, 36, 37, 38, 39, 40, 41, 42, 43, 44, 45, 46, 47, 48, 49, 50, 51, 52],
  .reg ⟨[], .done, []⟩,
  .nop,
  .nop,
  .reg ⟨[], .done, []⟩,
  .nop,
  .nop,
  .loop [(9, .one (.int .i64))] [18, 19, 20, 21, 22, 23, 24, 25, 26, 27, 28, 29, 30, 31, 32, 33, 34, 35, 36, 37, 38, 39, 40, 41, 42, 43, 44, 45, 46, 47, 48, 49, 50, 51, 52],
  .join [(34, .one .bool)] [18, 19, 20, 21, 22, 23, 24, 25, 26, 27, 28, 29, 30, 31, 32, 33],
  .reg ⟨[(14, [.one (.int .i64)])], (.nop 0 0 (.nop 1 0 (.nop 2 3 (.nop 3 7 (.nop 4 15 (.nop 5 15 (.nop 6 15 (.nop 7 111 (.nop 8 239 (.nop 9 15 (.nop 10 15 (.nop 11 1039 (.nop 12 3599 (.nop 13 7695 (.bar 14 16383 (.nop 15 32767 (.nop 16 65535 .done)) .none))))))))))))))), []⟩,
  .nop,
  .nop,
  .reg ⟨[], (.nop 0 0 (.nop 1 0 (.nop 2 0 (.nop 3 0 (.nop 4 8 (.nop 5 0 (.nop 6 0 (.nop 7 64 (.nop 8 224 (.nop 9 480 (.nop 10 0 (.nop 11 0 (.nop 12 3072 (.nop 13 7168 (.nop 14 16355 (.bar 15 32739 (.nop 16 65535 (.bar 17 131071 .done .none)) .none)))))))))))))))), []⟩,
  .reg ⟨[], .done, []⟩,
  .reg ⟨[], .done, []⟩]
theorem slices_insertionSortCmpFunc_188_of (p0 : Sl) (data : Int) (a : Int) (b : Value) (w : World) (K : Tup [] → World → Prop) (hF_ : F188 p0 data a b w K) : slices_insertionSortCmpFunc_188 p0 data a b w K :=
  call_of_F (l := an188) (args := [Ty.mk (.one .slice) p0, Ty.mk (.one (.int .i64)) data, Ty.mk (.one (.int .i64)) a, Ty.mk (.one .any) b]) follows tabOk Tryz.func188 (by kernel_rfl) (by kernel_rfl) (by kernel_rfl) hF_

/-- slices.heapSortCmpFunc[purlin/api.Node] -/
def F189 (p0 : Sl) (data : Int) (a : Int) (b : Value) (w : World) (K : Tup [] → World → Prop) : Prop :=
  (2 : Int) ≠ 0 ∧
  loopP (σ := Tup [.one (.int .i64)]) (fun again1 s2 w3 =>
    cnd (decide (s2 ≥ 0)) (
      slices_siftDownCmpFunc_218 p0 s2 (w64 (a - data)) data b w3 fun _r4 w5 =>
      again1 (w64 (s2 - 1)) w5) (
      loopP (σ := Tup [.one (.int .i64)]) (fun again6 s7 w8 =>
        cnd (decide (s7 ≥ 0)) (
          idxP (w64 (data + s7)) p0.len (
            onSome p0.a fun A9 =>
            ldA [.str, .int .i64, .int .i64, .int .i64, .slice] (A9.add (Int.toNat (w64 (data + s7)) * 5)) w8.drew fun c10 =>
            idxP data p0.len (
              onSome p0.a fun A11 =>
              ldA [.str, .int .i64, .int .i64, .int .i64, .slice] (A11.add (Int.toNat data * 5)) w8.drew fun c12 =>
              idxP data p0.len (
                onSome p0.a fun A13 =>
                stN (A13.add (Int.toNat data * 5)) [(.string c10.1), (.int .i64 c10.2.1), (.int .i64 c10.2.2.1), (.int .i64 c10.2.2.2.1), (.slice c10.2.2.2.2.a c10.2.2.2.2.len c10.2.2.2.2.cap)] w8.drew fun w14 =>
                idxP (w64 (data + s7)) p0.len (
                  onSome p0.a fun A15 =>
                  stN (A15.add (Int.toNat (w64 (data + s7)) * 5)) [(.string c12.1), (.int .i64 c12.2.1), (.int .i64 c12.2.2.1), (.int .i64 c12.2.2.2.1), (.slice c12.2.2.2.2.a c12.2.2.2.2.len c12.2.2.2.2.cap)] w14 fun w16 =>
                  slices_siftDownCmpFunc_218 p0 0 s7 data b w16 fun _r17 w18 =>
                  again6 (w64 (s7 - 1)) w18))))) (
          K () w8)) (w64 ((w64 (a - data)) - 1)) w3)) (w64 (Int.tdiv (w64 ((w64 (a - data)) - 1)) 2)) w
def an189 : List An := [
  .reg ⟨[], .done, []⟩,
  .reg ⟨[], .done, []⟩,
  .reg ⟨[], .done, []⟩,
  .reg ⟨[], .done, []⟩,
  .nop,
  .nop,
  .loop [(11, .one (.int .i64))] [20, 21, 22, 23, 24, 25, 26, 27, 28, 29],
  .reg ⟨[], .done, []⟩,
  .nop,
  .nop,
  .reg ⟨[(5, [])], .done, []⟩,
  .reg ⟨[], .done, []⟩,
  .reg ⟨[], .done, []⟩,
  .nop,
  .nop,
  .loop [(12, .one (.int .i64))] [32, 33, 34, 35, 36, 37, 38, 39, 40, 41, 42, 43, 44, 45, 46, 47, 48, 49, 50, 51, 52, 53, 54, 55, 56, 57, 58, 59],
  .reg ⟨[], .done, []⟩,
  .nop,
  .nop,
  .reg ⟨[], (.nop 0 0 (.nop 1 0 (.nop 2 0 (.nop 3 0 (.nop 4 0 (.nop 5 24 (.nop 6 0 (.nop 7 0 (.nop 8 0 (.nop 9 384 (.nop 10 960 (.nop 11 1984 (.nop 12 0 (.nop 13 0 (.nop 14 12288 (.nop 15 28672 (.nop 16 65475 (.bar 17 131011 (.nop 18 262143 (.bar 19 524287 .done .none)) .none)))))))))))))))))), []⟩,
  .reg ⟨[(5, [])], .done, []⟩,
  .reg ⟨[], .done, []⟩]
theorem slices_heapSortCmpFunc_189_of (p0 : Sl) (data : Int) (a : Int) (b : Value) (w : World) (K : Tup [] → World → Prop) (hF_ : F189 p0 data a b w K) : slices_heapSortCmpFunc_189 p0 data a b w K :=
  call_of_F (l := an189) (args := [Ty.mk (.one .slice) p0, Ty.mk (.one (.int .i64)) data, Ty.mk (.one (.int .i64)) a, Ty.mk (.one .any) b]) follows tabOk Tryz.func189 (by kernel_rfl) (by kernel_rfl) (by kernel_rfl) hF_

/-- slices.breakPatternsCmpFunc[purlin/api.Node] -/
def F190 (p0 : Sl) (data : Int) (a : Int) (_b : Value) (w : World) (K : Tup [] → World → Prop) : Prop :=
  cnd (decide ((w64 (a - data)) ≥ 8)) (
    newP (.cells #[(.int .u64 0)] 266) w fun b1 w2 =>
    stP ⟨b1, 0, none⟩ (.int .u64 (IntKind.wrap .u64 ((w64 (a - data))))) w2 fun w3 =>
    slices_nextPowerOfTwo_219 (w64 (a - data)) w3 fun r4 w5 =>
    (4 : Int) ≠ 0 ∧
    loopP (σ := Tup [.one (.int .i64)]) (fun again6 s7 w8 =>
      (4 : Int) ≠ 0 ∧
      cnd (decide (s7 ≤ (w64 ((w64 (data + (w64 ((w64 (Int.tdiv (w64 (a - data)) 4)) * 2)))) + 1)))) (
        slices_xorshift_Next_220 (some ⟨b1, 0, none⟩) w8 fun r9 w10 =>
        joinP (σ := Tup [.one (.int .i64)]) (fun J11 =>
          cnd (decide ((w64 ((andI .u64 r9 (IntKind.wrap .u64 (r4 - 1))))) ≥ (w64 (a - data)))) (
            J11 (w64 ((w64 ((andI .u64 r9 (IntKind.wrap .u64 (r4 - 1))))) - (w64 (a - data)))) w10) (
            J11 (w64 ((andI .u64 r9 (IntKind.wrap .u64 (r4 - 1))))) w10)) (fun s12 w13 =>
        idxP (w64 (data + s12)) p0.len (
          onSome p0.a fun A14 =>
          ldA [.str, .int .i64, .int .i64, .int .i64, .slice] (A14.add (Int.toNat (w64 (data + s12)) * 5)) w13.drew fun c15 =>
          idxP s7 p0.len (
            onSome p0.a fun A16 =>
            ldA [.str, .int .i64, .int .i64, .int .i64, .slice] (A16.add (Int.toNat s7 * 5)) w13.drew fun c17 =>
            idxP s7 p0.len (
              onSome p0.a fun A18 =>
              stN (A18.add (Int.toNat s7 * 5)) [(.string c15.1), (.int .i64 c15.2.1), (.int .i64 c15.2.2.1), (.int .i64 c15.2.2.2.1), (.slice c15.2.2.2.2.a c15.2.2.2.2.len c15.2.2.2.2.cap)] w13.drew fun w19 =>
              idxP (w64 (data + s12)) p0.len (
                onSome p0.a fun A20 =>
                stN (A20.add (Int.toNat (w64 (data + s12)) * 5)) [(.string c17.1), (.int .i64 c17.2.1), (.int .i64 c17.2.2.1), (.int .i64 c17.2.2.2.1), (.slice c17.2.2.2.2.a c17.2.2.2.2.len c17.2.2.2.2.cap)] w19 fun w21 =>
                again6 (w64 (s7 + 1)) w21)))))) (
        K () w8)) (w64 ((w64 (data + (w64 ((w64 (Int.tdiv (w64 (a - data)) 4)) * 2)))) - 1)) w5) (
    K () w)
def an190 : List An := [
  .reg ⟨[], .done, []⟩,
  .reg ⟨[], .done, []⟩,
  .nop,
  .reg ⟨[], .done, []⟩,
  .reg ⟨[(1, [.one (.int .u64)])], .done, []⟩,
  .reg ⟨[], .done, []⟩,
  .nop,
  .nop,
  .loop [(11, .one (.int .i64))] [12, 28, 29, 30, 31, 32, 33, 34, 35, 36, 37, 38, 39, 40, 41, 42, 43, 44, 45, 46, 47, 48, 49, 50, 51, 52, 53, 54, 55, 56, 57, 58, 59, 60, 61, 62, 63, 64, 65, 66],
  .reg ⟨[], .done, []⟩,
  .nop,
  .nop,
  .reg ⟨[(0, [.one (.int .u64)])], .done, []⟩,
  .reg ⟨[], .done, []⟩,
  .join [(12, .one (.int .i64))] [46, 47, 48],
  .reg ⟨[], .done, []⟩,
  .reg ⟨[], (.nop 0 0 (.nop 1 0 (.nop 2 0 (.nop 3 0 (.nop 4 0 (.nop 5 24 (.nop 6 0 (.nop 7 0 (.nop 8 0 (.nop 9 384 (.nop 10 960 (.nop 11 1984 (.nop 12 0 (.nop 13 0 (.nop 14 12288 (.nop 15 28672 (.nop 16 65475 (.bar 17 131011 (.nop 18 262143 (.bar 19 524287 .done .none)) .none)))))))))))))))))), []⟩,
  .reg ⟨[], .done, []⟩]
theorem slices_breakPatternsCmpFunc_190_of (p0 : Sl) (data : Int) (a : Int) (b : Value) (w : World) (K : Tup [] → World → Prop) (hF_ : F190 p0 data a b w K) : slices_breakPatternsCmpFunc_190 p0 data a b w K :=
  call_of_F (l := an190) (args := [Ty.mk (.one .slice) p0, Ty.mk (.one (.int .i64)) data, Ty.mk (.one (.int .i64)) a, Ty.mk (.one .any) b]) follows tabOk Tryz.func190 (by kernel_rfl) (by kernel_rfl) (by kernel_rfl) hF_

end Go.Proofs.YtcpoglgnkedpaaaGreatDoor

/-
  What the functions' bodies ask (printed by vcgen.py).
-/
namespace Go.Proofs.YtcpoglgnkedpaaaGreatDoor
open Go Go.Vc Go.Proofs


/-- (*purlin/tree.Tree).seek -/
def F75 (t : Option Addr) (o : Carr [.int .i64, .int .i64, .int .i64, .int .i64, .int .i64, .str, .str, .slice]) (w : World) (K : Tup [.agg [.int .i64, .int .i64, .int .i64, .int .i64, .slice, .slice]] → World → Prop) : Prop :=
  newP (.cells #[(.int .i64 o.1), (.int .i64 o.2.1), (.int .i64 o.2.2.1), (.int .i64 o.2.2.2.1), (.int .i64 o.2.2.2.2.1), (.string o.2.2.2.2.2.1), (.string o.2.2.2.2.2.2.1), (.slice o.2.2.2.2.2.2.2.a o.2.2.2.2.2.2.2.len o.2.2.2.2.2.2.2.cap)] 28) w fun b1 w2 =>
  newP (.cells #[(.int .i64 0), (.int .i64 0), (.int .i64 0), (.int .i64 0), (.slice none 0 0), (.slice none 0 0)] 43) w2 fun b3 w4 =>
  ldP (.int .i64) ⟨b1, 1, none⟩ w4 fun x5 =>
  tree_Tree_file_135 t x5 false w4 fun r6 w7 =>
  newP (.cells #[(.int .i64 0), (.int .i64 0), (.int .i64 0)] 140) w7 fun b8 w9 =>
  stN ⟨b8, 0, none⟩ [(.int .i64 r6.1.1), (.int .i64 r6.1.2.1), (.int .i64 r6.1.2.2)] w9 fun w10 =>
  cnd (r6.2.2 != 0) (
    tree_code_70 r6.2.2 w10 fun r11 w12 =>
    stN ⟨b3, 0, none⟩ [(.int .i64 r11.1), (.int .i64 r11.2.1), (.int .i64 r11.2.2.1), (.int .i64 r11.2.2.2.1), (.slice r11.2.2.2.2.1.a r11.2.2.2.2.1.len r11.2.2.2.2.1.cap), (.slice r11.2.2.2.2.2.a r11.2.2.2.2.2.len r11.2.2.2.2.2.cap)] w12 fun w13 =>
    ldA [.int .i64, .int .i64, .int .i64, .int .i64, .slice, .slice] ⟨b3, 0, none⟩ w13 fun c14 =>
    K (c14.1, c14.2.1, c14.2.2.1, c14.2.2.2.1, c14.2.2.2.2.1, c14.2.2.2.2.2) w13) (
    ldP (.int .i64) ⟨b1, 2, none⟩ w10 fun x15 =>
    joinP (σ := Tup [.one (.int .i64)]) (fun J16 =>
      joinP (σ := Tup [.one (.int .i64)]) (fun J19 =>
        cnd (x15 == 0) (
          J19 0 w10) (
          joinP (σ := Tup [.one (.int .i64)]) (fun J22 =>
            cnd (x15 == 1) (
              ldP (.int .i64) ⟨b8, 1, none⟩ w10 fun x25 =>
              J22 x25 w10) (
              cnd (x15 == 2) (
                onSome r6.2.1 fun A26 =>
                ldP (.slice) (A26.add 1) w10 fun x27 =>
                J22 (x27.len : Int) w10) (
                tree_code_70 2 w10 fun r28 w29 =>
                stN ⟨b3, 0, none⟩ [(.int .i64 r28.1), (.int .i64 r28.2.1), (.int .i64 r28.2.2.1), (.int .i64 r28.2.2.2.1), (.slice r28.2.2.2.2.1.a r28.2.2.2.2.1.len r28.2.2.2.2.1.cap), (.slice r28.2.2.2.2.2.a r28.2.2.2.2.2.len r28.2.2.2.2.2.cap)] w29 fun w30 =>
                ldA [.int .i64, .int .i64, .int .i64, .int .i64, .slice, .slice] ⟨b3, 0, none⟩ w30 fun c31 =>
                K (c31.1, c31.2.1, c31.2.2.1, c31.2.2.2.1, c31.2.2.2.2.1, c31.2.2.2.2.2) w30))) (fun s23 w24 =>
          J19 s23 w24))) (fun s20 w21 =>
      J16 s20 w21)) (fun s17 w18 =>
    joinP (σ := Tup [.one .bool]) (fun J32 =>
      ldP (.int .i64) ⟨b1, 3, none⟩ w18 fun x35 =>
      cnd (decide (x35 < (w64 (0 - s17)))) (
        J32 true w18) (
        ldP (.int .i64) ⟨b1, 3, none⟩ w18 fun x36 =>
        J32 (decide (x36 > (w64 (1099511627776 - s17)))) w18)) (fun s33 w34 =>
    cnd s33 (
      tree_code_70 2 w34 fun r37 w38 =>
      stN ⟨b3, 0, none⟩ [(.int .i64 r37.1), (.int .i64 r37.2.1), (.int .i64 r37.2.2.1), (.int .i64 r37.2.2.2.1), (.slice r37.2.2.2.2.1.a r37.2.2.2.2.1.len r37.2.2.2.2.1.cap), (.slice r37.2.2.2.2.2.a r37.2.2.2.2.2.len r37.2.2.2.2.2.cap)] w38 fun w39 =>
      ldA [.int .i64, .int .i64, .int .i64, .int .i64, .slice, .slice] ⟨b3, 0, none⟩ w39 fun c40 =>
      K (c40.1, c40.2.1, c40.2.2.1, c40.2.2.2.1, c40.2.2.2.2.1, c40.2.2.2.2.2) w39) (
      onSome t fun A41 =>
      ldP (.ptr) (A41.add 2) w34.drew fun x42 =>
      ldP (.int .i64) ⟨b1, 1, none⟩ w34.drew fun x43 =>
      ldP (.int .i64) ⟨b1, 3, none⟩ w34.drew fun x44 =>
      table_Table_Move_136 x42 x43 (w64 (s17 + x44)) w34.drew fun _r45 w46 =>
      ldP (.int .i64) ⟨b1, 3, none⟩ w46 fun x47 =>
      stN ⟨b3, 0, none⟩ [(.int .i64 0), (.int .i64 (w64 (s17 + x47))), (.int .i64 0), (.int .i64 0), (.slice none 0 0), (.slice none 0 0)] w46 fun w48 =>
      ldA [.int .i64, .int .i64, .int .i64, .int .i64, .slice, .slice] ⟨b3, 0, none⟩ w48 fun c49 =>
      K (c49.1, c49.2.1, c49.2.2.1, c49.2.2.2.1, c49.2.2.2.2.1, c49.2.2.2.2.2) w48))))
def an75 : List An := [
  .reg ⟨[], .done, []⟩,
  .reg ⟨[(3, [.agg [.int .i64, .int .i64, .int .i64], .one .ptr, .one (.int .i64)])], .done, []⟩,
  .reg ⟨[], .done, []⟩,
  .nop,
  .reg ⟨[(1, [.agg [.int .i64, .int .i64, .int .i64, .int .i64, .slice, .slice]])], .done, []⟩,
  .reg ⟨[], .done, []⟩,
  .reg ⟨[], .done, []⟩,
  .join [(8, .one (.int .i64))] [23, 24, 25, 26, 27, 28, 29, 30, 31, 32, 33, 34, 35, 36],
  .reg ⟨[], .done, []⟩,
  .join [(8, .one (.int .i64))] [23, 26, 27, 28, 29, 30, 31, 32, 33, 34, 35, 36],
  .reg ⟨[], .done, []⟩,
  .join [(8, .one (.int .i64))] [23, 28, 29, 30, 31, 32, 33, 34, 35, 36],
  .reg ⟨[], .done, []⟩,
  .reg ⟨[], .done, []⟩,
  .nop,
  .reg ⟨[], .done, []⟩,
  .reg ⟨[(0, [.agg [.int .i64, .int .i64, .int .i64, .int .i64, .slice, .slice]])], .done, []⟩,
  .join [(48, .one .bool)] [37, 38, 39, 40, 41, 42, 43, 44, 45, 46, 47],
  .reg ⟨[], .done, []⟩,
  .nop,
  .reg ⟨[(0, [.agg [.int .i64, .int .i64, .int .i64, .int .i64, .slice, .slice]])], .done, []⟩,
  .reg ⟨[(10, [.one (.int .i64)])], (.nop 0 0 (.nop 1 1 (.nop 2 3 (.nop 3 7 (.nop 4 0 (.nop 5 16 (.nop 6 0 (.nop 7 0 (.nop 8 128 (.nop 9 448 (.bar 10 1023 .done .none))))))))))), []⟩,
  .reg ⟨[], .done, []⟩]
theorem tree_Tree_seek_75_of (t : Option Addr) (o : Carr [.int .i64, .int .i64, .int .i64, .int .i64, .int .i64, .str, .str, .slice]) (w : World) (K : Tup [.agg [.int .i64, .int .i64, .int .i64, .int .i64, .slice, .slice]] → World → Prop) (hF_ : F75 t o w K) : tree_Tree_seek_75 t o w K :=
  call_of_F (l := an75) (args := [Ty.mk (.one .ptr) t, Ty.mk (.agg [.int .i64, .int .i64, .int .i64, .int .i64, .int .i64, .str, .str, .slice]) o]) follows tabOk Tryz.func75 (by kernel_rfl) (by kernel_rfl) (by kernel_rfl) hF_

/-- (*purlin/tree.Tree).trunc -/
def F76 (t : Option Addr) (o : Carr [.int .i64, .int .i64, .int .i64, .int .i64, .int .i64, .str, .str, .slice]) (w : World) (K : Tup [.agg [.int .i64, .int .i64, .int .i64, .int .i64, .slice, .slice]] → World → Prop) : Prop :=
  newP (.cells #[(.int .i64 o.1), (.int .i64 o.2.1), (.int .i64 o.2.2.1), (.int .i64 o.2.2.2.1), (.int .i64 o.2.2.2.2.1), (.string o.2.2.2.2.2.1), (.string o.2.2.2.2.2.2.1), (.slice o.2.2.2.2.2.2.2.a o.2.2.2.2.2.2.2.len o.2.2.2.2.2.2.2.cap)] 28) w fun b1 w2 =>
  newP (.cells #[(.int .i64 0), (.int .i64 0), (.int .i64 0), (.int .i64 0), (.slice none 0 0), (.slice none 0 0)] 43) w2 fun b3 w4 =>
  ldP (.int .i64) ⟨b1, 1, none⟩ w4 fun x5 =>
  tree_Tree_file_135 t x5 true w4 fun r6 w7 =>
  newP (.cells #[(.int .i64 0), (.int .i64 0), (.int .i64 0)] 140) w7 fun b8 w9 =>
  stN ⟨b8, 0, none⟩ [(.int .i64 r6.1.1), (.int .i64 r6.1.2.1), (.int .i64 r6.1.2.2)] w9 fun w10 =>
  cnd (r6.2.2 != 0) (
    tree_code_70 r6.2.2 w10 fun r11 w12 =>
    stN ⟨b3, 0, none⟩ [(.int .i64 r11.1), (.int .i64 r11.2.1), (.int .i64 r11.2.2.1), (.int .i64 r11.2.2.2.1), (.slice r11.2.2.2.2.1.a r11.2.2.2.2.1.len r11.2.2.2.2.1.cap), (.slice r11.2.2.2.2.2.a r11.2.2.2.2.2.len r11.2.2.2.2.2.cap)] w12 fun w13 =>
    ldA [.int .i64, .int .i64, .int .i64, .int .i64, .slice, .slice] ⟨b3, 0, none⟩ w13 fun c14 =>
    K (c14.1, c14.2.1, c14.2.2.1, c14.2.2.2.1, c14.2.2.2.2.1, c14.2.2.2.2.2) w13) (
    ldP (.int .i64) ⟨b1, 3, none⟩ w10 fun x15 =>
    cnd (decide (x15 < 0)) (
      tree_code_70 2 w10 fun r16 w17 =>
      stN ⟨b3, 0, none⟩ [(.int .i64 r16.1), (.int .i64 r16.2.1), (.int .i64 r16.2.2.1), (.int .i64 r16.2.2.2.1), (.slice r16.2.2.2.2.1.a r16.2.2.2.2.1.len r16.2.2.2.2.1.cap), (.slice r16.2.2.2.2.2.a r16.2.2.2.2.2.len r16.2.2.2.2.2.cap)] w17 fun w18 =>
      ldA [.int .i64, .int .i64, .int .i64, .int .i64, .slice, .slice] ⟨b3, 0, none⟩ w18 fun c19 =>
      K (c19.1, c19.2.1, c19.2.2.1, c19.2.2.2.1, c19.2.2.2.2.1, c19.2.2.2.2.2) w18) (
      ldP (.int .i64) ⟨b1, 3, none⟩ w10 fun x20 =>
      cnd (decide (x20 > 20736)) (
        tree_code_70 15 w10 fun r21 w22 =>
        stN ⟨b3, 0, none⟩ [(.int .i64 r21.1), (.int .i64 r21.2.1), (.int .i64 r21.2.2.1), (.int .i64 r21.2.2.2.1), (.slice r21.2.2.2.2.1.a r21.2.2.2.2.1.len r21.2.2.2.2.1.cap), (.slice r21.2.2.2.2.2.a r21.2.2.2.2.2.len r21.2.2.2.2.2.cap)] w22 fun w23 =>
        ldA [.int .i64, .int .i64, .int .i64, .int .i64, .slice, .slice] ⟨b3, 0, none⟩ w23 fun c24 =>
        K (c24.1, c24.2.1, c24.2.2.1, c24.2.2.2.1, c24.2.2.2.2.1, c24.2.2.2.2.2) w23) (
        ldP (.int .i64) ⟨b8, 0, none⟩ w10 fun x25 =>
        ldP (.int .i64) ⟨b1, 3, none⟩ w10 fun x26 =>
        tree_Tree_resize_131 t x25 x26 w10 fun _r27 w28 =>
        stN ⟨b3, 0, none⟩ [(.int .i64 0), (.int .i64 0), (.int .i64 0), (.int .i64 0), (.slice none 0 0), (.slice none 0 0)] w28 fun w29 =>
        ldA [.int .i64, .int .i64, .int .i64, .int .i64, .slice, .slice] ⟨b3, 0, none⟩ w29 fun c30 =>
        K (c30.1, c30.2.1, c30.2.2.1, c30.2.2.2.1, c30.2.2.2.2.1, c30.2.2.2.2.2) w29)))
def an76 : List An := [
  .reg ⟨[], .done, []⟩,
  .reg ⟨[(3, [.agg [.int .i64, .int .i64, .int .i64], .one .ptr, .one (.int .i64)])], .done, []⟩,
  .nop,
  .reg ⟨[], .done, []⟩,
  .nop,
  .reg ⟨[(1, [.agg [.int .i64, .int .i64, .int .i64, .int .i64, .slice, .slice]])], .done, []⟩,
  .reg ⟨[], .done, []⟩,
  .nop,
  .reg ⟨[(0, [.agg [.int .i64, .int .i64, .int .i64, .int .i64, .slice, .slice]])], .done, []⟩,
  .reg ⟨[], .done, []⟩,
  .nop,
  .reg ⟨[(0, [.agg [.int .i64, .int .i64, .int .i64, .int .i64, .slice, .slice]])], .done, []⟩,
  .reg ⟨[(5, [])], .done, []⟩,
  .reg ⟨[], .done, []⟩]
theorem tree_Tree_trunc_76_of (t : Option Addr) (o : Carr [.int .i64, .int .i64, .int .i64, .int .i64, .int .i64, .str, .str, .slice]) (w : World) (K : Tup [.agg [.int .i64, .int .i64, .int .i64, .int .i64, .slice, .slice]] → World → Prop) (hF_ : F76 t o w K) : tree_Tree_trunc_76 t o w K :=
  call_of_F (l := an76) (args := [Ty.mk (.one .ptr) t, Ty.mk (.agg [.int .i64, .int .i64, .int .i64, .int .i64, .int .i64, .str, .str, .slice]) o]) follows tabOk Tryz.func76 (by kernel_rfl) (by kernel_rfl) (by kernel_rfl) hF_

/-- (*purlin/tree.Tree).fresh -/
def F77 (t : Option Addr) (p : ByteArray) (w : World) (K : Tup [.agg [.int .i64, .int .i64, .str], .one (.int .i64)] → World → Prop) : Prop :=
  newP (.cells #[(.int .i64 0), (.int .i64 0), (.string (⟨#[]⟩ : ByteArray))] 151) w fun b1 w2 =>
  tree_Tree_place_129 t p w2 fun r3 w4 =>
  newP (.cells #[(.int .i64 0), (.int .i64 0), (.string (⟨#[]⟩ : ByteArray))] 151) w4 fun b5 w6 =>
  stN ⟨b5, 0, none⟩ [(.int .i64 r3.1.1), (.int .i64 r3.1.2.1), (.string r3.1.2.2)] w6 fun w7 =>
  cnd (r3.2 != 0) (
    stN ⟨b1, 0, none⟩ [(.int .i64 0), (.int .i64 0), (.string (⟨#[]⟩ : ByteArray))] w7 fun w8 =>
    ldA [.int .i64, .int .i64, .str] ⟨b1, 0, none⟩ w8 fun c9 =>
    K ((c9.1, c9.2.1, c9.2.2), r3.2) w8) (
    ldP (.int .i64) ⟨b5, 0, none⟩ w7 fun x10 =>
    cnd (x10 != 0) (
      stN ⟨b1, 0, none⟩ [(.int .i64 0), (.int .i64 0), (.string (⟨#[]⟩ : ByteArray))] w7 fun w11 =>
      ldA [.int .i64, .int .i64, .str] ⟨b1, 0, none⟩ w11 fun c12 =>
      K ((c12.1, c12.2.1, c12.2.2), 6) w11) (
      ldA [.int .i64, .int .i64, .str] ⟨b5, 0, none⟩ w7 fun c13 =>
      stN ⟨b1, 0, none⟩ [(.int .i64 c13.1), (.int .i64 c13.2.1), (.string c13.2.2)] w7 fun w14 =>
      ldA [.int .i64, .int .i64, .str] ⟨b1, 0, none⟩ w14 fun c15 =>
      K ((c15.1, c15.2.1, c15.2.2), 0) w14))
def an77 : List An := [
  .reg ⟨[], .done, []⟩,
  .reg ⟨[(2, [.agg [.int .i64, .int .i64, .str], .one (.int .i64)])], .done, []⟩,
  .nop,
  .reg ⟨[], .done, []⟩,
  .nop,
  .reg ⟨[], .done, []⟩,
  .reg ⟨[], .done, []⟩,
  .nop,
  .reg ⟨[], .done, []⟩,
  .reg ⟨[], .done, []⟩]
theorem tree_Tree_fresh_77_of (t : Option Addr) (p : ByteArray) (w : World) (K : Tup [.agg [.int .i64, .int .i64, .str], .one (.int .i64)] → World → Prop) (hF_ : F77 t p w K) : tree_Tree_fresh_77 t p w K :=
  call_of_F (l := an77) (args := [Ty.mk (.one .ptr) t, Ty.mk (.one .str) p]) follows tabOk Tryz.func77 (by kernel_rfl) (by kernel_rfl) (by kernel_rfl) hF_

/-- (*purlin/tree.Tree).make -/
def F78 (t : Option Addr) (s : Carr [.int .i64, .int .i64, .str]) (kind : Int) (data : ByteArray) (w : World) (K : Tup [.one (.int .i64)] → World → Prop) : Prop :=
  newP (.cells #[(.int .i64 s.1), (.int .i64 s.2.1), (.string s.2.2)] 151) w fun b1 w2 =>
  onSome t fun A3 =>
  ldP (.int .i64) (A3.add 1) w2 fun x4 =>
  onSome t fun A5 =>
  stP (A5.add 1) (.int .i64 (w64 (x4 + 1))) w2 fun w6 =>
  newP (.cells #[(.int .i64 kind), (.slice none 0 0), (.slice none 0 0), (.map none), (.int .i64 0), (.int .i64 0), (.int .i64 0)] 126) w6 fun b7 w8 =>
  joinP (σ := Tup []) (fun J9 =>
    joinP (σ := Tup []) (fun J12 =>
      cnd (kind == 2) (
        newP (.map #[] 0) w8 fun b15 w16 =>
        stP ⟨b7, 3, none⟩ (.map (some b15)) w16 fun w17 =>
        J12 () w17) (
        joinP (σ := Tup []) (fun J18 =>
          cnd (kind == 3) (
            runP Tryz.prog (convert 9 22 (.string data)) [.one .slice] w8 fun c21 w22 =>
            stP ⟨b7, 1, none⟩ (.slice c21.a c21.len c21.cap) w22 fun w23 =>
            J18 () w23) (
            J18 () w8)) (fun _s19 w20 =>
        J12 () w20))) (fun _s13 w14 =>
    J9 () w14)) (fun _s10 w11 =>
  onSome t fun A24 =>
  ldP (.map) A24 w11.drew fun x25 =>
  onSome t fun A26 =>
  ldP (.int .i64) (A26.add 1) w11.drew fun x27 =>
  runU Tryz.prog (Instr.mapUpdate 127 (.map x25) (.int .i64 x27) (.pointer (some ⟨b7, 0, none⟩))) w11.drew fun w28 =>
  ldP (.int .i64) ⟨b1, 1, none⟩ w28.drew fun x29 =>
  ldP (.str) ⟨b1, 2, none⟩ w28.drew fun x30 =>
  onSome t fun A31 =>
  ldP (.int .i64) (A31.add 1) w28.drew fun x32 =>
  tree_Tree_add_137 t x29 x30 x32 w28.drew fun _r33 w34 =>
  onSome t fun A35 =>
  ldP (.int .i64) (A35.add 1) w34 fun x36 =>
  K x36 w34)
def an78 : List An := [
  .reg ⟨[], .done, []⟩,
  .reg ⟨[], .done, []⟩,
  .reg ⟨[], .done, []⟩,
  .reg ⟨[], .done, []⟩,
  .join [] [21, 22, 23, 24, 25, 26, 27, 28, 29, 30, 31, 32, 33],
  .reg ⟨[], .done, []⟩,
  .join [] [23, 24, 25, 26, 27, 28, 29, 30, 31, 32, 33],
  .reg ⟨[], .done, []⟩,
  .reg ⟨[], .done, []⟩,
  .join [] [29, 30, 31, 32, 33],
  .reg ⟨[], .done, []⟩,
  .reg ⟨[], (.nop 0 0 (.nop 1 1 (.nop 2 3 (.nop 3 7 (.nop 4 0 (.nop 5 16 (.nop 6 48 (.nop 7 112 (.nop 8 0 (.bar 9 511 .done .none)))))))))), []⟩,
  .reg ⟨[(9, [])], (.nop 0 0 (.nop 1 0 (.nop 2 2 (.nop 3 0 (.nop 4 8 (.nop 5 0 (.nop 6 32 (.nop 7 96 (.nop 8 224 (.bar 9 511 .done .none)))))))))), []⟩,
  .reg ⟨[], .done, []⟩]
theorem tree_Tree_make_78_of (t : Option Addr) (s : Carr [.int .i64, .int .i64, .str]) (kind : Int) (data : ByteArray) (w : World) (K : Tup [.one (.int .i64)] → World → Prop) (hF_ : F78 t s kind data w K) : tree_Tree_make_78 t s kind data w K :=
  call_of_F (l := an78) (args := [Ty.mk (.one .ptr) t, Ty.mk (.agg [.int .i64, .int .i64, .str]) s, Ty.mk (.one (.int .i64)) kind, Ty.mk (.one .str) data]) follows tabOk Tryz.func78 (by kernel_rfl) (by kernel_rfl) (by kernel_rfl) hF_

/-- (*purlin/tree.Tree).remove -/
def F79 (t : Option Addr) (o : Carr [.int .i64, .int .i64, .int .i64, .int .i64, .int .i64, .str, .str, .slice]) (w : World) (K : Tup [.agg [.int .i64, .int .i64, .int .i64, .int .i64, .slice, .slice]] → World → Prop) : Prop :=
  newP (.cells #[(.int .i64 o.1), (.int .i64 o.2.1), (.int .i64 o.2.2.1), (.int .i64 o.2.2.2.1), (.int .i64 o.2.2.2.2.1), (.string o.2.2.2.2.2.1), (.string o.2.2.2.2.2.2.1), (.slice o.2.2.2.2.2.2.2.a o.2.2.2.2.2.2.2.len o.2.2.2.2.2.2.2.cap)] 28) w fun b1 w2 =>
  newP (.cells #[(.int .i64 0), (.int .i64 0), (.int .i64 0), (.int .i64 0), (.slice none 0 0), (.slice none 0 0)] 43) w2 fun b3 w4 =>
  ldP (.str) ⟨b1, 5, none⟩ w4 fun x5 =>
  tree_Tree_place_129 t x5 w4 fun r6 w7 =>
  newP (.cells #[(.int .i64 0), (.int .i64 0), (.string (⟨#[]⟩ : ByteArray))] 151) w7 fun b8 w9 =>
  stN ⟨b8, 0, none⟩ [(.int .i64 r6.1.1), (.int .i64 r6.1.2.1), (.string r6.1.2.2)] w9 fun w10 =>
  cnd (r6.2 != 0) (
    tree_code_70 r6.2 w10 fun r11 w12 =>
    stN ⟨b3, 0, none⟩ [(.int .i64 r11.1), (.int .i64 r11.2.1), (.int .i64 r11.2.2.1), (.int .i64 r11.2.2.2.1), (.slice r11.2.2.2.2.1.a r11.2.2.2.2.1.len r11.2.2.2.2.1.cap), (.slice r11.2.2.2.2.2.a r11.2.2.2.2.2.len r11.2.2.2.2.2.cap)] w12 fun w13 =>
    ldA [.int .i64, .int .i64, .int .i64, .int .i64, .slice, .slice] ⟨b3, 0, none⟩ w13 fun c14 =>
    K (c14.1, c14.2.1, c14.2.2.1, c14.2.2.2.1, c14.2.2.2.2.1, c14.2.2.2.2.2) w13) (
    ldP (.int .i64) ⟨b8, 0, none⟩ w10 fun x15 =>
    cnd (x15 == 0) (
      tree_code_70 5 w10 fun r16 w17 =>
      stN ⟨b3, 0, none⟩ [(.int .i64 r16.1), (.int .i64 r16.2.1), (.int .i64 r16.2.2.1), (.int .i64 r16.2.2.2.1), (.slice r16.2.2.2.2.1.a r16.2.2.2.2.1.len r16.2.2.2.2.1.cap), (.slice r16.2.2.2.2.2.a r16.2.2.2.2.2.len r16.2.2.2.2.2.cap)] w17 fun w18 =>
      ldA [.int .i64, .int .i64, .int .i64, .int .i64, .slice, .slice] ⟨b3, 0, none⟩ w18 fun c19 =>
      K (c19.1, c19.2.1, c19.2.2.1, c19.2.2.2.1, c19.2.2.2.2.1, c19.2.2.2.2.2) w18) (
      onSome t fun A20 =>
      ldP (.map) A20 w10.drew fun x21 =>
      ldP (.int .i64) ⟨b8, 0, none⟩ w10.drew fun x22 =>
      rdP Tryz.prog (Instr.lookup 127 (.map x21) (.int .i64 x22) false) [.one .ptr] w10.drew fun c23 =>
      joinP (σ := Tup [.one .bool]) (fun J24 =>
        ldP (.int .i64) ⟨b1, 0, none⟩ w10.drew fun x27 =>
        cnd (x27 == 10) (
          onSome c23 fun A28 =>
          ldP (.int .i64) A28 w10.drew fun x29 =>
          J24 (x29 != 2) w10.drew) (
          J24 false w10.drew)) (fun s25 w26 =>
      cnd s25 (
        tree_code_70 7 w26 fun r30 w31 =>
        stN ⟨b3, 0, none⟩ [(.int .i64 r30.1), (.int .i64 r30.2.1), (.int .i64 r30.2.2.1), (.int .i64 r30.2.2.2.1), (.slice r30.2.2.2.2.1.a r30.2.2.2.2.1.len r30.2.2.2.2.1.cap), (.slice r30.2.2.2.2.2.a r30.2.2.2.2.2.len r30.2.2.2.2.2.cap)] w31 fun w32 =>
        ldA [.int .i64, .int .i64, .int .i64, .int .i64, .slice, .slice] ⟨b3, 0, none⟩ w32 fun c33 =>
        K (c33.1, c33.2.1, c33.2.2.1, c33.2.2.2.1, c33.2.2.2.2.1, c33.2.2.2.2.2) w32) (
        joinP (σ := Tup [.one .bool]) (fun J34 =>
          ldP (.int .i64) ⟨b1, 0, none⟩ w26 fun x37 =>
          cnd (x37 == 10) (
            onSome c23 fun A38 =>
            ldP (.map) (A38.add 3) w26 fun x39 =>
            rdP Tryz.prog (Builtin.len_ #[66] 3 #[(.map x39)]) [.one (.int .i64)] w26 fun c40 =>
            J34 (decide (c40 > 0)) w26) (
            J34 false w26)) (fun s35 w36 =>
        cnd s35 (
          tree_code_70 9 w36 fun r41 w42 =>
          stN ⟨b3, 0, none⟩ [(.int .i64 r41.1), (.int .i64 r41.2.1), (.int .i64 r41.2.2.1), (.int .i64 r41.2.2.2.1), (.slice r41.2.2.2.2.1.a r41.2.2.2.2.1.len r41.2.2.2.2.1.cap), (.slice r41.2.2.2.2.2.a r41.2.2.2.2.2.len r41.2.2.2.2.2.cap)] w42 fun w43 =>
          ldA [.int .i64, .int .i64, .int .i64, .int .i64, .slice, .slice] ⟨b3, 0, none⟩ w43 fun c44 =>
          K (c44.1, c44.2.1, c44.2.2.1, c44.2.2.2.1, c44.2.2.2.2.1, c44.2.2.2.2.2) w43) (
          ldP (.int .i64) ⟨b1, 0, none⟩ w36 fun x45 =>
          cnd (x45 == 11) (
            onSome c23 fun A46 =>
            ldP (.int .i64) A46 w36 fun x47 =>
            cnd (x47 == 2) (
              tree_code_70 8 w36 fun r48 w49 =>
              stN ⟨b3, 0, none⟩ [(.int .i64 r48.1), (.int .i64 r48.2.1), (.int .i64 r48.2.2.1), (.int .i64 r48.2.2.2.1), (.slice r48.2.2.2.2.1.a r48.2.2.2.2.1.len r48.2.2.2.2.1.cap), (.slice r48.2.2.2.2.2.a r48.2.2.2.2.2.len r48.2.2.2.2.2.cap)] w49 fun w50 =>
              ldA [.int .i64, .int .i64, .int .i64, .int .i64, .slice, .slice] ⟨b3, 0, none⟩ w50 fun c51 =>
              K (c51.1, c51.2.1, c51.2.2.1, c51.2.2.2.1, c51.2.2.2.2.1, c51.2.2.2.2.2) w50) (
              ldP (.int .i64) ⟨b8, 1, none⟩ w36 fun x52 =>
              ldP (.str) ⟨b8, 2, none⟩ w36 fun x53 =>
              tree_Tree_take_138 t x52 x53 w36 fun _r54 w55 =>
              stN ⟨b3, 0, none⟩ [(.int .i64 0), (.int .i64 0), (.int .i64 0), (.int .i64 0), (.slice none 0 0), (.slice none 0 0)] w55 fun w56 =>
              ldA [.int .i64, .int .i64, .int .i64, .int .i64, .slice, .slice] ⟨b3, 0, none⟩ w56 fun c57 =>
              K (c57.1, c57.2.1, c57.2.2.1, c57.2.2.2.1, c57.2.2.2.2.1, c57.2.2.2.2.2) w56)) (
            ldP (.int .i64) ⟨b8, 1, none⟩ w36 fun x58 =>
            ldP (.str) ⟨b8, 2, none⟩ w36 fun x59 =>
            tree_Tree_take_138 t x58 x59 w36 fun _r60 w61 =>
            stN ⟨b3, 0, none⟩ [(.int .i64 0), (.int .i64 0), (.int .i64 0), (.int .i64 0), (.slice none 0 0), (.slice none 0 0)] w61 fun w62 =>
            ldA [.int .i64, .int .i64, .int .i64, .int .i64, .slice, .slice] ⟨b3, 0, none⟩ w62 fun c63 =>
            K (c63.1, c63.2.1, c63.2.2.1, c63.2.2.2.1, c63.2.2.2.2.1, c63.2.2.2.2.2) w62)))))))
def an79 : List An := [
  .reg ⟨[], .done, []⟩,
  .reg ⟨[(3, [.agg [.int .i64, .int .i64, .str], .one (.int .i64)])], .done, []⟩,
  .reg ⟨[], .done, []⟩,
  .nop,
  .reg ⟨[(1, [.agg [.int .i64, .int .i64, .int .i64, .int .i64, .slice, .slice]])], .done, []⟩,
  .reg ⟨[], .done, []⟩,
  .nop,
  .reg ⟨[(0, [.agg [.int .i64, .int .i64, .int .i64, .int .i64, .slice, .slice]])], .done, []⟩,
  .reg ⟨[], (.nop 0 0 (.nop 1 1 (.nop 2 3 (.nop 3 7 (.nop 4 0 (.nop 5 16 (.nop 6 63 (.nop 7 127 .done)))))))), []⟩,
  .nop,
  .join [(30, .one .bool)] [31, 32, 33, 34, 35, 36, 37, 38, 39, 40],
  .reg ⟨[], .done, []⟩,
  .nop,
  .reg ⟨[(0, [.agg [.int .i64, .int .i64, .int .i64, .int .i64, .slice, .slice]])], .done, []⟩,
  .join [(42, .one .bool)] [43, 44, 45, 46, 47, 48, 49, 50, 51, 52, 53],
  .reg ⟨[], .done, []⟩,
  .nop,
  .reg ⟨[(0, [.agg [.int .i64, .int .i64, .int .i64, .int .i64, .slice, .slice]])], .done, []⟩,
  .reg ⟨[], .done, []⟩,
  .nop,
  .reg ⟨[(0, [.agg [.int .i64, .int .i64, .int .i64, .int .i64, .slice, .slice]])], .done, []⟩,
  .reg ⟨[(5, [])], .done, []⟩,
  .reg ⟨[], .done, []⟩]
theorem tree_Tree_remove_79_of (t : Option Addr) (o : Carr [.int .i64, .int .i64, .int .i64, .int .i64, .int .i64, .str, .str, .slice]) (w : World) (K : Tup [.agg [.int .i64, .int .i64, .int .i64, .int .i64, .slice, .slice]] → World → Prop) (hF_ : F79 t o w K) : tree_Tree_remove_79 t o w K :=
  call_of_F (l := an79) (args := [Ty.mk (.one .ptr) t, Ty.mk (.agg [.int .i64, .int .i64, .int .i64, .int .i64, .int .i64, .str, .str, .slice]) o]) follows tabOk Tryz.func79 (by kernel_rfl) (by kernel_rfl) (by kernel_rfl) hF_

/-- (*purlin/tree.Tree).link -/
def F80 (t : Option Addr) (o : Carr [.int .i64, .int .i64, .int .i64, .int .i64, .int .i64, .str, .str, .slice]) (w : World) (K : Tup [.agg [.int .i64, .int .i64, .int .i64, .int .i64, .slice, .slice]] → World → Prop) : Prop :=
  newP (.cells #[(.int .i64 o.1), (.int .i64 o.2.1), (.int .i64 o.2.2.1), (.int .i64 o.2.2.2.1), (.int .i64 o.2.2.2.2.1), (.string o.2.2.2.2.2.1), (.string o.2.2.2.2.2.2.1), (.slice o.2.2.2.2.2.2.2.a o.2.2.2.2.2.2.2.len o.2.2.2.2.2.2.2.cap)] 28) w fun b1 w2 =>
  newP (.cells #[(.int .i64 0), (.int .i64 0), (.int .i64 0), (.int .i64 0), (.slice none 0 0), (.slice none 0 0)] 43) w2 fun b3 w4 =>
  ldP (.str) ⟨b1, 5, none⟩ w4 fun x5 =>
  tree_Tree_find_91 t x5 false w4 fun r6 w7 =>
  newP (.cells #[(.int .i64 0), (.int .i64 0), (.string (⟨#[]⟩ : ByteArray))] 151) w7 fun b8 w9 =>
  stN ⟨b8, 0, none⟩ [(.int .i64 r6.1.1), (.int .i64 r6.1.2.1), (.string r6.1.2.2)] w9 fun w10 =>
  cnd (r6.2 != 0) (
    tree_code_70 r6.2 w10 fun r11 w12 =>
    stN ⟨b3, 0, none⟩ [(.int .i64 r11.1), (.int .i64 r11.2.1), (.int .i64 r11.2.2.1), (.int .i64 r11.2.2.2.1), (.slice r11.2.2.2.2.1.a r11.2.2.2.2.1.len r11.2.2.2.2.1.cap), (.slice r11.2.2.2.2.2.a r11.2.2.2.2.2.len r11.2.2.2.2.2.cap)] w12 fun w13 =>
    ldA [.int .i64, .int .i64, .int .i64, .int .i64, .slice, .slice] ⟨b3, 0, none⟩ w13 fun c14 =>
    K (c14.1, c14.2.1, c14.2.2.1, c14.2.2.2.1, c14.2.2.2.2.1, c14.2.2.2.2.2) w13) (
    onSome t fun A15 =>
    ldP (.map) A15 w10.drew fun x16 =>
    ldP (.int .i64) ⟨b8, 0, none⟩ w10.drew fun x17 =>
    rdP Tryz.prog (Instr.lookup 127 (.map x16) (.int .i64 x17) false) [.one .ptr] w10.drew fun c18 =>
    onSome c18 fun A19 =>
    ldP (.int .i64) A19 w10.drew fun x20 =>
    cnd (x20 == 2) (
      tree_code_70 16 w10.drew fun r21 w22 =>
      stN ⟨b3, 0, none⟩ [(.int .i64 r21.1), (.int .i64 r21.2.1), (.int .i64 r21.2.2.1), (.int .i64 r21.2.2.2.1), (.slice r21.2.2.2.2.1.a r21.2.2.2.2.1.len r21.2.2.2.2.1.cap), (.slice r21.2.2.2.2.2.a r21.2.2.2.2.2.len r21.2.2.2.2.2.cap)] w22 fun w23 =>
      ldA [.int .i64, .int .i64, .int .i64, .int .i64, .slice, .slice] ⟨b3, 0, none⟩ w23 fun c24 =>
      K (c24.1, c24.2.1, c24.2.2.1, c24.2.2.2.1, c24.2.2.2.2.1, c24.2.2.2.2.2) w23) (
      ldP (.str) ⟨b1, 6, none⟩ w10.drew fun x25 =>
      tree_Tree_fresh_77 t x25 w10.drew fun r26 w27 =>
      newP (.cells #[(.int .i64 0), (.int .i64 0), (.string (⟨#[]⟩ : ByteArray))] 151) w27 fun b28 w29 =>
      stN ⟨b28, 0, none⟩ [(.int .i64 r26.1.1), (.int .i64 r26.1.2.1), (.string r26.1.2.2)] w29 fun w30 =>
      cnd (r26.2 != 0) (
        tree_code_70 r26.2 w30 fun r31 w32 =>
        stN ⟨b3, 0, none⟩ [(.int .i64 r31.1), (.int .i64 r31.2.1), (.int .i64 r31.2.2.1), (.int .i64 r31.2.2.2.1), (.slice r31.2.2.2.2.1.a r31.2.2.2.2.1.len r31.2.2.2.2.1.cap), (.slice r31.2.2.2.2.2.a r31.2.2.2.2.2.len r31.2.2.2.2.2.cap)] w32 fun w33 =>
        ldA [.int .i64, .int .i64, .int .i64, .int .i64, .slice, .slice] ⟨b3, 0, none⟩ w33 fun c34 =>
        K (c34.1, c34.2.1, c34.2.2.1, c34.2.2.2.1, c34.2.2.2.2.1, c34.2.2.2.2.2) w33) (
        ldP (.int .i64) ⟨b28, 1, none⟩ w30 fun x35 =>
        ldP (.str) ⟨b28, 2, none⟩ w30 fun x36 =>
        ldP (.int .i64) ⟨b8, 0, none⟩ w30 fun x37 =>
        tree_Tree_add_137 t x35 x36 x37 w30 fun _r38 w39 =>
        stN ⟨b3, 0, none⟩ [(.int .i64 0), (.int .i64 0), (.int .i64 0), (.int .i64 0), (.slice none 0 0), (.slice none 0 0)] w39 fun w40 =>
        ldA [.int .i64, .int .i64, .int .i64, .int .i64, .slice, .slice] ⟨b3, 0, none⟩ w40 fun c41 =>
        K (c41.1, c41.2.1, c41.2.2.1, c41.2.2.2.1, c41.2.2.2.2.1, c41.2.2.2.2.2) w40)))
def an80 : List An := [
  .reg ⟨[], .done, []⟩,
  .reg ⟨[(3, [.agg [.int .i64, .int .i64, .str], .one (.int .i64)])], .done, []⟩,
  .nop,
  .reg ⟨[], .done, []⟩,
  .nop,
  .reg ⟨[(1, [.agg [.int .i64, .int .i64, .int .i64, .int .i64, .slice, .slice]])], .done, []⟩,
  .reg ⟨[], (.nop 0 0 (.nop 1 1 (.nop 2 3 (.nop 3 7 (.nop 4 0 (.nop 5 16 (.nop 6 63 (.nop 7 127 (.nop 8 255 (.nop 9 511 (.nop 10 1023 (.nop 11 2047 .done)))))))))))), []⟩,
  .nop,
  .reg ⟨[(0, [.agg [.int .i64, .int .i64, .int .i64, .int .i64, .slice, .slice]])], .done, []⟩,
  .reg ⟨[(3, [.agg [.int .i64, .int .i64, .str], .one (.int .i64)])], .done, []⟩,
  .reg ⟨[], .done, []⟩,
  .nop,
  .reg ⟨[(1, [.agg [.int .i64, .int .i64, .int .i64, .int .i64, .slice, .slice]])], .done, []⟩,
  .reg ⟨[(7, [])], .done, []⟩,
  .reg ⟨[], .done, []⟩]
theorem tree_Tree_link_80_of (t : Option Addr) (o : Carr [.int .i64, .int .i64, .int .i64, .int .i64, .int .i64, .str, .str, .slice]) (w : World) (K : Tup [.agg [.int .i64, .int .i64, .int .i64, .int .i64, .slice, .slice]] → World → Prop) (hF_ : F80 t o w K) : tree_Tree_link_80 t o w K :=
  call_of_F (l := an80) (args := [Ty.mk (.one .ptr) t, Ty.mk (.agg [.int .i64, .int .i64, .int .i64, .int .i64, .int .i64, .str, .str, .slice]) o]) follows tabOk Tryz.func80 (by kernel_rfl) (by kernel_rfl) (by kernel_rfl) hF_

/-- (*purlin/tree.Tree).symlink -/
def F81 (t : Option Addr) (o : Carr [.int .i64, .int .i64, .int .i64, .int .i64, .int .i64, .str, .str, .slice]) (w : World) (K : Tup [.agg [.int .i64, .int .i64, .int .i64, .int .i64, .slice, .slice]] → World → Prop) : Prop :=
  newP (.cells #[(.int .i64 o.1), (.int .i64 o.2.1), (.int .i64 o.2.2.1), (.int .i64 o.2.2.2.1), (.int .i64 o.2.2.2.2.1), (.string o.2.2.2.2.2.1), (.string o.2.2.2.2.2.2.1), (.slice o.2.2.2.2.2.2.2.a o.2.2.2.2.2.2.2.len o.2.2.2.2.2.2.2.cap)] 28) w fun b1 w2 =>
  newP (.cells #[(.int .i64 0), (.int .i64 0), (.int .i64 0), (.int .i64 0), (.slice none 0 0), (.slice none 0 0)] 43) w2 fun b3 w4 =>
  ldP (.str) ⟨b1, 5, none⟩ w4 fun x5 =>
  path_Target_139 x5 w4 fun r6 w7 =>
  cnd (r6.2.2 != 0) (
    tree_code_70 r6.2.2 w7 fun r8 w9 =>
    stN ⟨b3, 0, none⟩ [(.int .i64 r8.1), (.int .i64 r8.2.1), (.int .i64 r8.2.2.1), (.int .i64 r8.2.2.2.1), (.slice r8.2.2.2.2.1.a r8.2.2.2.2.1.len r8.2.2.2.2.1.cap), (.slice r8.2.2.2.2.2.a r8.2.2.2.2.2.len r8.2.2.2.2.2.cap)] w9 fun w10 =>
    ldA [.int .i64, .int .i64, .int .i64, .int .i64, .slice, .slice] ⟨b3, 0, none⟩ w10 fun c11 =>
    K (c11.1, c11.2.1, c11.2.2.1, c11.2.2.2.1, c11.2.2.2.2.1, c11.2.2.2.2.2) w10) (
    ldP (.str) ⟨b1, 6, none⟩ w7 fun x12 =>
    tree_Tree_fresh_77 t x12 w7 fun r13 w14 =>
    newP (.cells #[(.int .i64 0), (.int .i64 0), (.string (⟨#[]⟩ : ByteArray))] 151) w14 fun b15 w16 =>
    stN ⟨b15, 0, none⟩ [(.int .i64 r13.1.1), (.int .i64 r13.1.2.1), (.string r13.1.2.2)] w16 fun w17 =>
    cnd (r13.2 != 0) (
      tree_code_70 r13.2 w17 fun r18 w19 =>
      stN ⟨b3, 0, none⟩ [(.int .i64 r18.1), (.int .i64 r18.2.1), (.int .i64 r18.2.2.1), (.int .i64 r18.2.2.2.1), (.slice r18.2.2.2.2.1.a r18.2.2.2.2.1.len r18.2.2.2.2.1.cap), (.slice r18.2.2.2.2.2.a r18.2.2.2.2.2.len r18.2.2.2.2.2.cap)] w19 fun w20 =>
      ldA [.int .i64, .int .i64, .int .i64, .int .i64, .slice, .slice] ⟨b3, 0, none⟩ w20 fun c21 =>
      K (c21.1, c21.2.1, c21.2.2.1, c21.2.2.2.1, c21.2.2.2.2.1, c21.2.2.2.2.2) w20) (
      ldA [.int .i64, .int .i64, .str] ⟨b15, 0, none⟩ w17 fun c22 =>
      ldP (.str) ⟨b1, 5, none⟩ w17 fun x23 =>
      tree_Tree_make_78 t (c22.1, c22.2.1, c22.2.2) 3 x23 w17 fun _r24 w25 =>
      stN ⟨b3, 0, none⟩ [(.int .i64 0), (.int .i64 0), (.int .i64 0), (.int .i64 0), (.slice none 0 0), (.slice none 0 0)] w25 fun w26 =>
      ldA [.int .i64, .int .i64, .int .i64, .int .i64, .slice, .slice] ⟨b3, 0, none⟩ w26 fun c27 =>
      K (c27.1, c27.2.1, c27.2.2.1, c27.2.2.2.1, c27.2.2.2.2.1, c27.2.2.2.2.2) w26))
def an81 : List An := [
  .reg ⟨[], .done, []⟩,
  .reg ⟨[(2, [.one .slice, .one .bool, .one (.int .i64)])], .done, []⟩,
  .reg ⟨[], .done, []⟩,
  .nop,
  .reg ⟨[(1, [.agg [.int .i64, .int .i64, .int .i64, .int .i64, .slice, .slice]])], .done, []⟩,
  .reg ⟨[(3, [.agg [.int .i64, .int .i64, .str], .one (.int .i64)])], .done, []⟩,
  .reg ⟨[], .done, []⟩,
  .nop,
  .reg ⟨[(1, [.agg [.int .i64, .int .i64, .int .i64, .int .i64, .slice, .slice]])], .done, []⟩,
  .reg ⟨[(4, [.one (.int .i64)])], .done, []⟩,
  .reg ⟨[], .done, []⟩]
theorem tree_Tree_symlink_81_of (t : Option Addr) (o : Carr [.int .i64, .int .i64, .int .i64, .int .i64, .int .i64, .str, .str, .slice]) (w : World) (K : Tup [.agg [.int .i64, .int .i64, .int .i64, .int .i64, .slice, .slice]] → World → Prop) (hF_ : F81 t o w K) : tree_Tree_symlink_81 t o w K :=
  call_of_F (l := an81) (args := [Ty.mk (.one .ptr) t, Ty.mk (.agg [.int .i64, .int .i64, .int .i64, .int .i64, .int .i64, .str, .str, .slice]) o]) follows tabOk Tryz.func81 (by kernel_rfl) (by kernel_rfl) (by kernel_rfl) hF_

/-- (*purlin/tree.Tree).list -/
def F82 (t : Option Addr) (o : Carr [.int .i64, .int .i64, .int .i64, .int .i64, .int .i64, .str, .str, .slice]) (w : World) (K : Tup [.agg [.int .i64, .int .i64, .int .i64, .int .i64, .slice, .slice]] → World → Prop) : Prop :=
  newP (.cells #[(.int .i64 o.1), (.int .i64 o.2.1), (.int .i64 o.2.2.1), (.int .i64 o.2.2.2.1), (.int .i64 o.2.2.2.2.1), (.string o.2.2.2.2.2.1), (.string o.2.2.2.2.2.2.1), (.slice o.2.2.2.2.2.2.2.a o.2.2.2.2.2.2.2.len o.2.2.2.2.2.2.2.cap)] 28) w fun b1 w2 =>
  newP (.cells #[(.int .i64 0), (.int .i64 0), (.int .i64 0), (.int .i64 0), (.slice none 0 0), (.slice none 0 0)] 43) w2 fun b3 w4 =>
  ldP (.str) ⟨b1, 5, none⟩ w4 fun x5 =>
  ldP (.int .i64) ⟨b1, 0, none⟩ w4 fun x6 =>
  tree_Tree_find_91 t x5 (x6 == 18) w4 fun r7 w8 =>
  newP (.cells #[(.int .i64 0), (.int .i64 0), (.string (⟨#[]⟩ : ByteArray))] 151) w8 fun b9 w10 =>
  stN ⟨b9, 0, none⟩ [(.int .i64 r7.1.1), (.int .i64 r7.1.2.1), (.string r7.1.2.2)] w10 fun w11 =>
  cnd (r7.2 != 0) (
    tree_code_70 r7.2 w11 fun r12 w13 =>
    stN ⟨b3, 0, none⟩ [(.int .i64 r12.1), (.int .i64 r12.2.1), (.int .i64 r12.2.2.1), (.int .i64 r12.2.2.2.1), (.slice r12.2.2.2.2.1.a r12.2.2.2.2.1.len r12.2.2.2.2.1.cap), (.slice r12.2.2.2.2.2.a r12.2.2.2.2.2.len r12.2.2.2.2.2.cap)] w13 fun w14 =>
    ldA [.int .i64, .int .i64, .int .i64, .int .i64, .slice, .slice] ⟨b3, 0, none⟩ w14 fun c15 =>
    K (c15.1, c15.2.1, c15.2.2.1, c15.2.2.2.1, c15.2.2.2.2.1, c15.2.2.2.2.2) w14) (
    onSome t fun A16 =>
    ldP (.map) A16 w11.drew fun x17 =>
    ldP (.int .i64) ⟨b9, 0, none⟩ w11.drew fun x18 =>
    rdP Tryz.prog (Instr.lookup 127 (.map x17) (.int .i64 x18) false) [.one .ptr] w11.drew fun c19 =>
    joinP (σ := Tup [.one .bool]) (fun J20 =>
      ldP (.int .i64) ⟨b1, 0, none⟩ w11.drew fun x23 =>
      cnd (x23 == 18) (
        onSome c19 fun A24 =>
        ldP (.int .i64) A24 w11.drew fun x25 =>
        J20 (x25 != 2) w11.drew) (
        J20 false w11.drew)) (fun s21 w22 =>
    cnd s21 (
      tree_code_70 7 w22 fun r26 w27 =>
      stN ⟨b3, 0, none⟩ [(.int .i64 r26.1), (.int .i64 r26.2.1), (.int .i64 r26.2.2.1), (.int .i64 r26.2.2.2.1), (.slice r26.2.2.2.2.1.a r26.2.2.2.2.1.len r26.2.2.2.2.1.cap), (.slice r26.2.2.2.2.2.a r26.2.2.2.2.2.len r26.2.2.2.2.2.cap)] w27 fun w28 =>
      ldA [.int .i64, .int .i64, .int .i64, .int .i64, .slice, .slice] ⟨b3, 0, none⟩ w28 fun c29 =>
      K (c29.1, c29.2.1, c29.2.2.1, c29.2.2.2.1, c29.2.2.2.2.1, c29.2.2.2.2.2) w28) (
      ldP (.int .i64) ⟨b1, 0, none⟩ w22 fun x30 =>
      cnd (x30 == 18) (
        onSome c19 fun A31 =>
        ldP (.map) (A31.add 3) w22 fun x32 =>
        maps_Keys_141 x32 w22 fun r33 w34 =>
        slices_Sorted_140 r33 w34 fun r35 w36 =>
        stN ⟨b3, 0, none⟩ [(.int .i64 0), (.int .i64 0), (.int .i64 0), (.int .i64 0), (.slice none 0 0), (.slice r35.a r35.len r35.cap)] w36 fun w37 =>
        ldA [.int .i64, .int .i64, .int .i64, .int .i64, .slice, .slice] ⟨b3, 0, none⟩ w37 fun c38 =>
        K (c38.1, c38.2.1, c38.2.2.1, c38.2.2.2.1, c38.2.2.2.2.1, c38.2.2.2.2.2) w37) (
        onSome c19 fun A39 =>
        ldP (.int .i64) A39 w22 fun x40 =>
        cnd (x40 != 3) (
          tree_code_70 2 w22 fun r41 w42 =>
          stN ⟨b3, 0, none⟩ [(.int .i64 r41.1), (.int .i64 r41.2.1), (.int .i64 r41.2.2.1), (.int .i64 r41.2.2.2.1), (.slice r41.2.2.2.2.1.a r41.2.2.2.2.1.len r41.2.2.2.2.1.cap), (.slice r41.2.2.2.2.2.a r41.2.2.2.2.2.len r41.2.2.2.2.2.cap)] w42 fun w43 =>
          ldA [.int .i64, .int .i64, .int .i64, .int .i64, .slice, .slice] ⟨b3, 0, none⟩ w43 fun c44 =>
          K (c44.1, c44.2.1, c44.2.2.1, c44.2.2.2.1, c44.2.2.2.2.1, c44.2.2.2.2.2) w43) (
          onSome c19 fun A45 =>
          ldP (.slice) (A45.add 1) w22 fun x46 =>
          slices_Clone_67 x46 w22 fun r47 w48 =>
          stN ⟨b3, 0, none⟩ [(.int .i64 0), (.int .i64 0), (.int .i64 0), (.int .i64 0), (.slice r47.a r47.len r47.cap), (.slice none 0 0)] w48 fun w49 =>
          ldA [.int .i64, .int .i64, .int .i64, .int .i64, .slice, .slice] ⟨b3, 0, none⟩ w49 fun c50 =>
          K (c50.1, c50.2.1, c50.2.2.1, c50.2.2.2.1, c50.2.2.2.2.1, c50.2.2.2.2.2) w49)))))
def an82 : List An := [
  .reg ⟨[], .done, []⟩,
  .reg ⟨[(6, [.agg [.int .i64, .int .i64, .str], .one (.int .i64)])], .done, []⟩,
  .reg ⟨[], .done, []⟩,
  .nop,
  .reg ⟨[(1, [.agg [.int .i64, .int .i64, .int .i64, .int .i64, .slice, .slice]])], .done, []⟩,
  .reg ⟨[], (.nop 0 0 (.nop 1 1 (.nop 2 3 (.nop 3 7 (.nop 4 0 (.nop 5 16 (.nop 6 63 (.nop 7 127 .done)))))))), []⟩,
  .nop,
  .join [(29, .one .bool)] [30, 31, 32, 33, 34, 35, 36, 37, 38, 39],
  .reg ⟨[], .done, []⟩,
  .nop,
  .reg ⟨[(0, [.agg [.int .i64, .int .i64, .int .i64, .int .i64, .slice, .slice]])], .done, []⟩,
  .reg ⟨[], .done, []⟩,
  .nop,
  .reg ⟨[(4, [.one .any]), (5, [.one .slice])], .done, []⟩,
  .reg ⟨[], .done, []⟩,
  .nop,
  .reg ⟨[(0, [.agg [.int .i64, .int .i64, .int .i64, .int .i64, .slice, .slice]])], .done, []⟩,
  .reg ⟨[(4, [.one .slice])], .done, []⟩]
theorem tree_Tree_list_82_of (t : Option Addr) (o : Carr [.int .i64, .int .i64, .int .i64, .int .i64, .int .i64, .str, .str, .slice]) (w : World) (K : Tup [.agg [.int .i64, .int .i64, .int .i64, .int .i64, .slice, .slice]] → World → Prop) (hF_ : F82 t o w K) : tree_Tree_list_82 t o w K :=
  call_of_F (l := an82) (args := [Ty.mk (.one .ptr) t, Ty.mk (.agg [.int .i64, .int .i64, .int .i64, .int .i64, .int .i64, .str, .str, .slice]) o]) follows tabOk Tryz.func82 (by kernel_rfl) (by kernel_rfl) (by kernel_rfl) hF_

end Go.Proofs.YtcpoglgnkedpaaaGreatDoor

/-
  What the functions' bodies ask (printed by vcgen.py).
-/
namespace Go.Proofs.YtcpoglgnkedpaaaGreatDoor
open Go Go.Vc Go.Proofs


/-- slices.ContainsFunc[[]purlin/table.slot,purlin/table.slot] -/
def F208 (p0 : Sl) (s : Value) (w : World) (K : Tup [.one .bool] → World → Prop) : Prop :=
  slices_IndexFunc_171 p0 s w fun r1 w2 =>
  K (decide (r1 ≥ 0)) w2
def an208 : List An := [
  .reg ⟨[], .done, []⟩,
  .reg ⟨[(2, [.one (.int .i64)])], .done, []⟩]
theorem slices_ContainsFunc_208_of (p0 : Sl) (s : Value) (w : World) (K : Tup [.one .bool] → World → Prop) (hF_ : F208 p0 s w K) : slices_ContainsFunc_208 p0 s w K :=
  call_of_F (l := an208) (args := [Ty.mk (.one .slice) p0, Ty.mk (.one .any) s]) follows tabOk Tryz.func208 (by kernel_rfl) (by kernel_rfl) (by kernel_rfl) hF_

/-- (*purlin/table.Table).Holds$1 -/
def F209 (s : Carr [.int .i64, .int .i64, .int .i64, .bool]) (p1 : Option Addr) (w : World) (K : Tup [.one .bool] → World → Prop) : Prop :=
  newP (.cells #[(.int .i64 s.1), (.int .i64 s.2.1), (.int .i64 s.2.2.1), (.bool s.2.2.2)] 142) w fun b1 w2 =>
  ldP (.bool) ⟨b1, 3, none⟩ w2 fun x3 =>
  cnd x3 (
    ldP (.int .i64) ⟨b1, 0, none⟩ w2 fun x4 =>
    onSome p1 fun A5 =>
    ldP (.int .i64) A5 w2 fun x6 =>
    K (x4 == x6) w2) (
    K false w2)
def an209 : List An := [
  .reg ⟨[], .done, []⟩,
  .reg ⟨[], .done, []⟩]
theorem table_Table_Holds_1_209_of (s : Carr [.int .i64, .int .i64, .int .i64, .bool]) (p1 : Option Addr) (w : World) (K : Tup [.one .bool] → World → Prop) (hF_ : F209 s p1 w K) : table_Table_Holds_1_209 s p1 w K :=
  call_of_F (l := an209) (args := [Ty.mk (.agg [.int .i64, .int .i64, .int .i64, .bool]) s, Ty.mk (.one .ptr) p1]) follows tabOk Tryz.func209 (by kernel_rfl) (by kernel_rfl) (by kernel_rfl) hF_

/-- strings.Index -/
def F210 (s : ByteArray) (substr : ByteArray) (w : World) (K : Tup [.one (.int .i64)] → World → Prop) : Prop :=
  stringslite_Index_227 s substr w fun r1 w2 =>
  K r1 w2
def an210 : List An := [
  .reg ⟨[], .done, []⟩,
  .reg ⟨[(2, [.one (.int .i64)])], .done, []⟩]
theorem strings_Index_210_of (s : ByteArray) (substr : ByteArray) (w : World) (K : Tup [.one (.int .i64)] → World → Prop) (hF_ : F210 s substr w K) : strings_Index_210 s substr w K :=
  call_of_F (l := an210) (args := [Ty.mk (.one .str) s, Ty.mk (.one .str) substr]) follows tabOk Tryz.func210 (by kernel_rfl) (by kernel_rfl) (by kernel_rfl) hF_

/-- strings.Split -/
def F211 (s : ByteArray) (sep : ByteArray) (w : World) (K : Tup [.one .slice] → World → Prop) : Prop :=
  strings_genSplit_228 s sep 0 (-1) w fun r1 w2 =>
  K r1 w2
def an211 : List An := [
  .reg ⟨[], .done, []⟩,
  .reg ⟨[(2, [.one .slice])], .done, []⟩]
theorem strings_Split_211_of (s : ByteArray) (sep : ByteArray) (w : World) (K : Tup [.one .slice] → World → Prop) (hF_ : F211 s sep w K) : strings_Split_211 s sep w K :=
  call_of_F (l := an211) (args := [Ty.mk (.one .str) s, Ty.mk (.one .str) sep]) follows tabOk Tryz.func211 (by kernel_rfl) (by kernel_rfl) (by kernel_rfl) hF_

/-- strings.Clone -/
def F212 (s : ByteArray) (w : World) (K : Tup [.one .str] → World → Prop) : Prop :=
  stringslite_Clone_229 s w fun r1 w2 =>
  K r1 w2
def an212 : List An := [
  .reg ⟨[], .done, []⟩,
  .reg ⟨[(1, [.one .str])], .done, []⟩]
theorem strings_Clone_212_of (s : ByteArray) (w : World) (K : Tup [.one .str] → World → Prop) (hF_ : F212 s w K) : strings_Clone_212 s w K :=
  call_of_F (l := an212) (args := [Ty.mk (.one .str) s]) follows tabOk Tryz.func212 (by kernel_rfl) (by kernel_rfl) (by kernel_rfl) hF_

/-- internal/stringslite.HasPrefix -/
def F213 (s : ByteArray) (prefix_ : ByteArray) (w : World) (K : Tup [.one .bool] → World → Prop) : Prop :=
  cnd (decide ((s.size : Int) ≥ (prefix_.size : Int))) (
    strP s 0 (some (prefix_.size : Int)) fun x1 =>
    K (x1.toList == prefix_.toList) w) (
    K false w)
def an213 : List An := [
  .reg ⟨[], .done, []⟩,
  .reg ⟨[], .done, []⟩]
theorem stringslite_HasPrefix_213_of (s : ByteArray) (prefix_ : ByteArray) (w : World) (K : Tup [.one .bool] → World → Prop) (hF_ : F213 s prefix_ w K) : stringslite_HasPrefix_213 s prefix_ w K :=
  call_of_F (l := an213) (args := [Ty.mk (.one .str) s, Ty.mk (.one .str) prefix_]) follows tabOk Tryz.func213 (by kernel_rfl) (by kernel_rfl) (by kernel_rfl) hF_

/-- slices.pdqsortOrdered[string] -/
def F215 (p0 : Sl) (data : Int) (a : Int) (b : Int) (w : World) (K : Tup [] → World → Prop) : Prop :=
  loopP (σ := Tup [.one (.int .i64), .one (.int .i64), .one (.int .i64), .one .bool, .one .bool]) (fun again1 s2 w3 =>
    cnd (decide ((w64 (s2.2.1 - s2.1)) ≤ 12)) (
      slices_insertionSortOrdered_230 p0 s2.1 s2.2.1 w3 fun _r4 w5 =>
      K () w5) (
      cnd (s2.2.2.1 == 0) (
        slices_heapSortOrdered_231 p0 s2.1 s2.2.1 w3 fun _r6 w7 =>
        K () w7) (
        joinP (σ := Tup [.one (.int .i64)]) (fun J8 =>
          cnd (!s2.2.2.2.1) (
            slices_breakPatternsOrdered_232 p0 s2.1 s2.2.1 w3 fun _r11 w12 =>
            J8 (w64 (s2.2.2.1 - 1)) w12) (
            J8 s2.2.2.1 w3)) (fun s9 w10 =>
        slices_choosePivotOrdered_233 p0 s2.1 s2.2.1 w10 fun r13 w14 =>
        joinP (σ := Tup [.one (.int .i64), .one (.int .i64)]) (fun J15 =>
          cnd (r13.2 == 2) (
            slices_reverseRangeOrdered_234 p0 s2.1 s2.2.1 w14 fun _r18 w19 =>
            J15 ((w64 ((w64 (s2.2.1 - 1)) - (w64 (r13.1 - s2.1)))), 1) w19) (
            J15 (r13.1, r13.2) w14)) (fun s16 w17 =>
        joinP (σ := Tup [.one .bool]) (fun J20 =>
          cnd s2.2.2.2.1 (
            cnd s2.2.2.2.2 (
              J20 (s16.2 == 1) w17) (
              J20 false w17)) (
            J20 false w17)) (fun s21 w22 =>
        joinP (σ := Tup []) (fun J23 =>
          cnd s21 (
            slices_partialInsertionSortOrdered_235 p0 s2.1 s2.2.1 w22 fun r26 w27 =>
            cnd r26 (
              K () w27) (
              J23 () w27)) (
            J23 () w22)) (fun _s24 w25 =>
        joinP (σ := Tup [.one .bool]) (fun J28 =>
          cnd (decide (s2.1 > 0)) (
            idxP (w64 (s2.1 - 1)) p0.len (
              onSome p0.a fun A31 =>
              ldP (.str) (A31.add (Int.toNat (w64 (s2.1 - 1)) * 1)) w25.drew fun x32 =>
              idxP s16.1 p0.len (
                onSome p0.a fun A33 =>
                ldP (.str) (A33.add (Int.toNat s16.1 * 1)) w25.drew fun x34 =>
                cmp_Less_236 x32 x34 w25.drew fun r35 w36 =>
                J28 (!r35) w36))) (
            J28 false w25.drew)) (fun s29 w30 =>
        cnd s29 (
          slices_partitionEqualOrdered_237 p0 s2.1 s2.2.1 s16.1 w30 fun r37 w38 =>
          again1 (r37, s2.2.1, s9, s2.2.2.2.1, s2.2.2.2.2) w38) (
          slices_partitionOrdered_238 p0 s2.1 s2.2.1 s16.1 w30 fun r39 w40 =>
          (8 : Int) ≠ 0 ∧
          cnd (decide ((w64 (r39.1 - s2.1)) < (w64 (s2.2.1 - r39.1)))) (
            slices_pdqsortOrdered_215 p0 s2.1 r39.1 s9 w40 fun _r41 w42 =>
            again1 ((w64 (r39.1 + 1)), s2.2.1, s9, (decide ((w64 (r39.1 - s2.1)) ≥ (w64 (Int.tdiv (w64 (s2.2.1 - s2.1)) 8)))), r39.2) w42) (
            slices_pdqsortOrdered_215 p0 (w64 (r39.1 + 1)) s2.2.1 s9 w40 fun _r43 w44 =>
            again1 (s2.1, r39.1, s9, (decide ((w64 (s2.2.1 - r39.1)) ≥ (w64 (Int.tdiv (w64 (s2.2.1 - s2.1)) 8)))), r39.2) w44)))))))))) (data, a, b, true, true) w
def an215 : List An := [
  .reg ⟨[], .done, []⟩,
  .reg ⟨[], .done, []⟩,
  .nop,
  .nop,
  .loop [(1, .one (.int .i64)), (2, .one (.int .i64)), (3, .one (.int .i64)), (8, .one .bool), (9, .one .bool)] [10, 11, 12, 13, 14, 15, 16, 17, 18, 19, 20, 21, 22, 23, 24, 25, 26, 27, 28, 29, 30, 31, 32, 33, 34, 35, 36, 37, 38, 39, 40, 41, 42, 43, 44, 45, 46, 47, 48, 49, 50, 51, 52, 53, 54, 55, 56, 57, 58, 59, 60, 61, 62, 63, 64, 65, 66, 67, 68, 69, 70, 71, 72, 73, 74, 75, 76, 77, 78, 79, 80, 81, 82, 83, 84, 85, 86, 87, 88, 89, 90, 91, 92, 93, 94, 95, 96, 97, 98, 99, 100, 101, 102, 103, 104, 105, 106, 107, 108, 109, 110, 111, 112, 113, 114, 115, 116, 117, 118, 119, 120, 121, 122, 123, 124, 125, 126, 127, 128, 129, 130, 131, 132, 133],
  .nop,
  .reg ⟨[], .done, []⟩,
  .reg ⟨[], .done, []⟩,
  .nop,
  .reg ⟨[(3, [])], .done, []⟩,
  .reg ⟨[], .done, []⟩,
  .nop,
  .reg ⟨[(3, [])], .done, []⟩,
  .reg ⟨[], .done, []⟩,
  .join [(3, .one (.int .i64))] [36, 37, 38, 39, 40, 41],
  .reg ⟨[(3, [])], .done, []⟩,
  .reg ⟨[], .done, []⟩,
  .reg ⟨[(3, [.one (.int .i64), .one (.int .i64)])], .done, []⟩,
  .reg ⟨[], .done, []⟩,
  .join [(11, .one (.int .i64)), (12, .one (.int .i64))] [51, 52, 53, 54, 55, 56, 57, 58, 59, 60],
  .reg ⟨[(3, [])], .done, []⟩,
  .reg ⟨[], .done, []⟩,
  .reg ⟨[], .done, []⟩,
  .join [(68, .one .bool)] [61, 62, 63, 64, 65, 66, 67],
  .reg ⟨[], .done, []⟩,
  .join [] [69, 70, 71, 72],
  .reg ⟨[(3, [.one .bool])], .done, []⟩,
  .nop,
  .join [(87, .one .bool)] [73, 74, 75, 76, 77, 78, 79, 80, 81, 82, 83, 84, 85, 86],
  .reg ⟨[(12, [.one .bool])], (.nop 0 0 (.nop 1 1 (.nop 2 3 (.nop 3 7 (.nop 4 7 (.nop 5 23 (.nop 6 63 (.nop 7 127 (.nop 8 7 (.nop 9 7 (.nop 10 775 (.nop 11 1799 (.bar 12 4095 (.nop 13 8191 (.nop 14 16383 .done)) .none))))))))))))), []⟩,
  .nop,
  .reg ⟨[(4, [.one (.int .i64)])], .done, []⟩,
  .reg ⟨[], .done, []⟩,
  .reg ⟨[(4, [.one (.int .i64), .one .bool])], .done, []⟩,
  .reg ⟨[], .done, []⟩,
  .reg ⟨[], .done, []⟩,
  .reg ⟨[], .done, []⟩,
  .reg ⟨[], .done, []⟩,
  .nop,
  .reg ⟨[], .done, []⟩,
  .reg ⟨[(4, [])], .done, []⟩,
  .reg ⟨[], .done, []⟩,
  .reg ⟨[], .done, []⟩,
  .reg ⟨[(5, [])], .done, []⟩,
  .reg ⟨[], .done, []⟩]
theorem slices_pdqsortOrdered_215_of (p0 : Sl) (data : Int) (a : Int) (b : Int) (w : World) (K : Tup [] → World → Prop) (hF_ : F215 p0 data a b w K) : slices_pdqsortOrdered_215 p0 data a b w K :=
  call_of_F (l := an215) (args := [Ty.mk (.one .slice) p0, Ty.mk (.one (.int .i64)) data, Ty.mk (.one (.int .i64)) a, Ty.mk (.one (.int .i64)) b]) follows tabOk Tryz.func215 (by kernel_rfl) (by kernel_rfl) (by kernel_rfl) hF_

/-- slices.siftDownCmpFunc[purlin/api.Node] -/
def F218 (p0 : Sl) (data : Int) (lo : Int) (hi : Int) (first : Value) (w : World) (K : Tup [] → World → Prop) : Prop :=
  loopP (σ := Tup [.one (.int .i64)]) (fun again1 s2 w3 =>
    cnd (decide ((w64 ((w64 (2 * s2)) + 1)) ≥ lo)) (
      K () w3) (
      joinP (σ := Tup [.one .bool]) (fun J4 =>
        cnd (decide ((w64 ((w64 ((w64 (2 * s2)) + 1)) + 1)) < lo)) (
          idxP (w64 (hi + (w64 ((w64 (2 * s2)) + 1)))) p0.len (
            onSome p0.a fun A7 =>
            ldA [.str, .int .i64, .int .i64, .int .i64, .slice] (A7.add (Int.toNat (w64 (hi + (w64 ((w64 (2 * s2)) + 1)))) * 5)) w3.drew fun c8 =>
            idxP (w64 ((w64 (hi + (w64 ((w64 (2 * s2)) + 1)))) + 1)) p0.len (
              onSome p0.a fun A9 =>
              ldA [.str, .int .i64, .int .i64, .int .i64, .slice] (A9.add (Int.toNat (w64 ((w64 (hi + (w64 ((w64 (2 * s2)) + 1)))) + 1)) * 5)) w3.drew fun c10 =>
              callV Tryz.prog first #[(.agg #[(.string c8.1), (.int .i64 c8.2.1), (.int .i64 c8.2.2.1), (.int .i64 c8.2.2.2.1), (.slice c8.2.2.2.2.a c8.2.2.2.2.len c8.2.2.2.2.cap)]), (.agg #[(.string c10.1), (.int .i64 c10.2.1), (.int .i64 c10.2.2.1), (.int .i64 c10.2.2.2.1), (.slice c10.2.2.2.2.a c10.2.2.2.2.len c10.2.2.2.2.cap)])] [.one (.int .i64)] w3.drew fun r11 w12 =>
              J4 (decide (r11 < 0)) w12))) (
          J4 false w3.drew)) (fun s5 w6 =>
      joinP (σ := Tup [.one (.int .i64)]) (fun J13 =>
        cnd s5 (
          J13 (w64 ((w64 ((w64 (2 * s2)) + 1)) + 1)) w6) (
          J13 (w64 ((w64 (2 * s2)) + 1)) w6)) (fun s14 w15 =>
      idxP (w64 (hi + s2)) p0.len (
        onSome p0.a fun A16 =>
        ldA [.str, .int .i64, .int .i64, .int .i64, .slice] (A16.add (Int.toNat (w64 (hi + s2)) * 5)) w15.drew fun c17 =>
        idxP (w64 (hi + s14)) p0.len (
          onSome p0.a fun A18 =>
          ldA [.str, .int .i64, .int .i64, .int .i64, .slice] (A18.add (Int.toNat (w64 (hi + s14)) * 5)) w15.drew fun c19 =>
          callV Tryz.prog first #[(.agg #[(.string c17.1), (.int .i64 c17.2.1), (.int .i64 c17.2.2.1), (.int .i64 c17.2.2.2.1), (.slice c17.2.2.2.2.a c17.2.2.2.2.len c17.2.2.2.2.cap)]), (.agg #[(.string c19.1), (.int .i64 c19.2.1), (.int .i64 c19.2.2.1), (.int .i64 c19.2.2.2.1), (.slice c19.2.2.2.2.a c19.2.2.2.2.len c19.2.2.2.2.cap)])] [.one (.int .i64)] w15.drew fun r20 w21 =>
          cnd (!(decide (r20 < 0))) (
            K () w21) (
            idxP (w64 (hi + s14)) p0.len (
              onSome p0.a fun A22 =>
              ldA [.str, .int .i64, .int .i64, .int .i64, .slice] (A22.add (Int.toNat (w64 (hi + s14)) * 5)) w21.drew fun c23 =>
              idxP (w64 (hi + s2)) p0.len (
                onSome p0.a fun A24 =>
                ldA [.str, .int .i64, .int .i64, .int .i64, .slice] (A24.add (Int.toNat (w64 (hi + s2)) * 5)) w21.drew fun c25 =>
                idxP (w64 (hi + s2)) p0.len (
                  onSome p0.a fun A26 =>
                  stN (A26.add (Int.toNat (w64 (hi + s2)) * 5)) [(.string c23.1), (.int .i64 c23.2.1), (.int .i64 c23.2.2.1), (.int .i64 c23.2.2.2.1), (.slice c23.2.2.2.2.a c23.2.2.2.2.len c23.2.2.2.2.cap)] w21.drew fun w27 =>
                  idxP (w64 (hi + s14)) p0.len (
                    onSome p0.a fun A28 =>
                    stN (A28.add (Int.toNat (w64 (hi + s14)) * 5)) [(.string c25.1), (.int .i64 c25.2.1), (.int .i64 c25.2.2.1), (.int .i64 c25.2.2.2.1), (.slice c25.2.2.2.2.a c25.2.2.2.2.len c25.2.2.2.2.cap)] w27 fun w29 =>
                    again1 s14 w29))))))))))) data w
def an218 : List An := [
  .reg ⟨[], .done, []⟩,
  .nop,
  .nop,
  .loop [(10, .one (.int .i64))] [11, 13, 14, 15, 16, 17, 18, 19, 20, 21, 22, 23, 24, 25, 26, 27, 28, 29, 30, 31, 32, 33, 34, 35, 36, 37, 38, 39, 40, 41, 42, 43, 44, 45, 46, 47, 48, 49, 50, 51, 52, 53, 54, 55, 56, 57, 58, 59, 60, 61, 62, 63, 64, 65, 66, 67, 68, 69, 70, 71, 72, 73, 74, 75, 76, 77, 78, 79, 80, 81],
  .nop,
  .reg ⟨[], .done, []⟩,
  .reg ⟨[], .done, []⟩,
  .nop,
  .join [(40, .one .bool)] [19, 20, 21, 22, 23, 24, 25, 26, 27, 28, 29, 30, 31, 32, 33, 34, 35, 36, 37, 38, 39],
  .reg ⟨[(19, [.one (.int .i64)])], (.nop 0 0 (.nop 1 1 (.nop 2 0 (.nop 3 7 (.nop 4 15 (.nop 5 31 (.nop 6 31 (.nop 7 31 (.nop 8 31 (.nop 9 415 (.nop 10 991 (.nop 11 2015 (.nop 12 31 (.nop 13 31 (.nop 14 31 (.nop 15 24607 (.nop 16 57375 (.nop 17 127007 (.nop 18 258079 (.bar 19 524287 (.nop 20 1048575 (.nop 21 2097151 .done)) .none)))))))))))))))))))), []⟩,
  .join [(11, .one (.int .i64))] [41, 42],
  .reg ⟨[], .done, []⟩,
  .reg ⟨[(13, [.one (.int .i64)])], (.nop 0 0 (.nop 1 0 (.nop 2 0 (.nop 3 0 (.nop 4 12 (.nop 5 30 (.nop 6 62 (.nop 7 0 (.nop 8 0 (.nop 9 0 (.nop 10 768 (.nop 11 1920 (.nop 12 3968 (.bar 13 8191 (.nop 14 16383 (.nop 15 32767 .done)) .none)))))))))))))), []⟩,
  .nop,
  .reg ⟨[], (.nop 0 0 (.nop 1 0 (.nop 2 0 (.nop 3 6 (.nop 4 0 (.nop 5 0 (.nop 6 0 (.nop 7 96 (.nop 8 0 (.nop 9 0 (.nop 10 0 (.nop 11 1536 (.nop 12 3840 (.nop 13 7936 (.nop 14 0 (.nop 15 0 (.nop 16 0 (.nop 17 98304 (.nop 18 245760 (.nop 19 507904 (.nop 20 1048335 (.bar 21 2096911 (.nop 22 4194303 (.bar 23 8388607 .done .none)) .none)))))))))))))))))))))), []⟩,
  .reg ⟨[], .done, []⟩]
theorem slices_siftDownCmpFunc_218_of (p0 : Sl) (data : Int) (lo : Int) (hi : Int) (first : Value) (w : World) (K : Tup [] → World → Prop) (hF_ : F218 p0 data lo hi first w K) : slices_siftDownCmpFunc_218 p0 data lo hi first w K :=
  call_of_F (l := an218) (args := [Ty.mk (.one .slice) p0, Ty.mk (.one (.int .i64)) data, Ty.mk (.one (.int .i64)) lo, Ty.mk (.one (.int .i64)) hi, Ty.mk (.one .any) first]) follows tabOk Tryz.func218 (by kernel_rfl) (by kernel_rfl) (by kernel_rfl) hF_

/-- slices.nextPowerOfTwo -/
def F219 (length : Int) (w : World) (K : Tup [.one (.int .u64)] → World → Prop) : Prop :=
  bits_Len_162 (IntKind.wrap .u64 (length)) w fun r1 w2 =>
  (0 : Int) ≤ r1 ∧
  K (IntKind.wrap .u64 (1 * 2 ^ (min (Int.toNat r1) 64))) w2
def an219 : List An := [
  .reg ⟨[], .done, []⟩,
  .reg ⟨[(2, [.one (.int .i64)])], .done, []⟩]
theorem slices_nextPowerOfTwo_219_of (length : Int) (w : World) (K : Tup [.one (.int .u64)] → World → Prop) (hF_ : F219 length w K) : slices_nextPowerOfTwo_219 length w K :=
  call_of_F (l := an219) (args := [Ty.mk (.one (.int .i64)) length]) follows tabOk Tryz.func219 (by kernel_rfl) (by kernel_rfl) (by kernel_rfl) hF_

/-- (*slices.xorshift).Next -/
def F220 (r : Option Addr) (w : World) (K : Tup [.one (.int .u64)] → World → Prop) : Prop :=
  onSome r fun A1 =>
  ldP (.int .u64) A1 w.drew fun x2 =>
  onSome r fun A3 =>
  ldP (.int .u64) A3 w.drew fun x4 =>
  (0 : Int) ≤ 13 ∧
  onSome r fun A5 =>
  stP A5 (.int .u64 (xorI .u64 x2 (IntKind.wrap .u64 (x4 * 2 ^ (min (Int.toNat 13) 64))))) w.drew fun w6 =>
  onSome r fun A7 =>
  ldP (.int .u64) A7 w6.drew fun x8 =>
  onSome r fun A9 =>
  ldP (.int .u64) A9 w6.drew fun x10 =>
  (0 : Int) ≤ 7 ∧
  onSome r fun A11 =>
  stP A11 (.int .u64 (xorI .u64 x8 (Int.fdiv x10 (2 ^ (min (Int.toNat 7) 64))))) w6.drew fun w12 =>
  onSome r fun A13 =>
  ldP (.int .u64) A13 w12.drew fun x14 =>
  onSome r fun A15 =>
  ldP (.int .u64) A15 w12.drew fun x16 =>
  (0 : Int) ≤ 17 ∧
  onSome r fun A17 =>
  stP A17 (.int .u64 (xorI .u64 x14 (IntKind.wrap .u64 (x16 * 2 ^ (min (Int.toNat 17) 64))))) w12.drew fun w18 =>
  onSome r fun A19 =>
  ldP (.int .u64) A19 w18 fun x20 =>
  K x20 w18
def an220 : List An := [
  .reg ⟨[], .done, []⟩,
  .reg ⟨[], (.nop 0 0 (.nop 1 1 (.nop 2 3 (.nop 3 0 (.nop 4 8 (.nop 5 24 (.nop 6 56 (.nop 7 127 (.nop 8 255 (.bar 9 511 .done .none)))))))))), []⟩,
  .reg ⟨[], (.nop 0 0 (.nop 1 1 (.nop 2 3 (.nop 3 0 (.nop 4 8 (.nop 5 24 (.nop 6 56 (.nop 7 127 (.nop 8 255 (.bar 9 511 .done .none)))))))))), []⟩,
  .reg ⟨[], (.nop 0 0 (.nop 1 1 (.nop 2 3 (.nop 3 0 (.nop 4 8 (.nop 5 24 (.nop 6 56 (.nop 7 127 (.nop 8 255 (.bar 9 511 .done .none)))))))))), []⟩,
  .reg ⟨[], .done, []⟩]
theorem slices_xorshift_Next_220_of (r : Option Addr) (w : World) (K : Tup [.one (.int .u64)] → World → Prop) (hF_ : F220 r w K) : slices_xorshift_Next_220 r w K :=
  call_of_F (l := an220) (args := [Ty.mk (.one .ptr) r]) follows tabOk Tryz.func220 (by kernel_rfl) (by kernel_rfl) (by kernel_rfl) hF_

/-- slices.medianAdjacentCmpFunc[purlin/api.Node] -/
def F221 (p0 : Sl) (data : Int) (a : Option Addr) (swaps : Value) (w : World) (K : Tup [.one (.int .i64)] → World → Prop) : Prop :=
  slices_medianCmpFunc_222 p0 (w64 (data - 1)) data (w64 (data + 1)) a swaps w fun r1 w2 =>
  K r1 w2
def an221 : List An := [
  .reg ⟨[], .done, []⟩,
  .reg ⟨[(8, [.one (.int .i64)])], .done, []⟩]
theorem slices_medianAdjacentCmpFunc_221_of (p0 : Sl) (data : Int) (a : Option Addr) (swaps : Value) (w : World) (K : Tup [.one (.int .i64)] → World → Prop) (hF_ : F221 p0 data a swaps w K) : slices_medianAdjacentCmpFunc_221 p0 data a swaps w K :=
  call_of_F (l := an221) (args := [Ty.mk (.one .slice) p0, Ty.mk (.one (.int .i64)) data, Ty.mk (.one .ptr) a, Ty.mk (.one .any) swaps]) follows tabOk Tryz.func221 (by kernel_rfl) (by kernel_rfl) (by kernel_rfl) hF_

/-- slices.medianCmpFunc[purlin/api.Node] -/
def F222 (p0 : Sl) (data : Int) (a : Int) (b : Int) (c : Option Addr) (swaps : Value) (w : World) (K : Tup [.one (.int .i64)] → World → Prop) : Prop :=
  slices_order2CmpFunc_242 p0 data a c swaps w fun r1 w2 =>
  slices_order2CmpFunc_242 p0 r1.2 b c swaps w2 fun r3 w4 =>
  slices_order2CmpFunc_242 p0 r1.1 r3.1 c swaps w4 fun r5 w6 =>
  K r5.2 w6
def an222 : List An := [
  .reg ⟨[], .done, []⟩,
  .reg ⟨[(5, [.one (.int .i64), .one (.int .i64)])], .done, []⟩,
  .reg ⟨[(5, [.one (.int .i64), .one (.int .i64)])], .done, []⟩,
  .reg ⟨[(5, [.one (.int .i64), .one (.int .i64)])], .done, []⟩,
  .reg ⟨[], .done, []⟩]
theorem slices_medianCmpFunc_222_of (p0 : Sl) (data : Int) (a : Int) (b : Int) (c : Option Addr) (swaps : Value) (w : World) (K : Tup [.one (.int .i64)] → World → Prop) (hF_ : F222 p0 data a b c swaps w K) : slices_medianCmpFunc_222 p0 data a b c swaps w K :=
  call_of_F (l := an222) (args := [Ty.mk (.one .slice) p0, Ty.mk (.one (.int .i64)) data, Ty.mk (.one (.int .i64)) a, Ty.mk (.one (.int .i64)) b, Ty.mk (.one .ptr) c, Ty.mk (.one .any) swaps]) follows tabOk Tryz.func222 (by kernel_rfl) (by kernel_rfl) (by kernel_rfl) hF_

/-- slices.siftDownOrdered[int] -/
def F223 (p0 : Sl) (data : Int) (lo : Int) (hi : Int) (w : World) (K : Tup [] → World → Prop) : Prop :=
  loopP (σ := Tup [.one (.int .i64)]) (fun again1 s2 w3 =>
    cnd (decide ((w64 ((w64 (2 * s2)) + 1)) ≥ lo)) (
      K () w3) (
      joinP (σ := Tup [.one .bool]) (fun J4 =>
        cnd (decide ((w64 ((w64 ((w64 (2 * s2)) + 1)) + 1)) < lo)) (
          idxP (w64 (hi + (w64 ((w64 (2 * s2)) + 1)))) p0.len (
            onSome p0.a fun A7 =>
            ldP (.int .i64) (A7.add (Int.toNat (w64 (hi + (w64 ((w64 (2 * s2)) + 1)))) * 1)) w3.drew fun x8 =>
            idxP (w64 ((w64 (hi + (w64 ((w64 (2 * s2)) + 1)))) + 1)) p0.len (
              onSome p0.a fun A9 =>
              ldP (.int .i64) (A9.add (Int.toNat (w64 ((w64 (hi + (w64 ((w64 (2 * s2)) + 1)))) + 1)) * 1)) w3.drew fun x10 =>
              cmp_Less_205 x8 x10 w3.drew fun r11 w12 =>
              J4 r11 w12))) (
          J4 false w3.drew)) (fun s5 w6 =>
      joinP (σ := Tup [.one (.int .i64)]) (fun J13 =>
        cnd s5 (
          J13 (w64 ((w64 ((w64 (2 * s2)) + 1)) + 1)) w6) (
          J13 (w64 ((w64 (2 * s2)) + 1)) w6)) (fun s14 w15 =>
      idxP (w64 (hi + s2)) p0.len (
        onSome p0.a fun A16 =>
        ldP (.int .i64) (A16.add (Int.toNat (w64 (hi + s2)) * 1)) w15.drew fun x17 =>
        idxP (w64 (hi + s14)) p0.len (
          onSome p0.a fun A18 =>
          ldP (.int .i64) (A18.add (Int.toNat (w64 (hi + s14)) * 1)) w15.drew fun x19 =>
          cmp_Less_205 x17 x19 w15.drew fun r20 w21 =>
          cnd (!r20) (
            K () w21) (
            idxP (w64 (hi + s14)) p0.len (
              onSome p0.a fun A22 =>
              ldP (.int .i64) (A22.add (Int.toNat (w64 (hi + s14)) * 1)) w21.drew fun x23 =>
              idxP (w64 (hi + s2)) p0.len (
                onSome p0.a fun A24 =>
                ldP (.int .i64) (A24.add (Int.toNat (w64 (hi + s2)) * 1)) w21.drew fun x25 =>
                idxP (w64 (hi + s2)) p0.len (
                  onSome p0.a fun A26 =>
                  stP (A26.add (Int.toNat (w64 (hi + s2)) * 1)) (.int .i64 x23) w21.drew fun w27 =>
                  idxP (w64 (hi + s14)) p0.len (
                    onSome p0.a fun A28 =>
                    stP (A28.add (Int.toNat (w64 (hi + s14)) * 1)) (.int .i64 x25) w27 fun w29 =>
                    again1 s14 w29))))))))))) data w
def an223 : List An := [
  .reg ⟨[], .done, []⟩,
  .nop,
  .nop,
  .loop [(8, .one (.int .i64))] [9, 11, 12, 13, 14, 15, 16, 17, 18, 19, 20, 21, 22, 23, 24, 25, 26, 27, 28, 29, 30, 31, 32, 33, 34, 35, 36, 37, 38, 39, 40, 41, 42, 43, 44, 45, 46, 47, 48, 49, 50, 51, 52, 53, 54, 55, 56, 57, 58, 59, 60, 61, 62, 63, 64, 65, 66, 67, 68, 69, 70, 71, 72, 73, 74, 75],
  .nop,
  .reg ⟨[], .done, []⟩,
  .reg ⟨[], .done, []⟩,
  .nop,
  .join [(36, .one .bool)] [17, 18, 19, 20, 21, 22, 23, 24, 25, 26, 27, 28, 29, 30, 31, 32, 33, 34, 35],
  .reg ⟨[(18, [.one .bool])], (.nop 0 0 (.nop 1 1 (.nop 2 0 (.nop 3 7 (.nop 4 15 (.nop 5 31 (.nop 6 31 (.nop 7 31 (.nop 8 223 (.nop 9 511 (.nop 10 1023 (.nop 11 31 (.nop 12 31 (.nop 13 31 (.nop 14 12319 (.nop 15 28703 (.nop 16 63519 (.nop 17 129055 (.bar 18 262143 (.nop 19 524287 .done) .none))))))))))))))))))), []⟩,
  .join [(9, .one (.int .i64))] [37, 38],
  .reg ⟨[], .done, []⟩,
  .reg ⟨[(12, [.one .bool])], (.nop 0 0 (.nop 1 0 (.nop 2 0 (.nop 3 6 (.nop 4 15 (.nop 5 31 (.nop 6 0 (.nop 7 0 (.nop 8 0 (.nop 9 384 (.nop 10 960 (.nop 11 1984 (.bar 12 4095 (.nop 13 8191 .done) .none))))))))))))), []⟩,
  .nop,
  .reg ⟨[], (.nop 0 0 (.nop 1 0 (.nop 2 0 (.nop 3 6 (.nop 4 0 (.nop 5 0 (.nop 6 0 (.nop 7 96 (.nop 8 0 (.nop 9 0 (.nop 10 0 (.nop 11 1536 (.nop 12 3840 (.nop 13 7936 (.nop 14 0 (.nop 15 0 (.nop 16 0 (.nop 17 98304 (.nop 18 245760 (.nop 19 507904 (.nop 20 1048335 (.bar 21 2096911 (.nop 22 4194303 (.bar 23 8388607 .done .none)) .none)))))))))))))))))))))), []⟩,
  .reg ⟨[], .done, []⟩]
theorem slices_siftDownOrdered_223_of (p0 : Sl) (data : Int) (lo : Int) (hi : Int) (w : World) (K : Tup [] → World → Prop) (hF_ : F223 p0 data lo hi w K) : slices_siftDownOrdered_223 p0 data lo hi w K :=
  call_of_F (l := an223) (args := [Ty.mk (.one .slice) p0, Ty.mk (.one (.int .i64)) data, Ty.mk (.one (.int .i64)) lo, Ty.mk (.one (.int .i64)) hi]) follows tabOk Tryz.func223 (by kernel_rfl) (by kernel_rfl) (by kernel_rfl) hF_

/-- slices.medianAdjacentOrdered[int] -/
def F224 (p0 : Sl) (data : Int) (a : Option Addr) (w : World) (K : Tup [.one (.int .i64)] → World → Prop) : Prop :=
  slices_medianOrdered_225 p0 (w64 (data - 1)) data (w64 (data + 1)) a w fun r1 w2 =>
  K r1 w2
def an224 : List An := [
  .reg ⟨[], .done, []⟩,
  .reg ⟨[(7, [.one (.int .i64)])], .done, []⟩]
theorem slices_medianAdjacentOrdered_224_of (p0 : Sl) (data : Int) (a : Option Addr) (w : World) (K : Tup [.one (.int .i64)] → World → Prop) (hF_ : F224 p0 data a w K) : slices_medianAdjacentOrdered_224 p0 data a w K :=
  call_of_F (l := an224) (args := [Ty.mk (.one .slice) p0, Ty.mk (.one (.int .i64)) data, Ty.mk (.one .ptr) a]) follows tabOk Tryz.func224 (by kernel_rfl) (by kernel_rfl) (by kernel_rfl) hF_

/-- slices.medianOrdered[int] -/
def F225 (p0 : Sl) (data : Int) (a : Int) (b : Int) (c : Option Addr) (w : World) (K : Tup [.one (.int .i64)] → World → Prop) : Prop :=
  slices_order2Ordered_243 p0 data a c w fun r1 w2 =>
  slices_order2Ordered_243 p0 r1.2 b c w2 fun r3 w4 =>
  slices_order2Ordered_243 p0 r1.1 r3.1 c w4 fun r5 w6 =>
  K r5.2 w6
def an225 : List An := [
  .reg ⟨[], .done, []⟩,
  .reg ⟨[(4, [.one (.int .i64), .one (.int .i64)])], .done, []⟩,
  .reg ⟨[(4, [.one (.int .i64), .one (.int .i64)])], .done, []⟩,
  .reg ⟨[(4, [.one (.int .i64), .one (.int .i64)])], .done, []⟩,
  .reg ⟨[], .done, []⟩]
theorem slices_medianOrdered_225_of (p0 : Sl) (data : Int) (a : Int) (b : Int) (c : Option Addr) (w : World) (K : Tup [.one (.int .i64)] → World → Prop) (hF_ : F225 p0 data a b c w K) : slices_medianOrdered_225 p0 data a b c w K :=
  call_of_F (l := an225) (args := [Ty.mk (.one .slice) p0, Ty.mk (.one (.int .i64)) data, Ty.mk (.one (.int .i64)) a, Ty.mk (.one (.int .i64)) b, Ty.mk (.one .ptr) c]) follows tabOk Tryz.func225 (by kernel_rfl) (by kernel_rfl) (by kernel_rfl) hF_

/-- cmp.isNaN[int] -/
def F226 (p0 : Int) (w : World) (K : Tup [.one .bool] → World → Prop) : Prop :=
  K (p0 != p0) w
def an226 : List An := [
  .reg ⟨[], .done, []⟩,
  .reg ⟨[], .done, []⟩]
theorem cmp_isNaN_226_of (p0 : Int) (w : World) (K : Tup [.one .bool] → World → Prop) (hF_ : F226 p0 w K) : cmp_isNaN_226 p0 w K :=
  call_of_F (l := an226) (args := [Ty.mk (.one (.int .i64)) p0]) follows tabOk Tryz.func226 (by kernel_rfl) (by kernel_rfl) (by kernel_rfl) hF_

/-- internal/stringslite.Index -/
def F227 (s : ByteArray) (substr : ByteArray) (w : World) (K : Tup [.one (.int .i64)] → World → Prop) : Prop :=
  joinP (σ := Tup [.one .bool]) (fun J1 =>
    cnd ((substr.size : Int) == 0) (
      J1 true w) (
      J1 (substr.toList == s.toList) w)) (fun s2 w3 =>
  cnd s2 (
    K 0 w3) (
    cnd ((substr.size : Int) == 1) (
      idxS substr 0 fun b4 =>
      stringslite_IndexByte_244 s (b4.toNat : Int) w3 fun r5 w6 =>
      K r5 w6) (
      cnd (decide ((substr.size : Int) ≥ (s.size : Int))) (
        K (-1) w3) (
        joinP (σ := Tup [.one .bool]) (fun J7 =>
          ldP (.int .i64) ⟨0, 0, none⟩ w3 fun x10 =>
          cnd (decide ((substr.size : Int) ≤ x10)) (
            J7 (decide ((s.size : Int) ≤ 64)) w3) (
            J7 false w3)) (fun s8 w9 =>
        cnd s8 (
          bytealg_IndexString_245 s substr w9 fun r11 w12 =>
          K r11 w12) (
          idxS substr 0 fun b13 =>
          idxS substr 1 fun b14 =>
          loopP (σ := Tup [.one (.int .i64), .one (.int .i64)]) (fun again15 s16 w17 =>
            cnd (decide (s16.1 < (w64 ((w64 ((s.size : Int) - (substr.size : Int))) + 1)))) (
              idxS s s16.1 fun b18 =>
              joinP (σ := Tup [.one (.int .i64)]) (fun J19 =>
                cnd ((b18.toNat : Int) != (b13.toNat : Int)) (
                  strP s (w64 (s16.1 + 1)) (some (w64 ((w64 ((s.size : Int) - (substr.size : Int))) + 1))) fun x22 =>
                  stringslite_IndexByte_244 x22 (b13.toNat : Int) w17 fun r23 w24 =>
                  cnd (decide (r23 < 0)) (
                    K (-1) w24) (
                    J19 (w64 (s16.1 + (w64 (r23 + 1)))) w24)) (
                  J19 s16.1 w17)) (fun s20 w21 =>
              joinP (σ := Tup [.one .bool]) (fun J25 =>
                idxS s (w64 (s20 + 1)) fun b28 =>
                cnd ((b28.toNat : Int) == (b14.toNat : Int)) (
                  strP s s20 (some (w64 (s20 + (substr.size : Int)))) fun x29 =>
                  J25 (x29.toList == substr.toList) w21) (
                  J25 false w21)) (fun s26 w27 =>
              cnd s26 (
                K s20 w27) (
                joinP (σ := Tup [.one .bool]) (fun J30 =>
                  ldP (.int .i64) ⟨0, 0, none⟩ w27 fun x33 =>
                  cnd (decide ((substr.size : Int) ≤ x33)) (
                    bytealg_Cutover_246 (w64 (s20 + 1)) w27 fun r34 w35 =>
                    J30 (decide ((w64 (s16.2 + 1)) > r34)) w35) (
                    J30 false w27)) (fun s31 w32 =>
                cnd s31 (
                  strP s (w64 (s20 + 1)) none fun x36 =>
                  bytealg_IndexString_245 x36 substr w32 fun r37 w38 =>
                  cnd (decide (r37 ≥ 0)) (
                    K (w64 (r37 + (w64 (s20 + 1)))) w38) (
                    K (-1) w38)) (
                  joinP (σ := Tup [.one .bool]) (fun J39 =>
                    ldP (.int .i64) ⟨0, 0, none⟩ w32 fun x42 =>
                    cnd (decide ((substr.size : Int) > x42)) (
                      (0 : Int) ≤ 4 ∧
                      cnd (decide ((w64 (s16.2 + 1)) ≥ (w64 (4 + (Int.fdiv (w64 (s20 + 1)) (2 ^ (min (Int.toNat 4) 64))))))) (
                        J39 (decide ((w64 (s20 + 1)) < (w64 ((w64 ((s.size : Int) - (substr.size : Int))) + 1)))) w32) (
                        J39 false w32)) (
                      J39 false w32)) (fun s40 w41 =>
                  cnd s40 (
                    strP s (w64 (s20 + 1)) none fun x43 =>
                    bytealg_IndexRabinKarp_247 x43 substr w41 fun r44 w45 =>
                    cnd (decide (r44 < 0)) (
                      K (-1) w45) (
                      K (w64 ((w64 (s20 + 1)) + r44)) w45)) (
                    again15 ((w64 (s20 + 1)), (w64 (s16.2 + 1))) w41)))))))) (
              K (-1) w17)) (0, 0) w9))))))
def an227 : List An := [
  .reg ⟨[], .done, []⟩,
  .reg ⟨[], .done, []⟩,
  .nop,
  .join [(16, .one .bool)] [17, 18, 19, 20, 21, 22, 23],
  .reg ⟨[], .done, []⟩,
  .nop,
  .reg ⟨[], .done, []⟩,
  .reg ⟨[], .done, []⟩,
  .nop,
  .reg ⟨[(3, [.one (.int .i64)])], .done, []⟩,
  .reg ⟨[], .done, []⟩,
  .nop,
  .reg ⟨[], .done, []⟩,
  .join [(36, .one .bool)] [37, 38, 39, 40, 41, 42, 43, 44],
  .reg ⟨[], .done, []⟩,
  .nop,
  .reg ⟨[(2, [.one (.int .i64)])], .done, []⟩,
  .reg ⟨[], .done, []⟩,
  .reg ⟨[], .done, []⟩,
  .reg ⟨[], .done, []⟩,
  .reg ⟨[], .done, []⟩,
  .reg ⟨[], .done, []⟩,
  .nop,
  .nop,
  .loop [(8, .one (.int .i64)), (10, .one (.int .i64))] [4, 11, 12, 13, 57, 58, 59, 60, 61, 62, 63, 64, 65, 66, 67, 68, 69, 70, 71, 72, 73, 74, 75, 76, 77, 78, 79, 80, 81, 82, 83, 84, 85, 86, 87, 88, 89, 90, 91, 92, 93, 94, 95, 96, 97, 98, 99, 100, 101, 102, 103, 104, 105, 106, 107, 108, 109, 110, 111, 112, 113, 114, 115, 116, 117, 118, 119, 120, 121, 122, 123, 124, 125, 126, 127, 128, 129, 130, 131, 132, 133, 134, 135, 136, 137, 138, 139, 140, 141, 142],
  .reg ⟨[], .done, []⟩,
  .nop,
  .nop,
  .reg ⟨[], .done, []⟩,
  .join [(8, .one (.int .i64))] [4, 11, 65, 66, 67, 68, 69, 70, 71, 72, 73, 74, 75, 76, 77],
  .reg ⟨[(6, [.one (.int .i64)])], .done, []⟩,
  .reg ⟨[], .done, []⟩,
  .nop,
  .reg ⟨[], .done, []⟩,
  .reg ⟨[], .done, []⟩,
  .join [(93, .one .bool)] [78, 79, 80, 81, 82, 83, 84, 85, 86, 87, 88, 89, 90, 91, 92],
  .reg ⟨[], .done, []⟩,
  .nop,
  .reg ⟨[], .done, []⟩,
  .reg ⟨[], .done, []⟩,
  .reg ⟨[], .done, []⟩,
  .join [(107, .one .bool)] [99, 100, 101, 102, 103, 104, 105, 106],
  .reg ⟨[(6, [.one (.int .i64)])], .done, []⟩,
  .nop,
  .reg ⟨[(4, [.one (.int .i64)])], .done, []⟩,
  .reg ⟨[], .done, []⟩,
  .nop,
  .reg ⟨[], .done, []⟩,
  .reg ⟨[], .done, []⟩,
  .join [(132, .one .bool)] [118, 119, 120, 121, 122, 123, 124, 125, 126, 127, 128, 129, 130, 131],
  .reg ⟨[], .done, []⟩,
  .nop,
  .reg ⟨[(4, [.one (.int .i64)])], .done, []⟩,
  .reg ⟨[], .done, []⟩,
  .nop,
  .reg ⟨[], .done, []⟩,
  .reg ⟨[], .done, []⟩,
  .reg ⟨[], .done, []⟩]
theorem stringslite_Index_227_of (s : ByteArray) (substr : ByteArray) (w : World) (K : Tup [.one (.int .i64)] → World → Prop) (hF_ : F227 s substr w K) : stringslite_Index_227 s substr w K :=
  call_of_F (l := an227) (args := [Ty.mk (.one .str) s, Ty.mk (.one .str) substr]) follows tabOk Tryz.func227 (by kernel_rfl) (by kernel_rfl) (by kernel_rfl) hF_

/-- strings.genSplit -/
def F228 (s : ByteArray) (sep : ByteArray) (sepSave : Int) (n : Int) (w : World) (K : Tup [.one .slice] → World → Prop) : Prop :=
  cnd (n == 0) (
    K ⟨none, 0, 0⟩ w) (
    cnd (sep.toList == (⟨#[]⟩ : ByteArray).toList) (
      strings_explode_248 s n w fun r1 w2 =>
      K r1 w2) (
      joinP (σ := Tup [.one (.int .i64)]) (fun J3 =>
        cnd (decide (n < 0)) (
          strings_Count_249 s sep w fun r6 w7 =>
          J3 (w64 (r6 + 1)) w7) (
          J3 n w)) (fun s4 w5 =>
      mkSlP (minI s4 (w64 ((s.size : Int) + 1))) (minI s4 (w64 ((s.size : Int) + 1))) 16 (newP (.cells (zrow #[(.string (⟨#[]⟩ : ByteArray))] (Int.toNat (minI s4 (w64 ((s.size : Int) + 1))) * 1)) 9) w5 fun b8 w9 =>
      loopP (σ := Tup [.one .str, .one (.int .i64)]) (fun again10 s11 w12 =>
        cnd (decide (s11.2 < (w64 ((minI s4 (w64 ((s.size : Int) + 1))) - 1)))) (
          strings_Index_210 s11.1 sep w12 fun r13 w14 =>
          cnd (decide (r13 < 0)) (
            idxP s11.2 (Int.toNat (minI s4 (w64 ((s.size : Int) + 1)))) (
              stP ((⟨b8, 0, none⟩ : Addr).add (Int.toNat s11.2 * 1)) (.string s11.1) w14 fun w15 =>
              slcP ⟨(some ⟨b8, 0, none⟩), (Int.toNat (minI s4 (w64 ((s.size : Int) + 1)))), (Int.toNat (minI s4 (w64 ((s.size : Int) + 1))))⟩ 0 (some (w64 (s11.2 + 1))) 1 fun s16 =>
              K s16 w15)) (
            strP s11.1 0 (some (w64 (r13 + sepSave))) fun x17 =>
            idxP s11.2 (Int.toNat (minI s4 (w64 ((s.size : Int) + 1)))) (
              stP ((⟨b8, 0, none⟩ : Addr).add (Int.toNat s11.2 * 1)) (.string x17) w14 fun w18 =>
              strP s11.1 (w64 (r13 + (sep.size : Int))) none fun x19 =>
              again10 (x19, (w64 (s11.2 + 1))) w18))) (
          idxP s11.2 (Int.toNat (minI s4 (w64 ((s.size : Int) + 1)))) (
            stP ((⟨b8, 0, none⟩ : Addr).add (Int.toNat s11.2 * 1)) (.string s11.1) w12 fun w20 =>
            slcP ⟨(some ⟨b8, 0, none⟩), (Int.toNat (minI s4 (w64 ((s.size : Int) + 1)))), (Int.toNat (minI s4 (w64 ((s.size : Int) + 1))))⟩ 0 (some (w64 (s11.2 + 1))) 1 fun s21 =>
            K s21 w20))) (s, 0) w9))))
def an228 : List An := [
  .reg ⟨[], .done, []⟩,
  .reg ⟨[], .done, []⟩,
  .nop,
  .reg ⟨[], .done, []⟩,
  .reg ⟨[], .done, []⟩,
  .nop,
  .reg ⟨[(2, [.one .slice])], .done, []⟩,
  .reg ⟨[], .done, []⟩,
  .join [(3, .one (.int .i64))] [21, 22, 23, 24],
  .reg ⟨[(2, [.one (.int .i64)])], .done, []⟩,
  .reg ⟨[], .done, []⟩,
  .reg ⟨[], .done, []⟩,
  .reg ⟨[], .done, []⟩,
  .reg ⟨[], .done, []⟩,
  .nop,
  .nop,
  .loop [(0, .one .str), (10, .one (.int .i64))] [11, 34, 35, 36, 37, 38, 39, 40, 41, 42, 43, 44, 45, 46, 47, 48, 49, 50, 51, 52, 53, 54, 55, 56, 57],
  .reg ⟨[], .done, []⟩,
  .nop,
  .nop,
  .reg ⟨[(2, [.one (.int .i64)])], .done, []⟩,
  .reg ⟨[], .done, []⟩,
  .nop,
  .reg ⟨[], .done, []⟩,
  .reg ⟨[], .done, []⟩,
  .reg ⟨[], .done, []⟩,
  .reg ⟨[], .done, []⟩,
  .reg ⟨[], .done, []⟩]
theorem strings_genSplit_228_of (s : ByteArray) (sep : ByteArray) (sepSave : Int) (n : Int) (w : World) (K : Tup [.one .slice] → World → Prop) (hF_ : F228 s sep sepSave n w K) : strings_genSplit_228 s sep sepSave n w K :=
  call_of_F (l := an228) (args := [Ty.mk (.one .str) s, Ty.mk (.one .str) sep, Ty.mk (.one (.int .i64)) sepSave, Ty.mk (.one (.int .i64)) n]) follows tabOk Tryz.func228 (by kernel_rfl) (by kernel_rfl) (by kernel_rfl) hF_

/-- slices.insertionSortOrdered[string] -/
def F230 (p0 : Sl) (data : Int) (a : Int) (w : World) (K : Tup [] → World → Prop) : Prop :=
  loopP (σ := Tup [.one (.int .i64)]) (fun again1 s2 w3 =>
    cnd (decide (s2 < a)) (
      loopP (σ := Tup [.one (.int .i64)]) (fun again4 s5 w6 =>
        joinP (σ := Tup [.one .bool]) (fun J7 =>
          cnd (decide (s5 > data)) (
            idxP s5 p0.len (
              onSome p0.a fun A10 =>
              ldP (.str) (A10.add (Int.toNat s5 * 1)) w6.drew fun x11 =>
              idxP (w64 (s5 - 1)) p0.len (
                onSome p0.a fun A12 =>
                ldP (.str) (A12.add (Int.toNat (w64 (s5 - 1)) * 1)) w6.drew fun x13 =>
                cmp_Less_236 x11 x13 w6.drew fun r14 w15 =>
                J7 r14 w15))) (
            J7 false w6.drew)) (fun s8 w9 =>
        cnd s8 (
          idxP (w64 (s5 - 1)) p0.len (
            onSome p0.a fun A16 =>
            ldP (.str) (A16.add (Int.toNat (w64 (s5 - 1)) * 1)) w9.drew fun x17 =>
            idxP s5 p0.len (
              onSome p0.a fun A18 =>
              ldP (.str) (A18.add (Int.toNat s5 * 1)) w9.drew fun x19 =>
              idxP s5 p0.len (
                onSome p0.a fun A20 =>
                stP (A20.add (Int.toNat s5 * 1)) (.string x17) w9.drew fun w21 =>
                idxP (w64 (s5 - 1)) p0.len (
                  onSome p0.a fun A22 =>
                  stP (A22.add (Int.toNat (w64 (s5 - 1)) * 1)) (.string x19) w21 fun w23 =>
                  again4 (w64 (s5 - 1)) w23))))) (
          again1 (w64 (s2 + 1)) w9))) s2 w3) (
      K () w3)) (w64 (data + 1)) w
def an230 : List An := [
  .reg ⟨[], .done, []⟩,
  .nop,
  .nop,
  .loop [(6, .one (.int .i64))] [7, 10, 11, 12, 13, 14, 15, 16, 17, 18, 19, 20, 21, 22, 23, 24, 25, 26, 27, 28, 29, 30, 31, 32, 33, 34, 35, 36, 37, 38, 39, 40, 41, 42, 43, 44, 45, 46, 47, 48],
  .reg ⟨[], .done, []⟩,
  .nop,
  .nop,
  .reg ⟨[], .done, []⟩,
  .nop,
  .nop,
  .loop [(7, .one (.int .i64))] [16, 17, 18, 19, 20, 21, 22, 23, 24, 25, 26, 27, 28, 29, 30, 31, 32, 33, 34, 35, 36, 37, 38, 39, 40, 41, 42, 43, 44, 45, 46, 47, 48],
  .join [(30, .one .bool)] [16, 17, 18, 19, 20, 21, 22, 23, 24, 25, 26, 27, 28, 29],
  .reg ⟨[(13, [.one .bool])], (.nop 0 0 (.nop 1 0 (.nop 2 3 (.nop 3 7 (.nop 4 15 (.nop 5 15 (.nop 6 63 (.nop 7 127 (.nop 8 15 (.nop 9 15 (.nop 10 527 (.nop 11 1807 (.nop 12 3855 (.bar 13 8191 (.nop 14 16383 .done) .none)))))))))))))), []⟩,
  .nop,
  .nop,
  .reg ⟨[], (.nop 0 0 (.nop 1 0 (.nop 2 0 (.nop 3 0 (.nop 4 8 (.nop 5 0 (.nop 6 0 (.nop 7 64 (.nop 8 224 (.nop 9 480 (.nop 10 0 (.nop 11 0 (.nop 12 3072 (.nop 13 7168 (.nop 14 16355 (.bar 15 32739 (.nop 16 65535 (.bar 17 131071 .done .none)) .none)))))))))))))))), []⟩,
  .reg ⟨[], .done, []⟩,
  .reg ⟨[], .done, []⟩]
theorem slices_insertionSortOrdered_230_of (p0 : Sl) (data : Int) (a : Int) (w : World) (K : Tup [] → World → Prop) (hF_ : F230 p0 data a w K) : slices_insertionSortOrdered_230 p0 data a w K :=
  call_of_F (l := an230) (args := [Ty.mk (.one .slice) p0, Ty.mk (.one (.int .i64)) data, Ty.mk (.one (.int .i64)) a]) follows tabOk Tryz.func230 (by kernel_rfl) (by kernel_rfl) (by kernel_rfl) hF_

/-- slices.heapSortOrdered[string] -/
def F231 (p0 : Sl) (data : Int) (a : Int) (w : World) (K : Tup [] → World → Prop) : Prop :=
  (2 : Int) ≠ 0 ∧
  loopP (σ := Tup [.one (.int .i64)]) (fun again1 s2 w3 =>
    cnd (decide (s2 ≥ 0)) (
      slices_siftDownOrdered_250 p0 s2 (w64 (a - data)) data w3 fun _r4 w5 =>
      again1 (w64 (s2 - 1)) w5) (
      loopP (σ := Tup [.one (.int .i64)]) (fun again6 s7 w8 =>
        cnd (decide (s7 ≥ 0)) (
          idxP (w64 (data + s7)) p0.len (
            onSome p0.a fun A9 =>
            ldP (.str) (A9.add (Int.toNat (w64 (data + s7)) * 1)) w8.drew fun x10 =>
            idxP data p0.len (
              onSome p0.a fun A11 =>
              ldP (.str) (A11.add (Int.toNat data * 1)) w8.drew fun x12 =>
              idxP data p0.len (
                onSome p0.a fun A13 =>
                stP (A13.add (Int.toNat data * 1)) (.string x10) w8.drew fun w14 =>
                idxP (w64 (data + s7)) p0.len (
                  onSome p0.a fun A15 =>
                  stP (A15.add (Int.toNat (w64 (data + s7)) * 1)) (.string x12) w14 fun w16 =>
                  slices_siftDownOrdered_250 p0 0 s7 data w16 fun _r17 w18 =>
                  again6 (w64 (s7 - 1)) w18))))) (
          K () w8)) (w64 ((w64 (a - data)) - 1)) w3)) (w64 (Int.tdiv (w64 ((w64 (a - data)) - 1)) 2)) w
def an231 : List An := [
  .reg ⟨[], .done, []⟩,
  .reg ⟨[], .done, []⟩,
  .reg ⟨[], .done, []⟩,
  .reg ⟨[], .done, []⟩,
  .nop,
  .nop,
  .loop [(9, .one (.int .i64))] [18, 19, 20, 21, 22, 23, 24, 25, 26],
  .reg ⟨[], .done, []⟩,
  .nop,
  .nop,
  .reg ⟨[(4, [])], .done, []⟩,
  .reg ⟨[], .done, []⟩,
  .reg ⟨[], .done, []⟩,
  .nop,
  .nop,
  .loop [(10, .one (.int .i64))] [29, 30, 31, 32, 33, 34, 35, 36, 37, 38, 39, 40, 41, 42, 43, 44, 45, 46, 47, 48, 49, 50, 51, 52, 53, 54, 55],
  .reg ⟨[], .done, []⟩,
  .nop,
  .nop,
  .reg ⟨[], (.nop 0 0 (.nop 1 0 (.nop 2 0 (.nop 3 0 (.nop 4 0 (.nop 5 24 (.nop 6 0 (.nop 7 0 (.nop 8 0 (.nop 9 384 (.nop 10 960 (.nop 11 1984 (.nop 12 0 (.nop 13 0 (.nop 14 12288 (.nop 15 28672 (.nop 16 65475 (.bar 17 131011 (.nop 18 262143 (.bar 19 524287 .done .none)) .none)))))))))))))))))), []⟩,
  .reg ⟨[(4, [])], .done, []⟩,
  .reg ⟨[], .done, []⟩]
theorem slices_heapSortOrdered_231_of (p0 : Sl) (data : Int) (a : Int) (w : World) (K : Tup [] → World → Prop) (hF_ : F231 p0 data a w K) : slices_heapSortOrdered_231 p0 data a w K :=
  call_of_F (l := an231) (args := [Ty.mk (.one .slice) p0, Ty.mk (.one (.int .i64)) data, Ty.mk (.one (.int .i64)) a]) follows tabOk Tryz.func231 (by kernel_rfl) (by kernel_rfl) (by kernel_rfl) hF_

/-- slices.breakPatternsOrdered[string] -/
def F232 (p0 : Sl) (data : Int) (a : Int) (w : World) (K : Tup [] → World → Prop) : Prop :=
  cnd (decide ((w64 (a - data)) ≥ 8)) (
    newP (.cells #[(.int .u64 0)] 266) w fun b1 w2 =>
    stP ⟨b1, 0, none⟩ (.int .u64 (IntKind.wrap .u64 ((w64 (a - data))))) w2 fun w3 =>
    slices_nextPowerOfTwo_219 (w64 (a - data)) w3 fun r4 w5 =>
    (4 : Int) ≠ 0 ∧
    loopP (σ := Tup [.one (.int .i64)]) (fun again6 s7 w8 =>
      (4 : Int) ≠ 0 ∧
      cnd (decide (s7 ≤ (w64 ((w64 (data + (w64 ((w64 (Int.tdiv (w64 (a - data)) 4)) * 2)))) + 1)))) (
        slices_xorshift_Next_220 (some ⟨b1, 0, none⟩) w8 fun r9 w10 =>
        joinP (σ := Tup [.one (.int .i64)]) (fun J11 =>
          cnd (decide ((w64 ((andI .u64 r9 (IntKind.wrap .u64 (r4 - 1))))) ≥ (w64 (a - data)))) (
            J11 (w64 ((w64 ((andI .u64 r9 (IntKind.wrap .u64 (r4 - 1))))) - (w64 (a - data)))) w10) (
            J11 (w64 ((andI .u64 r9 (IntKind.wrap .u64 (r4 - 1))))) w10)) (fun s12 w13 =>
        idxP (w64 (data + s12)) p0.len (
          onSome p0.a fun A14 =>
          ldP (.str) (A14.add (Int.toNat (w64 (data + s12)) * 1)) w13.drew fun x15 =>
          idxP s7 p0.len (
            onSome p0.a fun A16 =>
            ldP (.str) (A16.add (Int.toNat s7 * 1)) w13.drew fun x17 =>
            idxP s7 p0.len (
              onSome p0.a fun A18 =>
              stP (A18.add (Int.toNat s7 * 1)) (.string x15) w13.drew fun w19 =>
              idxP (w64 (data + s12)) p0.len (
                onSome p0.a fun A20 =>
                stP (A20.add (Int.toNat (w64 (data + s12)) * 1)) (.string x17) w19 fun w21 =>
                again6 (w64 (s7 + 1)) w21)))))) (
        K () w8)) (w64 ((w64 (data + (w64 ((w64 (Int.tdiv (w64 (a - data)) 4)) * 2)))) - 1)) w5) (
    K () w)
def an232 : List An := [
  .reg ⟨[], .done, []⟩,
  .reg ⟨[], .done, []⟩,
  .nop,
  .reg ⟨[], .done, []⟩,
  .reg ⟨[(1, [.one (.int .u64)])], .done, []⟩,
  .reg ⟨[], .done, []⟩,
  .nop,
  .nop,
  .loop [(9, .one (.int .i64))] [10, 26, 27, 28, 29, 30, 31, 32, 33, 34, 35, 36, 37, 38, 39, 40, 41, 42, 43, 44, 45, 46, 47, 48, 49, 50, 51, 52, 53, 54, 55, 56, 57, 58, 59, 60, 61, 62, 63, 64],
  .reg ⟨[], .done, []⟩,
  .nop,
  .nop,
  .reg ⟨[(0, [.one (.int .u64)])], .done, []⟩,
  .reg ⟨[], .done, []⟩,
  .join [(10, .one (.int .i64))] [44, 45, 46],
  .reg ⟨[], .done, []⟩,
  .reg ⟨[], (.nop 0 0 (.nop 1 0 (.nop 2 0 (.nop 3 0 (.nop 4 0 (.nop 5 24 (.nop 6 0 (.nop 7 0 (.nop 8 0 (.nop 9 384 (.nop 10 960 (.nop 11 1984 (.nop 12 0 (.nop 13 0 (.nop 14 12288 (.nop 15 28672 (.nop 16 65475 (.bar 17 131011 (.nop 18 262143 (.bar 19 524287 .done .none)) .none)))))))))))))))))), []⟩,
  .reg ⟨[], .done, []⟩]
theorem slices_breakPatternsOrdered_232_of (p0 : Sl) (data : Int) (a : Int) (w : World) (K : Tup [] → World → Prop) (hF_ : F232 p0 data a w K) : slices_breakPatternsOrdered_232 p0 data a w K :=
  call_of_F (l := an232) (args := [Ty.mk (.one .slice) p0, Ty.mk (.one (.int .i64)) data, Ty.mk (.one (.int .i64)) a]) follows tabOk Tryz.func232 (by kernel_rfl) (by kernel_rfl) (by kernel_rfl) hF_

/-- slices.choosePivotOrdered[string] -/
def F233 (p0 : Sl) (data : Int) (a : Int) (w : World) (K : Tup [.one (.int .i64), .one (.int .i64)] → World → Prop) : Prop :=
  newP (.cells #[(.int .i64 0)] 3) w fun b1 w2 =>
  (4 : Int) ≠ 0 ∧
  (4 : Int) ≠ 0 ∧
  (4 : Int) ≠ 0 ∧
  cnd (decide ((w64 (a - data)) ≥ 8)) (
    joinP (σ := Tup [.one (.int .i64), .one (.int .i64), .one (.int .i64)]) (fun J3 =>
      cnd (decide ((w64 (a - data)) ≥ 50)) (
        slices_medianAdjacentOrdered_251 p0 (w64 (data + (w64 ((w64 (Int.tdiv (w64 (a - data)) 4)) * 1)))) (some ⟨b1, 0, none⟩) w2 fun r6 w7 =>
        slices_medianAdjacentOrdered_251 p0 (w64 (data + (w64 ((w64 (Int.tdiv (w64 (a - data)) 4)) * 2)))) (some ⟨b1, 0, none⟩) w7 fun r8 w9 =>
        slices_medianAdjacentOrdered_251 p0 (w64 (data + (w64 ((w64 (Int.tdiv (w64 (a - data)) 4)) * 3)))) (some ⟨b1, 0, none⟩) w9 fun r10 w11 =>
        J3 (r6, r8, r10) w11) (
        J3 ((w64 (data + (w64 ((w64 (Int.tdiv (w64 (a - data)) 4)) * 1)))), (w64 (data + (w64 ((w64 (Int.tdiv (w64 (a - data)) 4)) * 2)))), (w64 (data + (w64 ((w64 (Int.tdiv (w64 (a - data)) 4)) * 3))))) w2)) (fun s4 w5 =>
    slices_medianOrdered_252 p0 s4.1 s4.2.1 s4.2.2 (some ⟨b1, 0, none⟩) w5 fun r12 w13 =>
    ldP (.int .i64) ⟨b1, 0, none⟩ w13 fun x14 =>
    cnd (x14 == 0) (
      K (r12, 1) w13) (
      cnd (x14 == 12) (
        K (r12, 2) w13) (
        K (r12, 0) w13)))) (
    ldP (.int .i64) ⟨b1, 0, none⟩ w2 fun x15 =>
    cnd (x15 == 0) (
      K ((w64 (data + (w64 ((w64 (Int.tdiv (w64 (a - data)) 4)) * 2)))), 1) w2) (
      cnd (x15 == 12) (
        K ((w64 (data + (w64 ((w64 (Int.tdiv (w64 (a - data)) 4)) * 2)))), 2) w2) (
        K ((w64 (data + (w64 ((w64 (Int.tdiv (w64 (a - data)) 4)) * 2)))), 0) w2)))
def an233 : List An := [
  .reg ⟨[], .done, []⟩,
  .reg ⟨[], .done, []⟩,
  .reg ⟨[], .done, []⟩,
  .reg ⟨[], .done, []⟩,
  .reg ⟨[], .done, []⟩,
  .reg ⟨[], .done, []⟩,
  .reg ⟨[], .done, []⟩,
  .nop,
  .reg ⟨[], .done, []⟩,
  .join [(10, .one (.int .i64)), (11, .one (.int .i64)), (12, .one (.int .i64))] [35, 36, 37, 38, 39, 40, 41, 42, 43],
  .reg ⟨[(2, [.one (.int .i64)])], .done, []⟩,
  .reg ⟨[(2, [.one (.int .i64)])], .done, []⟩,
  .reg ⟨[(2, [.one (.int .i64)])], .done, []⟩,
  .reg ⟨[(4, [.one (.int .i64)])], .done, []⟩,
  .reg ⟨[], .done, []⟩,
  .nop,
  .reg ⟨[], .done, []⟩,
  .nop,
  .reg ⟨[], .done, []⟩,
  .reg ⟨[], .done, []⟩,
  .nop,
  .reg ⟨[], .done, []⟩,
  .reg ⟨[], .done, []⟩]
theorem slices_choosePivotOrdered_233_of (p0 : Sl) (data : Int) (a : Int) (w : World) (K : Tup [.one (.int .i64), .one (.int .i64)] → World → Prop) (hF_ : F233 p0 data a w K) : slices_choosePivotOrdered_233 p0 data a w K :=
  call_of_F (l := an233) (args := [Ty.mk (.one .slice) p0, Ty.mk (.one (.int .i64)) data, Ty.mk (.one (.int .i64)) a]) follows tabOk Tryz.func233 (by kernel_rfl) (by kernel_rfl) (by kernel_rfl) hF_

/-- slices.reverseRangeOrdered[string] -/
def F234 (p0 : Sl) (data : Int) (a : Int) (w : World) (K : Tup [] → World → Prop) : Prop :=
  loopP (σ := Tup [.one (.int .i64), .one (.int .i64)]) (fun again1 s2 w3 =>
    cnd (decide (s2.1 < s2.2)) (
      idxP s2.2 p0.len (
        onSome p0.a fun A4 =>
        ldP (.str) (A4.add (Int.toNat s2.2 * 1)) w3.drew fun x5 =>
        idxP s2.1 p0.len (
          onSome p0.a fun A6 =>
          ldP (.str) (A6.add (Int.toNat s2.1 * 1)) w3.drew fun x7 =>
          idxP s2.1 p0.len (
            onSome p0.a fun A8 =>
            stP (A8.add (Int.toNat s2.1 * 1)) (.string x5) w3.drew fun w9 =>
            idxP s2.2 p0.len (
              onSome p0.a fun A10 =>
              stP (A10.add (Int.toNat s2.2 * 1)) (.string x7) w9 fun w11 =>
              again1 ((w64 (s2.1 + 1)), (w64 (s2.2 - 1))) w11))))) (
      K () w3)) (data, (w64 (a - 1))) w
def an234 : List An := [
  .reg ⟨[], .done, []⟩,
  .reg ⟨[], .done, []⟩,
  .nop,
  .nop,
  .loop [(6, .one (.int .i64)), (7, .one (.int .i64))] [11, 12, 13, 14, 15, 16, 17, 18, 19, 20, 21, 22, 23, 24, 25, 26, 27, 28, 29, 30, 31],
  .reg ⟨[], .done, []⟩,
  .nop,
  .nop,
  .reg ⟨[], (.nop 0 0 (.nop 1 0 (.nop 2 0 (.nop 3 0 (.nop 4 0 (.nop 5 0 (.nop 6 48 (.nop 7 112 (.nop 8 0 (.nop 9 0 (.nop 10 768 (.nop 11 1792 (.nop 12 4083 (.bar 13 8179 (.nop 14 16383 (.bar 15 32767 .done .none)) .none)))))))))))))), []⟩,
  .reg ⟨[], .done, []⟩,
  .reg ⟨[], .done, []⟩]
theorem slices_reverseRangeOrdered_234_of (p0 : Sl) (data : Int) (a : Int) (w : World) (K : Tup [] → World → Prop) (hF_ : F234 p0 data a w K) : slices_reverseRangeOrdered_234 p0 data a w K :=
  call_of_F (l := an234) (args := [Ty.mk (.one .slice) p0, Ty.mk (.one (.int .i64)) data, Ty.mk (.one (.int .i64)) a]) follows tabOk Tryz.func234 (by kernel_rfl) (by kernel_rfl) (by kernel_rfl) hF_

end Go.Proofs.YtcpoglgnkedpaaaGreatDoor

/-
  What the functions' bodies ask (printed by vcgen.py).
-/
namespace Go.Proofs.YtcpoglgnkedpaaaGreatDoor
open Go Go.Vc Go.Proofs


/-- (*purlin/purlinref14.Tree).Do -/
def F17 (t : Option Addr) (o : Carr [.int .i64, .int .i64, .int .i64, .int .i64, .int .i64, .str, .str, .slice]) (w : World) (K : Tup [.agg [.int .i64, .int .i64, .int .i64, .int .i64, .slice, .slice]] → World → Prop) : Prop :=
  newP (.cells #[(.int .i64 o.1), (.int .i64 o.2.1), (.int .i64 o.2.2.1), (.int .i64 o.2.2.2.1), (.int .i64 o.2.2.2.2.1), (.string o.2.2.2.2.2.1), (.string o.2.2.2.2.2.2.1), (.slice o.2.2.2.2.2.2.2.a o.2.2.2.2.2.2.2.len o.2.2.2.2.2.2.2.cap)] 28) w fun b1 w2 =>
  newP (.cells #[(.int .i64 0), (.int .i64 0), (.int .i64 0), (.int .i64 0), (.slice none 0 0), (.slice none 0 0)] 43) w2 fun b3 w4 =>
  ldP (.int .i64) ⟨b1, 0, none⟩ w4 fun x5 =>
  cnd (x5 == 1) (
    ldA [.int .i64, .int .i64, .int .i64, .int .i64, .int .i64, .str, .str, .slice] ⟨b1, 0, none⟩ w4 fun c6 =>
    purlinref14_Tree_open_37 t (c6.1, c6.2.1, c6.2.2.1, c6.2.2.2.1, c6.2.2.2.2.1, c6.2.2.2.2.2.1, c6.2.2.2.2.2.2.1, c6.2.2.2.2.2.2.2) w4 fun r7 w8 =>
    stN ⟨b3, 0, none⟩ [(.int .i64 r7.1), (.int .i64 r7.2.1), (.int .i64 r7.2.2.1), (.int .i64 r7.2.2.2.1), (.slice r7.2.2.2.2.1.a r7.2.2.2.2.1.len r7.2.2.2.2.1.cap), (.slice r7.2.2.2.2.2.a r7.2.2.2.2.2.len r7.2.2.2.2.2.cap)] w8 fun w9 =>
    ldA [.int .i64, .int .i64, .int .i64, .int .i64, .slice, .slice] ⟨b3, 0, none⟩ w9 fun c10 =>
    K (c10.1, c10.2.1, c10.2.2.1, c10.2.2.2.1, c10.2.2.2.2.1, c10.2.2.2.2.2) w9) (
    cnd (x5 == 2) (
      onSome t fun A11 =>
      ldP (.int .i64) ⟨b1, 1, none⟩ w4.drew fun x12 =>
      purlinref13_Table_Close_38 (some (A11.add 1)) x12 w4.drew fun r13 w14 =>
      purlinref14_code_39 r13.2 w14 fun r15 w16 =>
      stN ⟨b3, 0, none⟩ [(.int .i64 r15.1), (.int .i64 r15.2.1), (.int .i64 r15.2.2.1), (.int .i64 r15.2.2.2.1), (.slice r15.2.2.2.2.1.a r15.2.2.2.2.1.len r15.2.2.2.2.1.cap), (.slice r15.2.2.2.2.2.a r15.2.2.2.2.2.len r15.2.2.2.2.2.cap)] w16 fun w17 =>
      ldA [.int .i64, .int .i64, .int .i64, .int .i64, .slice, .slice] ⟨b3, 0, none⟩ w17 fun c18 =>
      K (c18.1, c18.2.1, c18.2.2.1, c18.2.2.2.1, c18.2.2.2.2.1, c18.2.2.2.2.2) w17) (
      joinP (σ := Tup [.one .bool]) (fun J19 =>
        cnd (x5 == 3) (
          J19 (x5 == 3) w4) (
          J19 (x5 == 5) w4)) (fun s20 w21 =>
      cnd s20 (
        ldA [.int .i64, .int .i64, .int .i64, .int .i64, .int .i64, .str, .str, .slice] ⟨b1, 0, none⟩ w21 fun c22 =>
        purlinref14_Tree_read_40 t (c22.1, c22.2.1, c22.2.2.1, c22.2.2.2.1, c22.2.2.2.2.1, c22.2.2.2.2.2.1, c22.2.2.2.2.2.2.1, c22.2.2.2.2.2.2.2) w21 fun r23 w24 =>
        stN ⟨b3, 0, none⟩ [(.int .i64 r23.1), (.int .i64 r23.2.1), (.int .i64 r23.2.2.1), (.int .i64 r23.2.2.2.1), (.slice r23.2.2.2.2.1.a r23.2.2.2.2.1.len r23.2.2.2.2.1.cap), (.slice r23.2.2.2.2.2.a r23.2.2.2.2.2.len r23.2.2.2.2.2.cap)] w24 fun w25 =>
        ldA [.int .i64, .int .i64, .int .i64, .int .i64, .slice, .slice] ⟨b3, 0, none⟩ w25 fun c26 =>
        K (c26.1, c26.2.1, c26.2.2.1, c26.2.2.2.1, c26.2.2.2.2.1, c26.2.2.2.2.2) w25) (
        joinP (σ := Tup [.one .bool]) (fun J27 =>
          cnd (x5 == 4) (
            J27 (x5 == 4) w21) (
            J27 (x5 == 6) w21)) (fun s28 w29 =>
        cnd s28 (
          ldA [.int .i64, .int .i64, .int .i64, .int .i64, .int .i64, .str, .str, .slice] ⟨b1, 0, none⟩ w29 fun c30 =>
          purlinref14_Tree_writes_41 t (c30.1, c30.2.1, c30.2.2.1, c30.2.2.2.1, c30.2.2.2.2.1, c30.2.2.2.2.2.1, c30.2.2.2.2.2.2.1, c30.2.2.2.2.2.2.2) w29 fun r31 w32 =>
          stN ⟨b3, 0, none⟩ [(.int .i64 r31.1), (.int .i64 r31.2.1), (.int .i64 r31.2.2.1), (.int .i64 r31.2.2.2.1), (.slice r31.2.2.2.2.1.a r31.2.2.2.2.1.len r31.2.2.2.2.1.cap), (.slice r31.2.2.2.2.2.a r31.2.2.2.2.2.len r31.2.2.2.2.2.cap)] w32 fun w33 =>
          ldA [.int .i64, .int .i64, .int .i64, .int .i64, .slice, .slice] ⟨b3, 0, none⟩ w33 fun c34 =>
          K (c34.1, c34.2.1, c34.2.2.1, c34.2.2.2.1, c34.2.2.2.2.1, c34.2.2.2.2.2) w33) (
          cnd (x5 == 7) (
            ldA [.int .i64, .int .i64, .int .i64, .int .i64, .int .i64, .str, .str, .slice] ⟨b1, 0, none⟩ w29 fun c35 =>
            purlinref14_Tree_seek_42 t (c35.1, c35.2.1, c35.2.2.1, c35.2.2.2.1, c35.2.2.2.2.1, c35.2.2.2.2.2.1, c35.2.2.2.2.2.2.1, c35.2.2.2.2.2.2.2) w29 fun r36 w37 =>
            stN ⟨b3, 0, none⟩ [(.int .i64 r36.1), (.int .i64 r36.2.1), (.int .i64 r36.2.2.1), (.int .i64 r36.2.2.2.1), (.slice r36.2.2.2.2.1.a r36.2.2.2.2.1.len r36.2.2.2.2.1.cap), (.slice r36.2.2.2.2.2.a r36.2.2.2.2.2.len r36.2.2.2.2.2.cap)] w37 fun w38 =>
            ldA [.int .i64, .int .i64, .int .i64, .int .i64, .slice, .slice] ⟨b3, 0, none⟩ w38 fun c39 =>
            K (c39.1, c39.2.1, c39.2.2.1, c39.2.2.2.1, c39.2.2.2.2.1, c39.2.2.2.2.2) w38) (
            cnd (x5 == 8) (
              ldA [.int .i64, .int .i64, .int .i64, .int .i64, .int .i64, .str, .str, .slice] ⟨b1, 0, none⟩ w29 fun c40 =>
              purlinref14_Tree_trunc_43 t (c40.1, c40.2.1, c40.2.2.1, c40.2.2.2.1, c40.2.2.2.2.1, c40.2.2.2.2.2.1, c40.2.2.2.2.2.2.1, c40.2.2.2.2.2.2.2) w29 fun r41 w42 =>
              stN ⟨b3, 0, none⟩ [(.int .i64 r41.1), (.int .i64 r41.2.1), (.int .i64 r41.2.2.1), (.int .i64 r41.2.2.2.1), (.slice r41.2.2.2.2.1.a r41.2.2.2.2.1.len r41.2.2.2.2.1.cap), (.slice r41.2.2.2.2.2.a r41.2.2.2.2.2.len r41.2.2.2.2.2.cap)] w42 fun w43 =>
              ldA [.int .i64, .int .i64, .int .i64, .int .i64, .slice, .slice] ⟨b3, 0, none⟩ w43 fun c44 =>
              K (c44.1, c44.2.1, c44.2.2.1, c44.2.2.2.1, c44.2.2.2.2.1, c44.2.2.2.2.2) w43) (
              joinP (σ := Tup [.one .bool]) (fun J45 =>
                cnd (x5 == 10) (
                  J45 (x5 == 10) w29) (
                  J45 (x5 == 11) w29)) (fun s46 w47 =>
              cnd s46 (
                ldA [.int .i64, .int .i64, .int .i64, .int .i64, .int .i64, .str, .str, .slice] ⟨b1, 0, none⟩ w47 fun c48 =>
                purlinref14_Tree_gone_44 t (c48.1, c48.2.1, c48.2.2.1, c48.2.2.2.1, c48.2.2.2.2.1, c48.2.2.2.2.2.1, c48.2.2.2.2.2.2.1, c48.2.2.2.2.2.2.2) w47 fun r49 w50 =>
                stN ⟨b3, 0, none⟩ [(.int .i64 r49.1), (.int .i64 r49.2.1), (.int .i64 r49.2.2.1), (.int .i64 r49.2.2.2.1), (.slice r49.2.2.2.2.1.a r49.2.2.2.2.1.len r49.2.2.2.2.1.cap), (.slice r49.2.2.2.2.2.a r49.2.2.2.2.2.len r49.2.2.2.2.2.cap)] w50 fun w51 =>
                ldA [.int .i64, .int .i64, .int .i64, .int .i64, .slice, .slice] ⟨b3, 0, none⟩ w51 fun c52 =>
                K (c52.1, c52.2.1, c52.2.2.1, c52.2.2.2.1, c52.2.2.2.2.1, c52.2.2.2.2.2) w51) (
                joinP (σ := Tup [.one .bool]) (fun J53 =>
                  cnd (x5 == 9) (
                    J53 (x5 == 9) w47) (
                    joinP (σ := Tup [.one .bool]) (fun J56 =>
                      cnd (x5 == 12) (
                        J56 (x5 == 12) w47) (
                        J56 (x5 == 13) w47)) (fun s57 w58 =>
                    J53 s57 w58))) (fun s54 w55 =>
                cnd s54 (
                  ldA [.int .i64, .int .i64, .int .i64, .int .i64, .int .i64, .str, .str, .slice] ⟨b1, 0, none⟩ w55 fun c59 =>
                  purlinref14_Tree_names_45 t (c59.1, c59.2.1, c59.2.2.1, c59.2.2.2.1, c59.2.2.2.2.1, c59.2.2.2.2.2.1, c59.2.2.2.2.2.2.1, c59.2.2.2.2.2.2.2) w55 fun r60 w61 =>
                  stN ⟨b3, 0, none⟩ [(.int .i64 r60.1), (.int .i64 r60.2.1), (.int .i64 r60.2.2.1), (.int .i64 r60.2.2.2.1), (.slice r60.2.2.2.2.1.a r60.2.2.2.2.1.len r60.2.2.2.2.1.cap), (.slice r60.2.2.2.2.2.a r60.2.2.2.2.2.len r60.2.2.2.2.2.cap)] w61 fun w62 =>
                  ldA [.int .i64, .int .i64, .int .i64, .int .i64, .slice, .slice] ⟨b3, 0, none⟩ w62 fun c63 =>
                  K (c63.1, c63.2.1, c63.2.2.1, c63.2.2.2.1, c63.2.2.2.2.1, c63.2.2.2.2.2) w62) (
                  cnd (x5 == 15) (
                    ldA [.int .i64, .int .i64, .int .i64, .int .i64, .int .i64, .str, .str, .slice] ⟨b1, 0, none⟩ w55 fun c64 =>
                    purlinref14_Tree_rename_46 t (c64.1, c64.2.1, c64.2.2.1, c64.2.2.2.1, c64.2.2.2.2.1, c64.2.2.2.2.2.1, c64.2.2.2.2.2.2.1, c64.2.2.2.2.2.2.2) w55 fun r65 w66 =>
                    stN ⟨b3, 0, none⟩ [(.int .i64 r65.1), (.int .i64 r65.2.1), (.int .i64 r65.2.2.1), (.int .i64 r65.2.2.2.1), (.slice r65.2.2.2.2.1.a r65.2.2.2.2.1.len r65.2.2.2.2.1.cap), (.slice r65.2.2.2.2.2.a r65.2.2.2.2.2.len r65.2.2.2.2.2.cap)] w66 fun w67 =>
                    ldA [.int .i64, .int .i64, .int .i64, .int .i64, .slice, .slice] ⟨b3, 0, none⟩ w67 fun c68 =>
                    K (c68.1, c68.2.1, c68.2.2.1, c68.2.2.2.1, c68.2.2.2.2.1, c68.2.2.2.2.2) w67) (
                    joinP (σ := Tup [.one .bool]) (fun J69 =>
                      cnd (x5 == 16) (
                        J69 (x5 == 16) w55) (
                        joinP (σ := Tup [.one .bool]) (fun J72 =>
                          cnd (x5 == 17) (
                            J72 (x5 == 17) w55) (
                            joinP (σ := Tup [.one .bool]) (fun J75 =>
                              cnd (x5 == 18) (
                                J75 (x5 == 18) w55) (
                                J75 (x5 == 14) w55)) (fun s76 w77 =>
                            J72 s76 w77))) (fun s73 w74 =>
                        J69 s73 w74))) (fun s70 w71 =>
                    cnd s70 (
                      ldA [.int .i64, .int .i64, .int .i64, .int .i64, .int .i64, .str, .str, .slice] ⟨b1, 0, none⟩ w71 fun c78 =>
                      purlinref14_Tree_looks_47 t (c78.1, c78.2.1, c78.2.2.1, c78.2.2.2.1, c78.2.2.2.2.1, c78.2.2.2.2.2.1, c78.2.2.2.2.2.2.1, c78.2.2.2.2.2.2.2) w71 fun r79 w80 =>
                      stN ⟨b3, 0, none⟩ [(.int .i64 r79.1), (.int .i64 r79.2.1), (.int .i64 r79.2.2.1), (.int .i64 r79.2.2.2.1), (.slice r79.2.2.2.2.1.a r79.2.2.2.2.1.len r79.2.2.2.2.1.cap), (.slice r79.2.2.2.2.2.a r79.2.2.2.2.2.len r79.2.2.2.2.2.cap)] w80 fun w81 =>
                      ldA [.int .i64, .int .i64, .int .i64, .int .i64, .slice, .slice] ⟨b3, 0, none⟩ w81 fun c82 =>
                      K (c82.1, c82.2.1, c82.2.2.1, c82.2.2.2.1, c82.2.2.2.2.1, c82.2.2.2.2.2) w81) (
                      joinP (σ := Tup [.one .bool]) (fun J83 =>
                        cnd (x5 == 19) (
                          J83 (x5 == 19) w71) (
                          J83 (x5 == 20) w71)) (fun s84 w85 =>
                      cnd s84 (
                        onSome t fun A86 =>
                        ldP (.int .i64) ⟨b1, 1, none⟩ w85.drew fun x87 =>
                        purlinref13_Table_There_48 (some (A86.add 1)) x87 w85.drew fun r88 w89 =>
                        cnd (!r88) (
                          purlinref14_code_39 10 w89 fun r90 w91 =>
                          stN ⟨b3, 0, none⟩ [(.int .i64 r90.1), (.int .i64 r90.2.1), (.int .i64 r90.2.2.1), (.int .i64 r90.2.2.2.1), (.slice r90.2.2.2.2.1.a r90.2.2.2.2.1.len r90.2.2.2.2.1.cap), (.slice r90.2.2.2.2.2.a r90.2.2.2.2.2.len r90.2.2.2.2.2.cap)] w91 fun w92 =>
                          ldA [.int .i64, .int .i64, .int .i64, .int .i64, .slice, .slice] ⟨b3, 0, none⟩ w92 fun c93 =>
                          K (c93.1, c93.2.1, c93.2.2.1, c93.2.2.2.1, c93.2.2.2.2.1, c93.2.2.2.2.2) w92) (
                          stN ⟨b3, 0, none⟩ [(.int .i64 0), (.int .i64 0), (.int .i64 0), (.int .i64 0), (.slice none 0 0), (.slice none 0 0)] w89 fun w94 =>
                          ldA [.int .i64, .int .i64, .int .i64, .int .i64, .slice, .slice] ⟨b3, 0, none⟩ w94 fun c95 =>
                          K (c95.1, c95.2.1, c95.2.2.1, c95.2.2.2.1, c95.2.2.2.2.1, c95.2.2.2.2.2) w94)) (
                        cnd (x5 == 21) (
                          stN ⟨b3, 0, none⟩ [(.int .i64 0), (.int .i64 0), (.int .i64 0), (.int .i64 0), (.slice none 0 0), (.slice none 0 0)] w85 fun w96 =>
                          ldA [.int .i64, .int .i64, .int .i64, .int .i64, .slice, .slice] ⟨b3, 0, none⟩ w96 fun c97 =>
                          K (c97.1, c97.2.1, c97.2.2.1, c97.2.2.2.1, c97.2.2.2.2.1, c97.2.2.2.2.2) w96) (
                          cnd (x5 == 22) (
                            cnd (x5 == 22) (
                              ldP (.int .i64) ⟨b1, 2, none⟩ w85 fun x98 =>
                              cnd (decide (x98 ≥ 0)) (
                                stN ⟨b3, 0, none⟩ [(.int .i64 0), (.int .i64 0), (.int .i64 0), (.int .i64 0), (.slice none 0 0), (.slice none 0 0)] w85 fun w99 =>
                                ldA [.int .i64, .int .i64, .int .i64, .int .i64, .slice, .slice] ⟨b3, 0, none⟩ w99 fun c100 =>
                                K (c100.1, c100.2.1, c100.2.2.1, c100.2.2.2.1, c100.2.2.2.2.1, c100.2.2.2.2.2) w99) (
                                purlinref14_code_39 2 w85 fun r101 w102 =>
                                stN ⟨b3, 0, none⟩ [(.int .i64 r101.1), (.int .i64 r101.2.1), (.int .i64 r101.2.2.1), (.int .i64 r101.2.2.2.1), (.slice r101.2.2.2.2.1.a r101.2.2.2.2.1.len r101.2.2.2.2.1.cap), (.slice r101.2.2.2.2.2.a r101.2.2.2.2.2.len r101.2.2.2.2.2.cap)] w102 fun w103 =>
                                ldA [.int .i64, .int .i64, .int .i64, .int .i64, .slice, .slice] ⟨b3, 0, none⟩ w103 fun c104 =>
                                K (c104.1, c104.2.1, c104.2.2.1, c104.2.2.2.1, c104.2.2.2.2.1, c104.2.2.2.2.2) w103)) (
                              purlinref14_code_39 2 w85 fun r105 w106 =>
                              stN ⟨b3, 0, none⟩ [(.int .i64 r105.1), (.int .i64 r105.2.1), (.int .i64 r105.2.2.1), (.int .i64 r105.2.2.2.1), (.slice r105.2.2.2.2.1.a r105.2.2.2.2.1.len r105.2.2.2.2.1.cap), (.slice r105.2.2.2.2.2.a r105.2.2.2.2.2.len r105.2.2.2.2.2.cap)] w106 fun w107 =>
                              ldA [.int .i64, .int .i64, .int .i64, .int .i64, .slice, .slice] ⟨b3, 0, none⟩ w107 fun c108 =>
                              K (c108.1, c108.2.1, c108.2.2.1, c108.2.2.2.1, c108.2.2.2.2.1, c108.2.2.2.2.2) w107)) (
                            cnd (x5 == 23) (
                              ldP (.int .i64) ⟨b1, 2, none⟩ w85 fun x109 =>
                              cnd (decide (x109 ≥ 0)) (
                                stN ⟨b3, 0, none⟩ [(.int .i64 0), (.int .i64 0), (.int .i64 0), (.int .i64 0), (.slice none 0 0), (.slice none 0 0)] w85 fun w110 =>
                                ldA [.int .i64, .int .i64, .int .i64, .int .i64, .slice, .slice] ⟨b3, 0, none⟩ w110 fun c111 =>
                                K (c111.1, c111.2.1, c111.2.2.1, c111.2.2.2.1, c111.2.2.2.2.1, c111.2.2.2.2.2) w110) (
                                purlinref14_code_39 2 w85 fun r112 w113 =>
                                stN ⟨b3, 0, none⟩ [(.int .i64 r112.1), (.int .i64 r112.2.1), (.int .i64 r112.2.2.1), (.int .i64 r112.2.2.2.1), (.slice r112.2.2.2.2.1.a r112.2.2.2.2.1.len r112.2.2.2.2.1.cap), (.slice r112.2.2.2.2.2.a r112.2.2.2.2.2.len r112.2.2.2.2.2.cap)] w113 fun w114 =>
                                ldA [.int .i64, .int .i64, .int .i64, .int .i64, .slice, .slice] ⟨b3, 0, none⟩ w114 fun c115 =>
                                K (c115.1, c115.2.1, c115.2.2.1, c115.2.2.2.1, c115.2.2.2.2.1, c115.2.2.2.2.2) w114)) (
                              purlinref14_code_39 2 w85 fun r116 w117 =>
                              stN ⟨b3, 0, none⟩ [(.int .i64 r116.1), (.int .i64 r116.2.1), (.int .i64 r116.2.2.1), (.int .i64 r116.2.2.2.1), (.slice r116.2.2.2.2.1.a r116.2.2.2.2.1.len r116.2.2.2.2.1.cap), (.slice r116.2.2.2.2.2.a r116.2.2.2.2.2.len r116.2.2.2.2.2.cap)] w117 fun w118 =>
                              ldA [.int .i64, .int .i64, .int .i64, .int .i64, .slice, .slice] ⟨b3, 0, none⟩ w118 fun c119 =>
                              K (c119.1, c119.2.1, c119.2.2.1, c119.2.2.2.1, c119.2.2.2.2.1, c119.2.2.2.2.2) w118))))))))))))))))))))
def an17 : List An := [
  .reg ⟨[], .done, []⟩,
  .reg ⟨[], .done, []⟩,
  .nop,
  .reg ⟨[], .done, []⟩,
  .nop,
  .reg ⟨[(2, [.agg [.int .i64, .int .i64, .int .i64, .int .i64, .slice, .slice]])], .done, []⟩,
  .reg ⟨[], .done, []⟩,
  .nop,
  .reg ⟨[(5, [.one (.int .i64), .one (.int .i64)])], (.nop 0 0 (.nop 1 1 (.nop 2 3 (.nop 3 0 (.nop 4 8 (.bar 5 31 (.nop 6 63 (.nop 7 127 (.nop 8 127 (.nop 9 255 (.nop 10 1023 .done))))) .none)))))), []⟩,
  .reg ⟨[(1, [.agg [.int .i64, .int .i64, .int .i64, .int .i64, .slice, .slice]])], .done, []⟩,
  .reg ⟨[], .done, []⟩,
  .join [(27, .one .bool)] [29],
  .reg ⟨[], .done, []⟩,
  .nop,
  .reg ⟨[(2, [.agg [.int .i64, .int .i64, .int .i64, .int .i64, .slice, .slice]])], .done, []⟩,
  .reg ⟨[], .done, []⟩,
  .join [(33, .one .bool)] [35],
  .reg ⟨[], .done, []⟩,
  .nop,
  .reg ⟨[(2, [.agg [.int .i64, .int .i64, .int .i64, .int .i64, .slice, .slice]])], .done, []⟩,
  .reg ⟨[], .done, []⟩,
  .nop,
  .reg ⟨[(2, [.agg [.int .i64, .int .i64, .int .i64, .int .i64, .slice, .slice]])], .done, []⟩,
  .reg ⟨[], .done, []⟩,
  .nop,
  .reg ⟨[(2, [.agg [.int .i64, .int .i64, .int .i64, .int .i64, .slice, .slice]])], .done, []⟩,
  .reg ⟨[], .done, []⟩,
  .join [(49, .one .bool)] [51],
  .reg ⟨[], .done, []⟩,
  .nop,
  .reg ⟨[(2, [.agg [.int .i64, .int .i64, .int .i64, .int .i64, .slice, .slice]])], .done, []⟩,
  .reg ⟨[], .done, []⟩,
  .join [(55, .one .bool)] [57, 58],
  .reg ⟨[], .done, []⟩,
  .join [(55, .one .bool)] [58],
  .reg ⟨[], .done, []⟩,
  .nop,
  .reg ⟨[(2, [.agg [.int .i64, .int .i64, .int .i64, .int .i64, .slice, .slice]])], .done, []⟩,
  .reg ⟨[], .done, []⟩,
  .nop,
  .reg ⟨[(2, [.agg [.int .i64, .int .i64, .int .i64, .int .i64, .slice, .slice]])], .done, []⟩,
  .reg ⟨[], .done, []⟩,
  .join [(67, .one .bool)] [69, 70, 71],
  .reg ⟨[], .done, []⟩,
  .join [(67, .one .bool)] [70, 71],
  .reg ⟨[], .done, []⟩,
  .join [(67, .one .bool)] [71],
  .reg ⟨[], .done, []⟩,
  .nop,
  .reg ⟨[(2, [.agg [.int .i64, .int .i64, .int .i64, .int .i64, .slice, .slice]])], .done, []⟩,
  .reg ⟨[], .done, []⟩,
  .join [(75, .one .bool)] [77],
  .reg ⟨[], .done, []⟩,
  .nop,
  .reg ⟨[(5, [.one .bool])], (.nop 0 0 (.nop 1 1 (.nop 2 3 (.nop 3 0 (.nop 4 8 (.bar 5 31 (.nop 6 63 .done) .none)))))), []⟩,
  .nop,
  .reg ⟨[(0, [.agg [.int .i64, .int .i64, .int .i64, .int .i64, .slice, .slice]])], .done, []⟩,
  .reg ⟨[], .done, []⟩,
  .reg ⟨[], .done, []⟩,
  .nop,
  .reg ⟨[], .done, []⟩,
  .reg ⟨[], .done, []⟩,
  .nop,
  .reg ⟨[], .done, []⟩,
  .nop,
  .reg ⟨[], .done, []⟩,
  .nop,
  .reg ⟨[], .done, []⟩,
  .reg ⟨[(0, [.agg [.int .i64, .int .i64, .int .i64, .int .i64, .slice, .slice]])], .done, []⟩]
theorem purlinref14_Tree_Do_17_of (t : Option Addr) (o : Carr [.int .i64, .int .i64, .int .i64, .int .i64, .int .i64, .str, .str, .slice]) (w : World) (K : Tup [.agg [.int .i64, .int .i64, .int .i64, .int .i64, .slice, .slice]] → World → Prop) (hF_ : F17 t o w K) : purlinref14_Tree_Do_17 t o w K :=
  call_of_F (l := an17) (args := [Ty.mk (.one .ptr) t, Ty.mk (.agg [.int .i64, .int .i64, .int .i64, .int .i64, .int .i64, .str, .str, .slice]) o]) follows tabOk Tryz.func17 (by kernel_rfl) (by kernel_rfl) (by kernel_rfl) hF_

/-- (*purlin/may.History).Nodes -/
def F18 (h : Option Addr) (w : World) (K : Tup [.one .slice] → World → Prop) : Prop :=
  cnd (Option.isNone h) (
    K ⟨none, 0, 0⟩ w) (
    onSome h fun A1 =>
    ldP (.ptr) A1 w fun x2 =>
    tree_Tree_Nodes_49 x2 w fun r3 w4 =>
    loopP (σ := Tup [.one (.int .i64)]) (fun again5 s6 w7 =>
      cnd (decide (s6 < (r3.len : Int))) (
        onSome h fun A8 =>
        ldP (.map) (A8.add 1) w7.drew fun x9 =>
        idxP s6 r3.len (
          onSome r3.a fun A10 =>
          ldP (.int .i64) ((A10.add (Int.toNat s6 * 5)).add 1) w7.drew fun x11 =>
          rdP Tryz.prog (Instr.lookup 65 (.map x9) (.int .i64 x11) false) [.one (.int .i64)] w7.drew fun c12 =>
          idxP s6 r3.len (
            onSome r3.a fun A13 =>
            stP ((A13.add (Int.toNat s6 * 5)).add 1) (.int .i64 c12) w7.drew fun w14 =>
            again5 (w64 (s6 + 1)) w14))) (
        K r3 w7)) 0 w4)
def an18 : List An := [
  .reg ⟨[], .done, []⟩,
  .reg ⟨[], .done, []⟩,
  .nop,
  .reg ⟨[], .done, []⟩,
  .reg ⟨[(4, [.one .slice])], .done, []⟩,
  .reg ⟨[], .done, []⟩,
  .nop,
  .nop,
  .loop [(14, .one (.int .i64))] [4, 15, 16, 17, 18, 19, 20, 21, 22, 23, 24, 25, 26, 27, 28, 29, 30, 31],
  .reg ⟨[], .done, []⟩,
  .nop,
  .nop,
  .reg ⟨[], .done, []⟩,
  .reg ⟨[], (.nop 0 0 (.nop 1 0 (.nop 2 0 (.nop 3 4 (.nop 4 12 (.nop 5 28 (.nop 6 0 (.nop 7 0 (.nop 8 192 (.nop 9 448 (.nop 10 960 (.nop 11 2044 (.nop 12 4095 (.nop 13 8191 (.bar 14 16383 .done .none))))))))))))))), []⟩,
  .reg ⟨[], .done, []⟩,
  .reg ⟨[], .done, []⟩]
theorem may_History_Nodes_18_of (h : Option Addr) (w : World) (K : Tup [.one .slice] → World → Prop) (hF_ : F18 h w K) : may_History_Nodes_18 h w K :=
  call_of_F (l := an18) (args := [Ty.mk (.one .ptr) h]) follows tabOk Tryz.func18 (by kernel_rfl) (by kernel_rfl) (by kernel_rfl) hF_

/-- purlin/purlinlaw0.Great -/
def F19 (o : Carr [.int .i64, .int .i64, .int .i64, .int .i64, .int .i64, .str, .str, .slice]) (w : World) (K : Tup [.one .bool] → World → Prop) : Prop :=
  newP (.cells #[(.int .i64 o.1), (.int .i64 o.2.1), (.int .i64 o.2.2.1), (.int .i64 o.2.2.2.1), (.int .i64 o.2.2.2.2.1), (.string o.2.2.2.2.2.1), (.string o.2.2.2.2.2.2.1), (.slice o.2.2.2.2.2.2.2.a o.2.2.2.2.2.2.2.len o.2.2.2.2.2.2.2.cap)] 28) w fun b1 w2 =>
  ldP (.str) ⟨b1, 5, none⟩ w2 fun x3 =>
  cnd (decide ((x3.size : Int) > 300)) (
    K true w2) (
    ldP (.str) ⟨b1, 6, none⟩ w2 fun x4 =>
    cnd (decide ((x4.size : Int) > 300)) (
      K true w2) (
      ldP (.slice) ⟨b1, 7, none⟩ w2 fun x5 =>
      K (decide ((x5.len : Int) > 3000)) w2))
def an19 : List An := [
  .reg ⟨[], .done, []⟩,
  .reg ⟨[], .done, []⟩]
theorem purlinlaw0_Great_19_of (o : Carr [.int .i64, .int .i64, .int .i64, .int .i64, .int .i64, .str, .str, .slice]) (w : World) (K : Tup [.one .bool] → World → Prop) (hF_ : F19 o w K) : purlinlaw0_Great_19 o w K :=
  call_of_F (l := an19) (args := [Ty.mk (.agg [.int .i64, .int .i64, .int .i64, .int .i64, .int .i64, .str, .str, .slice]) o]) follows tabOk Tryz.func19 (by kernel_rfl) (by kernel_rfl) (by kernel_rfl) hF_

/-- (*purlin/may.History).Crashed -/
def F20 (h : Option Addr) (ns : Sl) (w : World) (K : Tup [.one .bool] → World → Prop) : Prop :=
  may_History_Allows_13 h ns w fun r1 w2 =>
  cnd (!r1) (
    K false w2) (
    may_History_seen_27 h ns w2 fun r3 w4 =>
    newP (.map #[] 0) w4 fun b5 w6 =>
    newP (.map #[] 0) w6 fun b7 w8 =>
    loopP (σ := Tup [.one (.int .i64)]) (fun again9 s10 w11 =>
      cnd (decide (s10 < (ns.len : Int))) (
        idxP s10 ns.len (
          onSome ns.a fun A12 =>
          ldA [.str, .int .i64, .int .i64, .int .i64, .slice] (A12.add (Int.toNat s10 * 5)) w11 fun c13 =>
          newP (.cells #[(.string (⟨#[]⟩ : ByteArray)), (.int .i64 0), (.int .i64 0), (.int .i64 0), (.slice none 0 0)] 30) w11 fun b14 w15 =>
          stN ⟨b14, 0, none⟩ [(.string c13.1), (.int .i64 c13.2.1), (.int .i64 c13.2.2.1), (.int .i64 c13.2.2.2.1), (.slice c13.2.2.2.2.a c13.2.2.2.2.len c13.2.2.2.2.cap)] w15 fun w16 =>
          ldP (.str) ⟨b14, 0, none⟩ w16 fun x17 =>
          rdP Tryz.prog (Instr.lookup 66 (.map r3.1) (.string x17) false) [.one (.int .i64)] w16 fun c18 =>
          ldP (.int .i64) ⟨b14, 1, none⟩ w16 fun x19 =>
          runU Tryz.prog (Instr.mapUpdate 65 (.map (some b5)) (.int .i64 c18) (.int .i64 x19)) w16 fun w20 =>
          ldP (.slice) ⟨b14, 4, none⟩ w20 fun x21 =>
          inode_Need_50 (x21.len : Int) w20 fun r22 w23 =>
          mkSlP r22 r22 1 (newP (.cells (zrow #[(.bool false)] (Int.toNat r22 * 1)) 4) w23 fun b24 w25 =>
          loopP (σ := Tup [.one (.int .i64)]) (fun again26 s27 w28 =>
            cnd (decide (s27 < ((Int.toNat r22) : Int))) (
              idxP s27 (Int.toNat r22) (
                stP ((⟨b24, 0, none⟩ : Addr).add (Int.toNat s27 * 1)) (.bool true) w28 fun w29 =>
                again26 (w64 (s27 + 1)) w29)) (
              ldP (.int .i64) ⟨b14, 2, none⟩ w28 fun x30 =>
              joinP (σ := Tup [.one .slice]) (fun J31 =>
                cnd (x30 != 1) (
                  J31 ⟨none, 0, 0⟩ w28) (
                  J31 ⟨(some ⟨b24, 0, none⟩), (Int.toNat r22), (Int.toNat r22)⟩ w28)) (fun s32 w33 =>
              ldP (.int .i64) ⟨b14, 2, none⟩ w33 fun x34 =>
              ldP (.int .i64) ⟨b14, 3, none⟩ w33 fun x35 =>
              ldP (.slice) ⟨b14, 4, none⟩ w33 fun x36 =>
              newP (.map #[] 0) w33 fun b37 w38 =>
              newP (.cells #[(.int .i64 c18), (.int .i64 x34), (.int .i64 x35), (.slice x36.a x36.len x36.cap), (.slice s32.a s32.len s32.cap), (.map (some b37))] 108) w38 fun b39 w40 =>
              runU Tryz.prog (Instr.mapUpdate 104 (.map (some b7)) (.int .i64 c18) (.pointer (some ⟨b39, 0, none⟩))) w40 fun w41 =>
              again9 (w64 (s10 + 1)) w41))) 0 w25))) (
        runP Tryz.prog (Instr.range 66 (.map r3.1)) [.one .ptr] w11 fun c42 w43 =>
        loopP (σ := Tup []) (fun again44 _s45 w46 =>
          nextP Tryz.prog (Instr.next (.pointer c42) false 0) [.one .str, .one (.int .i64)] w46 (fun w47 =>
            maps_Keys_53 (some b7) w47 fun r50 w51 =>
            slices_Sorted_52 r50 w51 fun r52 w53 =>
            loopP (σ := Tup [.one .slice, .one (.int .i64)]) (fun again54 s55 w56 =>
              cnd (decide (s55.2 < (r52.len : Int))) (
                idxP s55.2 r52.len (
                  onSome r52.a fun A57 =>
                  ldP (.int .i64) (A57.add (Int.toNat s55.2 * 1)) w56 fun x58 =>
                  rdP Tryz.prog (Instr.lookup 104 (.map (some b7)) (.int .i64 x58) false) [.one .ptr] w56 fun c59 =>
                  onSome c59 fun A60 =>
                  ldA [.int .i64, .int .i64, .int .i64, .slice, .slice, .map] A60 w56 fun c61 =>
                  newP (.cells #[(.int .i64 c61.1), (.int .i64 c61.2.1), (.int .i64 c61.2.2.1), (.slice c61.2.2.2.1.a c61.2.2.2.1.len c61.2.2.2.1.cap), (.slice c61.2.2.2.2.1.a c61.2.2.2.2.1.len c61.2.2.2.2.1.cap), (.map c61.2.2.2.2.2)] 108) w56 fun b62 w63 =>
                  runP Tryz.prog (Builtin.append_ #[111, 111] 111 #[(.slice s55.1.a s55.1.len s55.1.cap), (.slice (some ⟨b62, 0, none⟩) 1 1)]) [.one .slice] w63 fun c64 w65 =>
                  again54 (c64, (w64 (s55.2 + 1))) w65)) (
                tree_Load_54 s55.1 w56 fun r66 w67 =>
                may_begin_25 r66 (some b5) w67 fun r68 w69 =>
                onSome r68 fun A70 =>
                ldA [.ptr, .map, .map, .map, .map, .map] A70 w69 fun c71 =>
                onSome h fun A72 =>
                stN A72 [(.pointer c71.1), (.map c71.2.1), (.map c71.2.2.1), (.map c71.2.2.2.1), (.map c71.2.2.2.2.1), (.map c71.2.2.2.2.2)] w69 fun w73 =>
                K true w73)) (⟨none, 0, 0⟩, 0) w53) (fun _c49 w48 =>
            rdP Tryz.prog (Instr.entry (.pointer c42)) [.one .str, .one (.int .i64)] w48 fun c74 =>
            may_parted_51 c74.1 w48 fun r75 w76 =>
            cnd r75.2.2 (
              rdP Tryz.prog (Instr.lookup 66 (.map r3.1) (.string r75.1) false) [.one (.int .i64)] w76 fun c77 =>
              rdP Tryz.prog (Instr.lookup 104 (.map (some b7)) (.int .i64 c77) false) [.one .ptr] w76 fun c78 =>
              onSome c78 fun A79 =>
              ldP (.map) (A79.add 5) w76 fun x80 =>
              runU Tryz.prog (Instr.mapUpdate 66 (.map x80) (.string r75.2.1) (.int .i64 c74.2)) w76 fun w81 =>
              again44 () w81) (
              again44 () w76))) () w43)) 0 w8)
def an20 : List An := [
  .reg ⟨[], .done, []⟩,
  .reg ⟨[(2, [.one .bool])], .done, []⟩,
  .nop,
  .reg ⟨[], .done, []⟩,
  .reg ⟨[(2, [.one .map, .one .bool])], .done, []⟩,
  .reg ⟨[], .done, []⟩,
  .reg ⟨[], .done, []⟩,
  .reg ⟨[], .done, []⟩,
  .nop,
  .nop,
  .loop [(36, .one (.int .i64))] [10, 11, 12, 13, 37, 38, 39, 40, 41, 42, 43, 44, 45, 46, 47, 48, 49, 50, 51, 52, 53, 54, 55, 56, 57, 58, 59, 60, 61, 62, 63, 64, 65, 66, 67, 68, 69, 70, 71, 72, 73, 74, 75, 76, 77, 78],
  .reg ⟨[], .done, []⟩,
  .nop,
  .nop,
  .reg ⟨[], .done, []⟩,
  .reg ⟨[], .done, []⟩,
  .reg ⟨[], .done, []⟩,
  .reg ⟨[(3, [.one (.int .i64)])], .done, []⟩,
  .reg ⟨[], .done, []⟩,
  .nop,
  .nop,
  .loop [(55, .one (.int .i64))] [13, 56, 57, 58, 59, 60, 61],
  .reg ⟨[], .done, []⟩,
  .nop,
  .nop,
  .reg ⟨[], .done, []⟩,
  .reg ⟨[], .done, []⟩,
  .reg ⟨[], .done, []⟩,
  .reg ⟨[], .done, []⟩,
  .join [(12, .one .slice)] [],
  .reg ⟨[], .done, []⟩,
  .reg ⟨[], .done, []⟩,
  .reg ⟨[], .done, []⟩,
  .reg ⟨[], .done, []⟩,
  .nop,
  .nop,
  .loop [] [14, 15, 16, 17, 18, 81, 82, 83, 84, 85, 86, 87, 88, 89, 90, 91, 92, 93, 94, 95, 96, 97, 98, 99, 100, 101, 102],
  .reg ⟨[(0, [.one .str, .one (.int .i64)])], .done, []⟩,
  .nop,
  .nop,
  .reg ⟨[(0, [.one .str, .one (.int .i64)])], .done, []⟩,
  .reg ⟨[(1, [.one .str, .one .str, .one .bool])], .done, []⟩,
  .reg ⟨[], .done, []⟩,
  .nop,
  .reg ⟨[], .done, []⟩,
  .reg ⟨[], .done, []⟩,
  .reg ⟨[(1, [.one .any]), (2, [.one .slice])], .done, []⟩,
  .nop,
  .nop,
  .loop [(19, .one .slice), (107, .one (.int .i64))] [21, 108, 109, 110, 111, 112, 113, 114, 115, 116, 117, 118, 119],
  .reg ⟨[], .done, []⟩,
  .nop,
  .nop,
  .reg ⟨[], .done, []⟩,
  .reg ⟨[(7, [.one .slice])], .done, []⟩,
  .reg ⟨[], .done, []⟩,
  .reg ⟨[(2, [.one .ptr]), (4, [.one .ptr])], .done, []⟩,
  .reg ⟨[], .done, []⟩]
theorem may_History_Crashed_20_of (h : Option Addr) (ns : Sl) (w : World) (K : Tup [.one .bool] → World → Prop) (hF_ : F20 h ns w K) : may_History_Crashed_20 h ns w K :=
  call_of_F (l := an20) (args := [Ty.mk (.one .ptr) h, Ty.mk (.one .slice) ns]) follows tabOk Tryz.func20 (by kernel_rfl) (by kernel_rfl) (by kernel_rfl) hF_

/-- purlin/purlinref24.New -/
def F21  (w : World) (K : Tup [.one .ptr] → World → Prop) : Prop :=
  purlinref14_New_15  w fun r1 w2 =>
  newP (.cells #[(.pointer r1)] 36) w2 fun b3 w4 =>
  newP (.cells #[(.int .i64 0), (.int .i64 1)] 3) w4 fun b5 w6 =>
  newP (.cells #[(.int .i64 0), (.int .i64 0)] 3) w6 fun b7 w8 =>
  newP (.cells #[(.int .i64 0), (.int .i64 0)] 3) w8 fun b9 w10 =>
  newP (.cells #[(.int .i64 (-1)), (.int .i64 0)] 3) w10 fun b11 w12 =>
  newP (.cells #[(.slice (some ⟨b3, 0, none⟩) 1 1), (.slice (some ⟨b5, 0, none⟩) 2 2), (.int .i64 0), (.slice (some ⟨b7, 0, none⟩) 2 2), (.slice none 0 0), (.slice (some ⟨b9, 0, none⟩) 2 2), (.slice (some ⟨b11, 0, none⟩) 2 2), (.int .i64 0), (.string (⟨#[]⟩ : ByteArray)), (.int .i64 0), (.int .i64 0), (.string (⟨#[]⟩ : ByteArray)), (.int .i64 0), (.int .i64 0), (.string (⟨#[]⟩ : ByteArray)), (.int .i64 0), (.int .i64 0), (.string (⟨#[]⟩ : ByteArray)), (.int .i64 0), (.int .i64 0), (.string (⟨#[]⟩ : ByteArray)), (.int .i64 0), (.int .i64 0), (.string (⟨#[]⟩ : ByteArray)), (.int .i64 0), (.int .i64 0), (.string (⟨#[]⟩ : ByteArray)), (.int .i64 0), (.int .i64 0), (.string (⟨#[]⟩ : ByteArray)), (.int .i64 0), (.int .i64 0), (.string (⟨#[]⟩ : ByteArray)), (.int .i64 0), (.int .i64 0), (.string (⟨#[]⟩ : ByteArray)), (.int .i64 0), (.int .i64 0), (.string (⟨#[]⟩ : ByteArray)), (.int .i64 0), (.int .i64 0), (.string (⟨#[]⟩ : ByteArray)), (.int .i64 0), (.int .i64 0), (.string (⟨#[]⟩ : ByteArray)), (.int .i64 0), (.int .i64 0), (.string (⟨#[]⟩ : ByteArray)), (.int .i64 0), (.int .i64 0), (.string (⟨#[]⟩ : ByteArray)), (.int .i64 0), (.int .i64 0), (.string (⟨#[]⟩ : ByteArray)), (.int .i64 0)] 59) w12 fun b13 w14 =>
  K (some ⟨b13, 0, none⟩) w14
def an21 : List An := [
  .reg ⟨[], .done, []⟩,
  .reg ⟨[(0, [.one .ptr])], .done, []⟩]
theorem purlinref24_New_21_of (w : World) (K : Tup [.one .ptr] → World → Prop) (hF_ : F21  w K) : purlinref24_New_21  w K :=
  call_of_F (l := an21) (args := []) follows tabOk Tryz.func21 (by kernel_rfl) (by kernel_rfl) (by kernel_rfl) hF_

/-- (*purlin/purlinref24.History).Did -/
def F23 (h : Option Addr) (o : Carr [.int .i64, .int .i64, .int .i64, .int .i64, .int .i64, .str, .str, .slice]) (code : Int) (number : Int) (w : World) (K : Tup [.one .bool] → World → Prop) : Prop :=
  newP (.cells #[(.int .i64 o.1), (.int .i64 o.2.1), (.int .i64 o.2.2.1), (.int .i64 o.2.2.2.1), (.int .i64 o.2.2.2.2.1), (.string o.2.2.2.2.2.1), (.string o.2.2.2.2.2.2.1), (.slice o.2.2.2.2.2.2.2.a o.2.2.2.2.2.2.2.len o.2.2.2.2.2.2.2.cap)] 28) w fun b1 w2 =>
  cnd (code == 13) (
    K true w2) (
    purlinref24_History_now_55 h w2 fun r3 w4 =>
    purlinref14_Tree_Copy_22 r3.1 w4 fun r5 w6 =>
    ldA [.int .i64, .int .i64, .int .i64, .int .i64, .int .i64, .str, .str, .slice] ⟨b1, 0, none⟩ w6 fun c7 =>
    purlinref14_Tree_Do_17 r5 (c7.1, c7.2.1, c7.2.2.1, c7.2.2.2.1, c7.2.2.2.2.1, c7.2.2.2.2.2.1, c7.2.2.2.2.2.2.1, c7.2.2.2.2.2.2.2) w6 fun r8 w9 =>
    newP (.cells #[(.int .i64 0), (.int .i64 0), (.int .i64 0), (.int .i64 0), (.slice none 0 0), (.slice none 0 0)] 43) w9 fun b10 w11 =>
    stN ⟨b10, 0, none⟩ [(.int .i64 r8.1), (.int .i64 r8.2.1), (.int .i64 r8.2.2.1), (.int .i64 r8.2.2.2.1), (.slice r8.2.2.2.2.1.a r8.2.2.2.2.1.len r8.2.2.2.2.1.cap), (.slice r8.2.2.2.2.2.a r8.2.2.2.2.2.len r8.2.2.2.2.2.cap)] w11 fun w12 =>
    cnd (code == 4) (
      ldP (.int .i64) ⟨b10, 0, none⟩ w12 fun x13 =>
      cnd (x13 == 0) (
        onSome h fun A14 =>
        ldP (.slice) A14 w12 fun x15 =>
        newP (.cells #[(.pointer r5)] 36) w12 fun b16 w17 =>
        runP Tryz.prog (Builtin.append_ #[52, 52] 52 #[(.slice x15.a x15.len x15.cap), (.slice (some ⟨b16, 0, none⟩) 1 1)]) [.one .slice] w17 fun c18 w19 =>
        onSome h fun A20 =>
        stP A20 (.slice c18.a c18.len c18.cap) w19 fun w21 =>
        purlinref24_History_grow_56 h 0 w21 fun _r22 w23 =>
        K true w23) (
        K true w12)) (
      ldP (.int .i64) ⟨b10, 0, none⟩ w12 fun x24 =>
      cnd (x24 != code) (
        K false w12) (
        cnd (code != 0) (
          K true w12) (
          ldP (.int .i64) ⟨b1, 0, none⟩ w12 fun x25 =>
          joinP (σ := Tup []) (fun J26 =>
            cnd (x25 == 1) (
              ldP (.str) ⟨b1, 5, none⟩ w12 fun x29 =>
              purlinref14_Tree_Find_57 r5 x29 false w12 fun r30 w31 =>
              newP (.cells #[(.int .i64 0), (.string (⟨#[]⟩ : ByteArray)), (.int .i64 0)] 56) w31 fun b32 w33 =>
              stN ⟨b32, 0, none⟩ [(.int .i64 r30.1.1), (.string r30.1.2.1), (.int .i64 r30.1.2.2)] w33 fun w34 =>
              joinP (σ := Tup []) (fun J35 =>
                cnd (r30.2 == 0) (
                  ldP (.int .i64) ⟨b10, 1, none⟩ w34.drew fun x38 =>
                  ldA [.int .i64, .str, .int .i64] ⟨b32, 0, none⟩ w34.drew fun c39 =>
                  onSome h fun A40 =>
                  idxP x38 16 (
                    stN ((A40.add 7).add (Int.toNat x38 * 3)) [(.int .i64 c39.1), (.string c39.2.1), (.int .i64 c39.2.2)] w34.drew fun w41 =>
                    J35 () w41)) (
                  J35 () w34)) (fun _s36 w37 =>
              J26 () w37)) (
              J26 () w12)) (fun _s27 w28 =>
          onSome h fun A42 =>
          ldP (.slice) A42 w28 fun x43 =>
          newP (.cells #[(.pointer r5)] 36) w28 fun b44 w45 =>
          runP Tryz.prog (Builtin.append_ #[52, 52] 52 #[(.slice x43.a x43.len x43.cap), (.slice (some ⟨b44, 0, none⟩) 1 1)]) [.one .slice] w45 fun c46 w47 =>
          onSome h fun A48 =>
          stP A48 (.slice c46.a c46.len c46.cap) w47 fun w49 =>
          purlinref24_History_grow_56 h number w49 fun _r50 w51 =>
          ldA [.int .i64, .int .i64, .int .i64, .int .i64, .int .i64, .str, .str, .slice] ⟨b1, 0, none⟩ w51 fun c52 =>
          purlinref24_History_last_58 h (c52.1, c52.2.1, c52.2.2.1, c52.2.2.2.1, c52.2.2.2.2.1, c52.2.2.2.2.2.1, c52.2.2.2.2.2.2.1, c52.2.2.2.2.2.2.2) w51 fun _r53 w54 =>
          K true w54)))))
def an23 : List An := [
  .reg ⟨[], .done, []⟩,
  .reg ⟨[], .done, []⟩,
  .nop,
  .reg ⟨[], .done, []⟩,
  .reg ⟨[(1, [.one .ptr, .one (.int .i64)])], .done, []⟩,
  .reg ⟨[(1, [.one .ptr])], .done, []⟩,
  .reg ⟨[(2, [.agg [.int .i64, .int .i64, .int .i64, .int .i64, .slice, .slice]])], .done, []⟩,
  .reg ⟨[], .done, []⟩,
  .nop,
  .reg ⟨[], .done, []⟩,
  .nop,
  .reg ⟨[(7, [.one .slice])], .done, []⟩,
  .reg ⟨[(1, [])], .done, []⟩,
  .reg ⟨[], .done, []⟩,
  .reg ⟨[], .done, []⟩,
  .nop,
  .reg ⟨[], .done, []⟩,
  .reg ⟨[], .done, []⟩,
  .nop,
  .reg ⟨[], .done, []⟩,
  .reg ⟨[], .done, []⟩,
  .join [] [13, 14, 53, 54, 55, 56, 57, 58, 59, 60, 61, 62, 63, 64, 65, 66, 67, 68],
  .reg ⟨[(3, [.agg [.int .i64, .str, .int .i64], .one (.int .i64)])], .done, []⟩,
  .reg ⟨[], .done, []⟩,
  .join [] [62, 63, 64, 65, 66, 67, 68],
  .reg ⟨[], (.nop 0 0 (.nop 1 0 (.nop 2 2 (.nop 3 0 (.nop 4 1 (.nop 5 17 (.nop 6 63 (.bar 7 127 .done .none)))))))), []⟩,
  .reg ⟨[(7, [.one .slice])], .done, []⟩,
  .reg ⟨[(2, [])], .done, []⟩,
  .reg ⟨[(2, [])], .done, []⟩,
  .reg ⟨[], .done, []⟩]
theorem purlinref24_History_Did_23_of (h : Option Addr) (o : Carr [.int .i64, .int .i64, .int .i64, .int .i64, .int .i64, .str, .str, .slice]) (code : Int) (number : Int) (w : World) (K : Tup [.one .bool] → World → Prop) (hF_ : F23 h o code number w K) : purlinref24_History_Did_23 h o code number w K :=
  call_of_F (l := an23) (args := [Ty.mk (.one .ptr) h, Ty.mk (.agg [.int .i64, .int .i64, .int .i64, .int .i64, .int .i64, .str, .str, .slice]) o, Ty.mk (.one (.int .i64)) code, Ty.mk (.one (.int .i64)) number]) follows tabOk Tryz.func23 (by kernel_rfl) (by kernel_rfl) (by kernel_rfl) hF_

/-- purlin/purlinlaw0.Low -/
def F24 (x : Int) (n : Int) (w : World) (K : Tup [.one (.int .i64)] → World → Prop) : Prop :=
  ((IntKind.wrap .u64 (n)) : Int) ≠ 0 ∧
  K (w64 ((Int.tmod (IntKind.wrap .u64 (x)) (IntKind.wrap .u64 (n))))) w
def an24 : List An := [
  .reg ⟨[], .done, []⟩,
  .reg ⟨[], .done, []⟩]
theorem purlinlaw0_Low_24_of (x : Int) (n : Int) (w : World) (K : Tup [.one (.int .i64)] → World → Prop) (hF_ : F24 x n w K) : purlinlaw0_Low_24 x n w K :=
  call_of_F (l := an24) (args := [Ty.mk (.one (.int .i64)) x, Ty.mk (.one (.int .i64)) n]) follows tabOk Tryz.func24 (by kernel_rfl) (by kernel_rfl) (by kernel_rfl) hF_

/-- purlin/may.begin -/
def F25 (t : Option Addr) (numbers : Option Nat) (w : World) (K : Tup [.one .ptr] → World → Prop) : Prop :=
  newP (.map #[] 0) w fun b1 w2 =>
  newP (.map #[] 0) w2 fun b3 w4 =>
  newP (.map #[] 0) w4 fun b5 w6 =>
  newP (.map #[] 0) w6 fun b7 w8 =>
  newP (.cells #[(.pointer t), (.map numbers), (.map (some b1)), (.map (some b3)), (.map (some b5)), (.map (some b7))] 75) w8 fun b9 w10 =>
  may_History_note_34 (some ⟨b9, 0, none⟩) t w10 fun _r11 w12 =>
  ldP (.map) ⟨b9, 4, none⟩ w12 fun x13 =>
  runP Tryz.prog (Instr.range 72 (.map x13)) [.one .ptr] w12 fun c14 w15 =>
  loopP (σ := Tup []) (fun again16 _s17 w18 =>
    nextP Tryz.prog (Instr.next (.pointer c14) false 0) [.agg [.int .i64, .str], .one .slice] w18 (fun w19 =>
      ldP (.map) ⟨b9, 2, none⟩ w19 fun x22 =>
      runP Tryz.prog (Instr.range 70 (.map x22)) [.one .ptr] w19 fun c23 w24 =>
      loopP (σ := Tup []) (fun again25 _s26 w27 =>
        nextP Tryz.prog (Instr.next (.pointer c23) false 0) [.one (.int .i64), .one .ptr] w27 (fun w28 =>
          K (some ⟨b9, 0, none⟩) w28) (fun _c30 w29 =>
          rdP Tryz.prog (Instr.entry (.pointer c23)) [.one (.int .i64), .one .ptr] w29 fun c31 =>
          may_History_firm_60 (some ⟨b9, 0, none⟩) c31.1 w29 fun _r32 w33 =>
          again25 () w33)) () w24) (fun _c21 w20 =>
      rdP Tryz.prog (Instr.entry (.pointer c14)) [.agg [.int .i64, .str], .one .slice] w20 fun c34 =>
      newP (.cells #[(.int .i64 0), (.string (⟨#[]⟩ : ByteArray))] 77) w20 fun b35 w36 =>
      stN ⟨b35, 0, none⟩ [(.int .i64 c34.1.1), (.string c34.1.2)] w36 fun w37 =>
      ldA [.int .i64, .str] ⟨b35, 0, none⟩ w37 fun c38 =>
      may_History_last_59 (some ⟨b9, 0, none⟩) (c38.1, c38.2) w37 fun _r39 w40 =>
      again16 () w40)) () w15
def an25 : List An := [
  .reg ⟨[], .done, []⟩,
  .reg ⟨[], .done, []⟩,
  .reg ⟨[(2, [])], .done, []⟩,
  .reg ⟨[], .done, []⟩,
  .nop,
  .nop,
  .loop [] [6, 24, 25, 26, 27, 28, 29, 30],
  .reg ⟨[(0, [.agg [.int .i64, .str], .one .slice])], .done, []⟩,
  .nop,
  .nop,
  .reg ⟨[(0, [.agg [.int .i64, .str], .one .slice])], .done, []⟩,
  .reg ⟨[(2, [])], .done, []⟩,
  .reg ⟨[], .done, []⟩,
  .nop,
  .nop,
  .loop [] [7, 36, 37, 38, 39, 40, 41, 42],
  .reg ⟨[(0, [.one (.int .i64), .one .ptr])], .done, []⟩,
  .nop,
  .nop,
  .reg ⟨[(0, [.one (.int .i64), .one .ptr])], .done, []⟩,
  .reg ⟨[(2, [])], .done, []⟩,
  .reg ⟨[], .done, []⟩]
theorem may_begin_25_of (t : Option Addr) (numbers : Option Nat) (w : World) (K : Tup [.one .ptr] → World → Prop) (hF_ : F25 t numbers w K) : may_begin_25 t numbers w K :=
  call_of_F (l := an25) (args := [Ty.mk (.one .ptr) t, Ty.mk (.one .map) numbers]) follows tabOk Tryz.func25 (by kernel_rfl) (by kernel_rfl) (by kernel_rfl) hF_

/-- purlin/tree.New -/
def F26  (w : World) (K : Tup [.one .ptr] → World → Prop) : Prop :=
  newP (.map #[] 0) w fun b1 w2 =>
  newP (.map #[] 0) w2 fun b3 w4 =>
  newP (.cells #[(.int .i64 2), (.slice none 0 0), (.slice none 0 0), (.map (some b3)), (.int .i64 0), (.int .i64 1), (.int .i64 0)] 126) w4 fun b5 w6 =>
  runU Tryz.prog (Instr.mapUpdate 127 (.map (some b1)) (.int .i64 1) (.pointer (some ⟨b5, 0, none⟩))) w6 fun w7 =>
  table_New_61  w7 fun r8 w9 =>
  newP (.cells #[(.map (some b1)), (.int .i64 1), (.pointer r8)] 131) w9 fun b10 w11 =>
  K (some ⟨b10, 0, none⟩) w11
def an26 : List An := [
  .reg ⟨[], .done, []⟩,
  .reg ⟨[(6, [.one .ptr])], .done, []⟩]
theorem tree_New_26_of (w : World) (K : Tup [.one .ptr] → World → Prop) (hF_ : F26  w K) : tree_New_26  w K :=
  call_of_F (l := an26) (args := []) follows tabOk Tryz.func26 (by kernel_rfl) (by kernel_rfl) (by kernel_rfl) hF_

/-- (*purlin/may.History).seen -/
def F27 (h : Option Addr) (ns : Sl) (w : World) (K : Tup [.one .map, .one .bool] → World → Prop) : Prop :=
  newP (.map #[] 0) w fun b1 w2 =>
  loopP (σ := Tup [.one (.int .i64)]) (fun again3 s4 w5 =>
    cnd (decide (s4 < (ns.len : Int))) (
      idxP s4 ns.len (
        onSome ns.a fun A6 =>
        ldA [.str, .int .i64, .int .i64, .int .i64, .slice] (A6.add (Int.toNat s4 * 5)) w5 fun c7 =>
        newP (.cells #[(.string (⟨#[]⟩ : ByteArray)), (.int .i64 0), (.int .i64 0), (.int .i64 0), (.slice none 0 0)] 30) w5 fun b8 w9 =>
        stN ⟨b8, 0, none⟩ [(.string c7.1), (.int .i64 c7.2.1), (.int .i64 c7.2.2.1), (.int .i64 c7.2.2.2.1), (.slice c7.2.2.2.2.a c7.2.2.2.2.len c7.2.2.2.2.cap)] w9 fun w10 =>
        ldP (.int .i64) ⟨b8, 1, none⟩ w10 fun x11 =>
        may_History_node_62 h x11 w10 fun r12 w13 =>
        ldP (.str) ⟨b8, 0, none⟩ w13 fun x14 =>
        rdP Tryz.prog (Instr.lookup 66 (.map (some b1)) (.string x14) true) [.one (.int .i64), .one .bool] w13 fun c15 =>
        joinP (σ := Tup [.one .bool]) (fun J16 =>
          cnd c15.2 (
            J16 true w13.drew) (
            cnd (r12 == 0) (
              J16 true w13.drew) (
              onSome h fun A19 =>
              ldP (.map) (A19.add 2) w13.drew fun x20 =>
              rdP Tryz.prog (Instr.lookup 70 (.map x20) (.int .i64 r12) false) [.one .ptr] w13.drew fun c21 =>
              cnd (Option.isNone c21) (
                J16 true w13.drew) (
                onSome h fun A22 =>
                ldP (.map) (A22.add 2) w13.drew fun x23 =>
                rdP Tryz.prog (Instr.lookup 70 (.map x23) (.int .i64 r12) false) [.one .ptr] w13.drew fun c24 =>
                onSome c24 fun A25 =>
                ldP (.int .i64) A25 w13.drew fun x26 =>
                ldP (.int .i64) ⟨b8, 2, none⟩ w13.drew fun x27 =>
                J16 (x26 != x27) w13.drew)))) (fun s17 w18 =>
        cnd s17 (
          K (none, false) w18) (
          ldP (.str) ⟨b8, 0, none⟩ w18 fun x28 =>
          runU Tryz.prog (Instr.mapUpdate 66 (.map (some b1)) (.string x28) (.int .i64 r12)) w18 fun w29 =>
          again3 (w64 (s4 + 1)) w29)))) (
      rdP Tryz.prog (Instr.lookup 66 (.map (some b1)) (.string (⟨#[47]⟩ : ByteArray)) false) [.one (.int .i64)] w5 fun c30 =>
      cnd (c30 != 1) (
        K (none, false) w5) (
        K ((some b1), true) w5))) 0 w2
def an27 : List An := [
  .reg ⟨[], .done, []⟩,
  .reg ⟨[], .done, []⟩,
  .reg ⟨[], .done, []⟩,
  .nop,
  .nop,
  .loop [(15, .one (.int .i64))] [4, 5, 8, 9, 10, 11, 16, 17, 18, 19, 20, 21, 22, 23, 24, 25, 26, 27, 28, 29, 30, 31, 32, 33, 34, 35, 36, 37, 38, 39, 40, 41, 42, 43, 44, 45, 46, 47, 48, 49, 50, 51, 52, 53, 54, 55, 56, 57, 58, 59, 60, 61, 62],
  .reg ⟨[], .done, []⟩,
  .nop,
  .nop,
  .reg ⟨[], .done, []⟩,
  .reg ⟨[(3, [.one (.int .i64)])], .done, []⟩,
  .reg ⟨[], .done, []⟩,
  .join [(57, .one .bool)] [30, 31, 32, 33, 34, 35, 36, 37, 38, 39, 40, 41, 42, 43, 44, 45, 46, 47, 48, 49, 50, 51, 52, 53, 54, 55, 56],
  .reg ⟨[], (.nop 0 0 (.nop 1 1 (.nop 2 3 (.nop 3 7 (.nop 4 15 (.nop 5 31 (.nop 6 63 (.nop 7 127 (.nop 8 255 (.nop 9 511 (.nop 10 63 (.nop 11 2047 (.nop 12 4095 (.nop 13 8191 (.nop 14 16383 (.nop 15 32767 (.nop 16 65535 (.nop 17 131071 (.nop 18 262143 (.nop 19 32767 (.nop 20 1048575 (.nop 21 2097151 (.nop 22 4194303 (.nop 23 8388607 (.nop 24 32767 (.nop 25 16809983 (.nop 26 67108863 (.nop 27 134217727 .done)))))))))))))))))))))))))))), []⟩,
  .nop,
  .reg ⟨[], .done, []⟩,
  .reg ⟨[], .done, []⟩,
  .reg ⟨[], .done, []⟩,
  .reg ⟨[], .done, []⟩,
  .nop,
  .reg ⟨[], .done, []⟩,
  .reg ⟨[], .done, []⟩]
theorem may_History_seen_27_of (h : Option Addr) (ns : Sl) (w : World) (K : Tup [.one .map, .one .bool] → World → Prop) (hF_ : F27 h ns w K) : may_History_seen_27 h ns w K :=
  call_of_F (l := an27) (args := [Ty.mk (.one .ptr) h, Ty.mk (.one .slice) ns]) follows tabOk Tryz.func27 (by kernel_rfl) (by kernel_rfl) (by kernel_rfl) hF_

/-- (*purlin/may.History).fits -/
def F28 (h : Option Addr) (x : Carr [.str, .int .i64, .int .i64, .int .i64, .slice]) (at_ : Option Nat) (many : Option Nat) (w : World) (K : Tup [.one .bool] → World → Prop) : Prop :=
  newP (.cells #[(.string x.1), (.int .i64 x.2.1), (.int .i64 x.2.2.1), (.int .i64 x.2.2.2.1), (.slice x.2.2.2.2.a x.2.2.2.2.len x.2.2.2.2.cap)] 30) w fun b1 w2 =>
  ldP (.str) ⟨b1, 0, none⟩ w2 fun x3 =>
  rdP Tryz.prog (Instr.lookup 66 (.map at_) (.string x3) false) [.one (.int .i64)] w2 fun c4 =>
  onSome h fun A5 =>
  ldP (.map) (A5.add 2) w2 fun x6 =>
  rdP Tryz.prog (Instr.lookup 70 (.map x6) (.int .i64 c4) false) [.one .ptr] w2 fun c7 =>
  ldP (.str) ⟨b1, 0, none⟩ w2 fun x8 =>
  joinP (σ := Tup []) (fun J9 =>
    cnd (!(x8.toList == (⟨#[47]⟩ : ByteArray).toList)) (
      ldP (.str) ⟨b1, 0, none⟩ w2 fun x12 =>
      may_parted_51 x12 w2 fun r13 w14 =>
      rdP Tryz.prog (Instr.lookup 66 (.map at_) (.string r13.1) false) [.one (.int .i64)] w14 fun c15 =>
      joinP (σ := Tup [.one .bool]) (fun J16 =>
        cnd (!r13.2.2) (
          J16 true w14) (
          cnd (c15 == 0) (
            J16 true w14) (
            onSome h fun A19 =>
            ldP (.map) (A19.add 2) w14 fun x20 =>
            rdP Tryz.prog (Instr.lookup 70 (.map x20) (.int .i64 c15) false) [.one .ptr] w14 fun c21 =>
            onSome c21 fun A22 =>
            ldP (.int .i64) A22 w14 fun x23 =>
            cnd (x23 != 2) (
              J16 true w14) (
              may_History_values_63 h (c15, r13.2.1) w14 fun r24 w25 =>
              slices_Contains_29 r24 c4 w25 fun r26 w27 =>
              J16 (!r26) w27)))) (fun s17 w18 =>
      cnd s17 (
        K false w18) (
        J9 () w18))) (
      J9 () w2)) (fun _s10 w11 =>
  onSome c7 fun A28 =>
  ldP (.int .i64) A28 w11 fun x29 =>
  cnd (x29 == 2) (
    ldP (.int .i64) ⟨b1, 3, none⟩ w11 fun x30 =>
    cnd (x30 == 1) (
      ldP (.slice) ⟨b1, 4, none⟩ w11 fun x31 =>
      K ((x31.len : Int) == 0) w11) (
      K false w11)) (
    cnd (x29 == 3) (
      ldP (.int .i64) ⟨b1, 3, none⟩ w11.drew fun x32 =>
      rdP Tryz.prog (Instr.lookup 65 (.map many) (.int .i64 c4) false) [.one (.int .i64)] w11.drew fun c33 =>
      cnd (x32 == c33) (
        ldP (.slice) ⟨b1, 4, none⟩ w11.drew fun x34 =>
        rdP Tryz.prog (convert 22 9 (.slice x34.a x34.len x34.cap)) [.one .str] w11.drew fun c35 =>
        onSome c7 fun A36 =>
        ldP (.str) (A36.add 1) w11.drew fun x37 =>
        K (c35.toList == x37.toList) w11.drew) (
        K false w11.drew)) (
      ldP (.int .i64) ⟨b1, 3, none⟩ w11 fun x38 =>
      rdP Tryz.prog (Instr.lookup 65 (.map many) (.int .i64 c4) false) [.one (.int .i64)] w11 fun c39 =>
      cnd (x38 == c39) (
        ldP (.slice) ⟨b1, 4, none⟩ w11 fun x40 =>
        may_file_holds_64 c7 x40 w11 fun r41 w42 =>
        K r41 w42) (
        K false w11))))
def an28 : List An := [
  .reg ⟨[], .done, []⟩,
  .reg ⟨[], .done, []⟩,
  .reg ⟨[], .done, []⟩,
  .reg ⟨[], .done, []⟩,
  .join [] [8, 11, 12, 13, 14, 28, 29, 30, 31, 32, 33, 34, 35, 36, 37, 38, 39, 40, 41, 42, 43, 44, 45, 46, 47, 48, 49, 50, 51, 52, 53, 54, 55, 56, 57, 58, 59, 60, 61, 62, 63, 64, 65],
  .reg ⟨[(2, [.one .str, .one .str, .one .bool])], .done, []⟩,
  .reg ⟨[], .done, []⟩,
  .join [(65, .one .bool)] [38, 39, 40, 41, 42, 43, 44, 45, 46, 47, 48, 49, 50, 51, 52, 53, 54, 55, 56, 57, 58, 59, 60, 61, 62, 63, 64],
  .reg ⟨[(23, [.one .slice]), (25, [.one .bool])], .done, []⟩,
  .nop,
  .reg ⟨[], .done, []⟩,
  .reg ⟨[], .done, []⟩,
  .nop,
  .reg ⟨[], .done, []⟩,
  .nop,
  .reg ⟨[], .done, []⟩,
  .reg ⟨[], .done, []⟩,
  .nop,
  .reg ⟨[], (.nop 0 0 (.nop 1 1 (.nop 2 0 (.nop 3 0 (.nop 4 12 (.nop 5 31 (.nop 6 63 (.nop 7 127 (.nop 8 255 (.nop 9 511 (.nop 10 127 (.nop 11 1151 (.nop 12 3199 (.nop 13 7295 (.nop 14 16383 (.nop 15 32767 (.nop 16 65535 .done))))))))))))))))), []⟩,
  .reg ⟨[(10, [.one .bool])], .done, []⟩]
theorem may_History_fits_28_of (h : Option Addr) (x : Carr [.str, .int .i64, .int .i64, .int .i64, .slice]) (at_ : Option Nat) (many : Option Nat) (w : World) (K : Tup [.one .bool] → World → Prop) (hF_ : F28 h x at_ many w K) : may_History_fits_28 h x at_ many w K :=
  call_of_F (l := an28) (args := [Ty.mk (.one .ptr) h, Ty.mk (.agg [.str, .int .i64, .int .i64, .int .i64, .slice]) x, Ty.mk (.one .map) at_, Ty.mk (.one .map) many]) follows tabOk Tryz.func28 (by kernel_rfl) (by kernel_rfl) (by kernel_rfl) hF_

/-- slices.Contains[[]int,int] -/
def F29 (p0 : Sl) (s : Int) (w : World) (K : Tup [.one .bool] → World → Prop) : Prop :=
  slices_Index_65 p0 s w fun r1 w2 =>
  K (decide (r1 ≥ 0)) w2
def an29 : List An := [
  .reg ⟨[], .done, []⟩,
  .reg ⟨[(2, [.one (.int .i64)])], .done, []⟩]
theorem slices_Contains_29_of (p0 : Sl) (s : Int) (w : World) (K : Tup [.one .bool] → World → Prop) (hF_ : F29 p0 s w K) : slices_Contains_29 p0 s w K :=
  call_of_F (l := an29) (args := [Ty.mk (.one .slice) p0, Ty.mk (.one (.int .i64)) s]) follows tabOk Tryz.func29 (by kernel_rfl) (by kernel_rfl) (by kernel_rfl) hF_

/-- strings.TrimSuffix -/
def F30 (s : ByteArray) (suffix : ByteArray) (w : World) (K : Tup [.one .str] → World → Prop) : Prop :=
  stringslite_TrimSuffix_66 s suffix w fun r1 w2 =>
  K r1 w2
def an30 : List An := [
  .reg ⟨[], .done, []⟩,
  .reg ⟨[(2, [.one .str])], .done, []⟩]
theorem strings_TrimSuffix_30_of (s : ByteArray) (suffix : ByteArray) (w : World) (K : Tup [.one .str] → World → Prop) (hF_ : F30 s suffix w K) : strings_TrimSuffix_30 s suffix w K :=
  call_of_F (l := an30) (args := [Ty.mk (.one .str) s, Ty.mk (.one .str) suffix]) follows tabOk Tryz.func30 (by kernel_rfl) (by kernel_rfl) (by kernel_rfl) hF_

end Go.Proofs.YtcpoglgnkedpaaaGreatDoor

/-
  What the functions' bodies ask (printed by vcgen.py).
-/
namespace Go.Proofs.YtcpoglgnkedpaaaGreatDoor
open Go Go.Vc Go.Proofs


/-- purlin/purlinlaw24.MaySync -/
def F8 (os : Sl) (which : Int) (w : World) (K : Tup [.one .bool] → World → Prop) : Prop :=
  purlinlaw0_GreatOps_14 os 20 w fun r1 w2 =>
  cnd r1 (
    purlinlaw24_awake_10  w2 fun r3 w4 =>
    K r3 w4) (
    may_New_11  w2 fun r5 w6 =>
    purlinref24_New_21  w6 fun r7 w8 =>
    cnd (Option.isNone r5) (
      K false w8) (
      loopP (σ := Tup [.one (.int .i64)]) (fun again9 s10 w11 =>
        cnd (decide (s10 < (os.len : Int))) (
          onSome r7 fun A12 =>
          ldP (.slice) A12 w11.drew fun x13 =>
          onSome r7 fun A14 =>
          ldP (.slice) A14 w11.drew fun x15 =>
          idxP (w64 ((x15.len : Int) - 1)) x13.len (
            onSome x13.a fun A16 =>
            ldP (.ptr) (A16.add (Int.toNat (w64 ((x15.len : Int) - 1)) * 1)) w11.drew fun x17 =>
            idxP s10 os.len (
              onSome os.a fun A18 =>
              ldA [.int .i64, .int .i64, .int .i64, .int .i64, .int .i64, .str, .str, .slice] (A18.add (Int.toNat s10 * 8)) w11.drew fun c19 =>
              purlinref14_Tree_Copy_22 x17 w11.drew fun r20 w21 =>
              (cellsAt w21 (A18.add (Int.toNat s10 * 8)) [(.int .i64 c19.1), (.int .i64 c19.2.1), (.int .i64 c19.2.2.1), (.int .i64 c19.2.2.2.1), (.int .i64 c19.2.2.2.2.1), (.string c19.2.2.2.2.2.1), (.string c19.2.2.2.2.2.2.1), (.slice c19.2.2.2.2.2.2.2.a c19.2.2.2.2.2.2.2.len c19.2.2.2.2.2.2.2.cap)]) ∧
              purlinref14_Tree_Do_17 r20 (c19.1, c19.2.1, c19.2.2.1, c19.2.2.2.1, c19.2.2.2.2.1, c19.2.2.2.2.2.1, c19.2.2.2.2.2.2.1, c19.2.2.2.2.2.2.2) w21 fun r22 w23 =>
              idxP s10 os.len (
                onSome os.a fun A24 =>
                ldA [.int .i64, .int .i64, .int .i64, .int .i64, .int .i64, .str, .str, .slice] (A24.add (Int.toNat s10 * 8)) w23 fun c25 =>
                purlinref24_History_Did_23 r7 (c25.1, c25.2.1, c25.2.2.1, c25.2.2.2.1, c25.2.2.2.2.1, c25.2.2.2.2.2.1, c25.2.2.2.2.2.2.1, c25.2.2.2.2.2.2.2) r22.1 (w64 (10 + s10)) w23 fun r26 w27 =>
                cnd (!r26) (
                  K false w27) (
                  idxP s10 os.len (
                    onSome os.a fun A28 =>
                    ldA [.int .i64, .int .i64, .int .i64, .int .i64, .int .i64, .str, .str, .slice] (A28.add (Int.toNat s10 * 8)) w27 fun c29 =>
                    may_History_Did_16 r5 (c29.1, c29.2.1, c29.2.2.1, c29.2.2.2.1, c29.2.2.2.2.1, c29.2.2.2.2.2.1, c29.2.2.2.2.2.2.1, c29.2.2.2.2.2.2.2) r22.1 (w64 (10 + s10)) w27 fun r30 w31 =>
                    cnd (!r30) (
                      K false w31) (
                      again9 (w64 (s10 + 1)) w31))))))) (
          may_History_Did_16 r5 (21, 0, 0, 0, 0, (⟨#[]⟩ : ByteArray), (⟨#[]⟩ : ByteArray), ⟨none, 0, 0⟩) 0 0 w11 fun r32 w33 =>
          cnd (!r32) (
            K false w33) (
            may_History_Nodes_18 r5 w33 fun r34 w35 =>
            may_History_Allows_13 r5 r34 w35 fun r36 w37 =>
            cnd (!r36) (
              K false w37) (
              purlinlaw0_Low_24 which (w64 ((r34.len : Int) + 1)) w37 fun r38 w39 =>
              cnd (decide (r38 ≥ (r34.len : Int))) (
                purlinlaw24_awake_10  w39 fun r40 w41 =>
                K r40 w41) (
                slcP r34 0 (some r38) 5 fun s42 =>
                slcP r34 (w64 (r38 + 1)) none 5 fun s43 =>
                runP Tryz.prog (Builtin.append_ #[45, 45] 45 #[(.slice none 0 0), (.slice s42.a s42.len s42.cap)]) [.one .slice] w39.drew fun c44 w45 =>
                runP Tryz.prog (Builtin.append_ #[45, 45] 45 #[(.slice c44.a c44.len c44.cap), (.slice s43.a s43.len s43.cap)]) [.one .slice] w45 fun c46 w47 =>
                runP Tryz.prog (Builtin.append_ #[45, 45] 45 #[(.slice none 0 0), (.slice r34.a r34.len r34.cap)]) [.one .slice] w47 fun c48 w49 =>
                idxP r38 c48.len (
                  onSome c48.a fun A50 =>
                  ldP (.slice) ((A50.add (Int.toNat r38 * 5)).add 4) w49 fun x51 =>
                  runP Tryz.prog (Builtin.append_ #[22, 22] 22 #[(.slice none 0 0), (.slice x51.a x51.len x51.cap)]) [.one .slice] w49 fun c52 w53 =>
                  newP (.cells #[(.int .u8 7)] 5) w53 fun b54 w55 =>
                  runP Tryz.prog (Builtin.append_ #[22, 22] 22 #[(.slice c52.a c52.len c52.cap), (.slice (some ⟨b54, 0, none⟩) 1 1)]) [.one .slice] w55 fun c56 w57 =>
                  idxP r38 c48.len (
                    onSome c48.a fun A58 =>
                    stP ((A58.add (Int.toNat r38 * 5)).add 4) (.slice c56.a c56.len c56.cap) w57 fun w59 =>
                    may_History_Allows_13 r5 c46 w59 fun r60 w61 =>
                    cnd (!r60) (
                      may_History_Allows_13 r5 c48 w61 fun r62 w63 =>
                      cnd (!r62) (
                        may_History_Crashed_20 r5 r34 w63 fun r64 w65 =>
                        cnd r64 (
                          purlinlaw24_awake_10  w65 fun r66 w67 =>
                          K r66 w67) (
                          K false w65)) (
                        K false w63)) (
                      K false w61)))))))) 0 w8))
def an8 : List An := [
  .reg ⟨[], .done, []⟩,
  .reg ⟨[(1, [.one .bool])], .done, []⟩,
  .nop,
  .reg ⟨[(0, [.one .bool])], .done, []⟩,
  .reg ⟨[(0, [.one .ptr]), (1, [.one .ptr])], .done, []⟩,
  .reg ⟨[], .done, []⟩,
  .nop,
  .reg ⟨[], .done, []⟩,
  .reg ⟨[], .done, []⟩,
  .nop,
  .nop,
  .loop [(7, .one (.int .i64))] [4, 8, 20, 21, 22, 23, 24, 25, 26, 27, 28, 29, 30, 31, 32, 33, 34, 35, 36, 37, 38, 39, 40, 41, 42, 43, 44, 45, 46, 47, 48, 49, 50, 51, 52, 53, 54, 55, 56, 57, 58, 59, 60, 61, 62, 63, 64, 65, 66],
  .reg ⟨[], .done, []⟩,
  .nop,
  .nop,
  .reg ⟨[(12, [.one .ptr]), (17, [.agg [.int .i64, .int .i64, .int .i64, .int .i64, .slice, .slice]])], (.nop 0 0 (.nop 1 1 (.nop 2 3 (.nop 3 7 (.nop 4 0 (.nop 5 16 (.nop 6 48 (.nop 7 112 (.nop 8 240 (.nop 9 496 (.nop 10 1023 (.nop 11 2047 (.nop 13 0 (.nop 14 0 (.nop 15 24576 (.nop 16 57344 (.bar 12 4095 (.bar 17 131071 (.nop 18 262143 (.nop 19 524287 .done)) .none) .none))))))))))))))))), []⟩,
  .reg ⟨[(8, [.one .bool]), (19, [.one .bool])], .done, []⟩,
  .nop,
  .reg ⟨[], .done, []⟩,
  .reg ⟨[], .done, []⟩,
  .reg ⟨[(2, [.one .bool])], .done, []⟩,
  .nop,
  .reg ⟨[], .done, []⟩,
  .reg ⟨[(1, [.one .slice])], .done, []⟩,
  .reg ⟨[(2, [.one .bool])], .done, []⟩,
  .nop,
  .reg ⟨[], .done, []⟩,
  .reg ⟨[(4, [.one (.int .i64)])], .done, []⟩,
  .reg ⟨[], .done, []⟩,
  .nop,
  .reg ⟨[(0, [.one .bool])], .done, []⟩,
  .reg ⟨[(3, [.one .slice]), (8, [.one .slice])], (.nop 0 0 (.nop 1 0 (.nop 2 3 (.nop 4 0 (.nop 5 0 (.nop 6 32 (.nop 7 112 (.bar 3 7 (.bar 8 255 (.nop 9 511 .done) .none) .none)))))))), []⟩,
  .reg ⟨[(1, [.one .slice])], .done, []⟩,
  .reg ⟨[(7, [.one .slice]), (9, [.one .slice])], .done, []⟩,
  .reg ⟨[(2, [.one .bool]), (7, [.one .bool]), (13, [.one .bool]), (16, [.one .bool])], .done, []⟩]
theorem purlinlaw24_MaySync_8_of (os : Sl) (which : Int) (w : World) (K : Tup [.one .bool] → World → Prop) (hF_ : F8 os which w K) : purlinlaw24_MaySync_8 os which w K :=
  call_of_F (l := an8) (args := [Ty.mk (.one .slice) os, Ty.mk (.one (.int .i64)) which]) follows tabOk Tryz.func8 (by kernel_rfl) (by kernel_rfl) (by kernel_rfl) hF_

/-- purlin/purlinlaw24.MayFresh -/
def F9 (b : Sl) (seen : Bool) (part : Int) (w : World) (K : Tup [.one .bool] → World → Prop) : Prop :=
  joinP (σ := Tup [.one .bool]) (fun J1 =>
    cnd (decide ((b.len : Int) > 200)) (
      J1 true w) (
      J1 ((b.len : Int) == 0) w)) (fun s2 w3 =>
  cnd s2 (
    purlinlaw24_awake_10  w3 fun r4 w5 =>
    K r4 w5) (
    may_New_11  w3 fun r6 w7 =>
    joinP (σ := Tup [.one .bool]) (fun J8 =>
      cnd (Option.isNone r6) (
        J8 true w7) (
        purlinlaw24_one_12 r6 (9, 0, 0, 0, 0, (⟨#[47, 100]⟩ : ByteArray), (⟨#[]⟩ : ByteArray), ⟨none, 0, 0⟩) 4 w7 fun r11 w12 =>
        cnd (!r11) (
          J8 true w12) (
          purlinlaw24_one_12 r6 (21, 0, 0, 0, 0, (⟨#[]⟩ : ByteArray), (⟨#[]⟩ : ByteArray), ⟨none, 0, 0⟩) 0 w12 fun r13 w14 =>
          cnd (!r13) (
            J8 true w14) (
            purlinlaw24_one_12 r6 (1, 0, 0, 0, 33, (⟨#[47, 100, 47, 102]⟩ : ByteArray), (⟨#[]⟩ : ByteArray), ⟨none, 0, 0⟩) 5 w14 fun r15 w16 =>
            cnd (!r15) (
              J8 true w16) (
              purlinlaw24_one_12 r6 (4, 0, 0, 0, 0, (⟨#[]⟩ : ByteArray), (⟨#[]⟩ : ByteArray), b) 0 w16 fun r17 w18 =>
              J8 (!r17) w18))))) (fun s9 w10 =>
    cnd s9 (
      K false w10) (
      newP (.cells #[(.string (⟨#[]⟩ : ByteArray)), (.int .i64 0), (.int .i64 0), (.int .i64 0), (.slice none 0 0)] 30) w10 fun b19 w20 =>
      stN ⟨b19, 0, none⟩ [(.string (⟨#[47]⟩ : ByteArray)), (.int .i64 1), (.int .i64 2), (.int .i64 1), (.slice none 0 0)] w20 fun w21 =>
      newP (.cells #[(.string (⟨#[]⟩ : ByteArray)), (.int .i64 0), (.int .i64 0), (.int .i64 0), (.slice none 0 0)] 30) w21 fun b22 w23 =>
      stN ⟨b22, 0, none⟩ [(.string (⟨#[47, 100]⟩ : ByteArray)), (.int .i64 4), (.int .i64 2), (.int .i64 1), (.slice none 0 0)] w23 fun w24 =>
      newP (.cells #[(.string (⟨#[]⟩ : ByteArray)), (.int .i64 0), (.int .i64 0), (.int .i64 0), (.slice none 0 0)] 30) w24 fun b25 w26 =>
      stN ⟨b25, 0, none⟩ [(.string (⟨#[47, 100, 47, 102]⟩ : ByteArray)), (.int .i64 5), (.int .i64 1), (.int .i64 1), (.slice b.a b.len b.cap)] w26 fun w27 =>
      joinP (σ := Tup [.one .ptr, .one .ptr]) (fun J28 =>
        ldA [.str, .int .i64, .int .i64, .int .i64, .slice] ⟨b25, 0, none⟩ w27.drew fun c31 =>
        ldA [.str, .int .i64, .int .i64, .int .i64, .slice] ⟨b25, 0, none⟩ w27.drew fun c32 =>
        (
          newP (.cells #[(.string (⟨#[]⟩ : ByteArray)), (.int .i64 0), (.int .i64 0), (.int .i64 0), (.slice none 0 0)] 30) w27.drew fun b33 w34 =>
          (cellsAt w34 ⟨b25, 0, none⟩ [(.string c32.1), (.int .i64 c32.2.1), (.int .i64 c32.2.2.1), (.int .i64 c32.2.2.2.1), (.slice c32.2.2.2.2.a c32.2.2.2.2.len c32.2.2.2.2.cap)]) ∧
          (cellsAt w34 ⟨b25, 0, none⟩ [(.string c31.1), (.int .i64 c31.2.1), (.int .i64 c31.2.2.1), (.int .i64 c31.2.2.2.1), (.slice c31.2.2.2.2.a c31.2.2.2.2.len c31.2.2.2.2.cap)]) ∧
          newP (.cells #[(.string (⟨#[]⟩ : ByteArray)), (.int .i64 0), (.int .i64 0), (.int .i64 0), (.slice none 0 0)] 30) w34 fun b35 w36 =>
          (cellsAt w36 ⟨b25, 0, none⟩ [(.string c32.1), (.int .i64 c32.2.1), (.int .i64 c32.2.2.1), (.int .i64 c32.2.2.2.1), (.slice c32.2.2.2.2.a c32.2.2.2.2.len c32.2.2.2.2.cap)]) ∧
          (cellsAt w36 ⟨b25, 0, none⟩ [(.string c31.1), (.int .i64 c31.2.1), (.int .i64 c31.2.2.1), (.int .i64 c31.2.2.2.1), (.slice c31.2.2.2.2.a c31.2.2.2.2.len c31.2.2.2.2.cap)]) ∧
          stN ⟨b33, 0, none⟩ [(.string c31.1), (.int .i64 c31.2.1), (.int .i64 c31.2.2.1), (.int .i64 c31.2.2.2.1), (.slice c31.2.2.2.2.a c31.2.2.2.2.len c31.2.2.2.2.cap)] w36 fun w37 =>
          (cellsAt w37 ⟨b25, 0, none⟩ [(.string c32.1), (.int .i64 c32.2.1), (.int .i64 c32.2.2.1), (.int .i64 c32.2.2.2.1), (.slice c32.2.2.2.2.a c32.2.2.2.2.len c32.2.2.2.2.cap)]) ∧
          stN ⟨b35, 0, none⟩ [(.string c32.1), (.int .i64 c32.2.1), (.int .i64 c32.2.2.1), (.int .i64 c32.2.2.2.1), (.slice c32.2.2.2.2.a c32.2.2.2.2.len c32.2.2.2.2.cap)] w37 fun w38 =>
          J28 ((some ⟨b33, 0, none⟩), (some ⟨b35, 0, none⟩)) w38) ∧
        newP (.cells #[(.string (⟨#[]⟩ : ByteArray)), (.int .i64 0), (.int .i64 0), (.int .i64 0), (.slice none 0 0)] 30) w27.drew fun b39 w40 =>
        (cellsAt w40 ⟨b25, 0, none⟩ [(.string c32.1), (.int .i64 c32.2.1), (.int .i64 c32.2.2.1), (.int .i64 c32.2.2.2.1), (.slice c32.2.2.2.2.a c32.2.2.2.2.len c32.2.2.2.2.cap)]) ∧
        (cellsAt w40 ⟨b25, 0, none⟩ [(.string c31.1), (.int .i64 c31.2.1), (.int .i64 c31.2.2.1), (.int .i64 c31.2.2.2.1), (.slice c31.2.2.2.2.a c31.2.2.2.2.len c31.2.2.2.2.cap)]) ∧
        newP (.cells #[(.string (⟨#[]⟩ : ByteArray)), (.int .i64 0), (.int .i64 0), (.int .i64 0), (.slice none 0 0)] 30) w40 fun b41 w42 =>
        (cellsAt w42 ⟨b25, 0, none⟩ [(.string c32.1), (.int .i64 c32.2.1), (.int .i64 c32.2.2.1), (.int .i64 c32.2.2.2.1), (.slice c32.2.2.2.2.a c32.2.2.2.2.len c32.2.2.2.2.cap)]) ∧
        (cellsAt w42 ⟨b25, 0, none⟩ [(.string c31.1), (.int .i64 c31.2.1), (.int .i64 c31.2.2.1), (.int .i64 c31.2.2.2.1), (.slice c31.2.2.2.2.a c31.2.2.2.2.len c31.2.2.2.2.cap)]) ∧
        stN ⟨b41, 0, none⟩ [(.string c31.1), (.int .i64 c31.2.1), (.int .i64 c31.2.2.1), (.int .i64 c31.2.2.2.1), (.slice c31.2.2.2.2.a c31.2.2.2.2.len c31.2.2.2.2.cap)] w42 fun w43 =>
        (cellsAt w43 ⟨b25, 0, none⟩ [(.string c32.1), (.int .i64 c32.2.1), (.int .i64 c32.2.2.1), (.int .i64 c32.2.2.2.1), (.slice c32.2.2.2.2.a c32.2.2.2.2.len c32.2.2.2.2.cap)]) ∧
        stN ⟨b39, 0, none⟩ [(.string c32.1), (.int .i64 c32.2.1), (.int .i64 c32.2.2.1), (.int .i64 c32.2.2.2.1), (.slice c32.2.2.2.2.a c32.2.2.2.2.len c32.2.2.2.2.cap)] w43 fun w44 =>
        J28 ((some ⟨b41, 0, none⟩), (some ⟨b39, 0, none⟩)) w44) (fun s29 w30 =>
      mkSlP (b.len : Int) (b.len : Int) 1 (newP (.cells (zrow #[(.int .u8 0)] (Int.toNat (b.len : Int) * 1)) 5) w30 fun b45 w46 =>
      onSome s29.1 fun A47 =>
      stP (A47.add 4) (.slice (some ⟨b45, 0, none⟩) (Int.toNat (b.len : Int)) (Int.toNat (b.len : Int))) w46 fun w48 =>
      purlinlaw0_Low_24 part (b.len : Int) w48 fun r49 w50 =>
      slcP b 0 (some r49) 1 fun s51 =>
      onSome s29.2 fun A52 =>
      stP (A52.add 4) (.slice s51.a s51.len s51.cap) w50 fun w53 =>
      joinP (σ := Tup [.one .bool]) (fun J54 =>
        ldA [.str, .int .i64, .int .i64, .int .i64, .slice] ⟨b19, 0, none⟩ w53.drew fun c57 =>
        ldA [.str, .int .i64, .int .i64, .int .i64, .slice] ⟨b22, 0, none⟩ w53.drew fun c58 =>
        newP (.cells #[(.string c57.1), (.int .i64 c57.2.1), (.int .i64 c57.2.2.1), (.int .i64 c57.2.2.2.1), (.slice c57.2.2.2.2.a c57.2.2.2.2.len c57.2.2.2.2.cap), (.string c58.1), (.int .i64 c58.2.1), (.int .i64 c58.2.2.1), (.int .i64 c58.2.2.2.1), (.slice c58.2.2.2.2.a c58.2.2.2.2.len c58.2.2.2.2.cap)] 30) w53.drew fun b59 w60 =>
        may_History_Allows_13 r6 ⟨(some ⟨b59, 0, none⟩), 2, 2⟩ w60 fun r61 w62 =>
        cnd (!r61) (
          J54 true w62) (
          ldA [.str, .int .i64, .int .i64, .int .i64, .slice] ⟨b19, 0, none⟩ w62 fun c63 =>
          ldA [.str, .int .i64, .int .i64, .int .i64, .slice] ⟨b22, 0, none⟩ w62 fun c64 =>
          ldA [.str, .int .i64, .int .i64, .int .i64, .slice] ⟨b25, 0, none⟩ w62 fun c65 =>
          newP (.cells #[(.string c63.1), (.int .i64 c63.2.1), (.int .i64 c63.2.2.1), (.int .i64 c63.2.2.2.1), (.slice c63.2.2.2.2.a c63.2.2.2.2.len c63.2.2.2.2.cap), (.string c64.1), (.int .i64 c64.2.1), (.int .i64 c64.2.2.1), (.int .i64 c64.2.2.2.1), (.slice c64.2.2.2.2.a c64.2.2.2.2.len c64.2.2.2.2.cap), (.string c65.1), (.int .i64 c65.2.1), (.int .i64 c65.2.2.1), (.int .i64 c65.2.2.2.1), (.slice c65.2.2.2.2.a c65.2.2.2.2.len c65.2.2.2.2.cap)] 30) w62 fun b66 w67 =>
          may_History_Allows_13 r6 ⟨(some ⟨b66, 0, none⟩), 3, 3⟩ w67 fun r68 w69 =>
          cnd (!r68) (
            J54 true w69) (
            ldA [.str, .int .i64, .int .i64, .int .i64, .slice] ⟨b19, 0, none⟩ w69 fun c70 =>
            ldA [.str, .int .i64, .int .i64, .int .i64, .slice] ⟨b22, 0, none⟩ w69 fun c71 =>
            onSome s29.1 fun A72 =>
            ldA [.str, .int .i64, .int .i64, .int .i64, .slice] A72 w69 fun c73 =>
            newP (.cells #[(.string c70.1), (.int .i64 c70.2.1), (.int .i64 c70.2.2.1), (.int .i64 c70.2.2.2.1), (.slice c70.2.2.2.2.a c70.2.2.2.2.len c70.2.2.2.2.cap), (.string c71.1), (.int .i64 c71.2.1), (.int .i64 c71.2.2.1), (.int .i64 c71.2.2.2.1), (.slice c71.2.2.2.2.a c71.2.2.2.2.len c71.2.2.2.2.cap), (.string c73.1), (.int .i64 c73.2.1), (.int .i64 c73.2.2.1), (.int .i64 c73.2.2.2.1), (.slice c73.2.2.2.2.a c73.2.2.2.2.len c73.2.2.2.2.cap)] 30) w69 fun b74 w75 =>
            may_History_Allows_13 r6 ⟨(some ⟨b74, 0, none⟩), 3, 3⟩ w75 fun r76 w77 =>
            cnd (!r76) (
              J54 true w77) (
              ldA [.str, .int .i64, .int .i64, .int .i64, .slice] ⟨b19, 0, none⟩ w77 fun c78 =>
              ldA [.str, .int .i64, .int .i64, .int .i64, .slice] ⟨b25, 0, none⟩ w77 fun c79 =>
              newP (.cells #[(.string c78.1), (.int .i64 c78.2.1), (.int .i64 c78.2.2.1), (.int .i64 c78.2.2.2.1), (.slice c78.2.2.2.2.a c78.2.2.2.2.len c78.2.2.2.2.cap), (.string c79.1), (.int .i64 c79.2.1), (.int .i64 c79.2.2.1), (.int .i64 c79.2.2.2.1), (.slice c79.2.2.2.2.a c79.2.2.2.2.len c79.2.2.2.2.cap)] 30) w77 fun b80 w81 =>
              may_History_Allows_13 r6 ⟨(some ⟨b80, 0, none⟩), 2, 2⟩ w81 fun r82 w83 =>
              cnd r82 (
                J54 true w83) (
                ldA [.str, .int .i64, .int .i64, .int .i64, .slice] ⟨b19, 0, none⟩ w83 fun c84 =>
                newP (.cells #[(.string c84.1), (.int .i64 c84.2.1), (.int .i64 c84.2.2.1), (.int .i64 c84.2.2.2.1), (.slice c84.2.2.2.2.a c84.2.2.2.2.len c84.2.2.2.2.cap)] 30) w83 fun b85 w86 =>
                may_History_Allows_13 r6 ⟨(some ⟨b85, 0, none⟩), 1, 1⟩ w86 fun r87 w88 =>
                cnd r87 (
                  J54 true w88) (
                  ldA [.str, .int .i64, .int .i64, .int .i64, .slice] ⟨b19, 0, none⟩ w88 fun c89 =>
                  ldA [.str, .int .i64, .int .i64, .int .i64, .slice] ⟨b22, 0, none⟩ w88 fun c90 =>
                  onSome s29.2 fun A91 =>
                  ldA [.str, .int .i64, .int .i64, .int .i64, .slice] A91 w88 fun c92 =>
                  onSome s29.2 fun A93 =>
                  ldP (.slice) (A93.add 4) w88 fun x94 =>
                  newP (.cells #[(.string c89.1), (.int .i64 c89.2.1), (.int .i64 c89.2.2.1), (.int .i64 c89.2.2.2.1), (.slice c89.2.2.2.2.a c89.2.2.2.2.len c89.2.2.2.2.cap), (.string c90.1), (.int .i64 c90.2.1), (.int .i64 c90.2.2.1), (.int .i64 c90.2.2.2.1), (.slice c90.2.2.2.2.a c90.2.2.2.2.len c90.2.2.2.2.cap), (.string c92.1), (.int .i64 c92.2.1), (.int .i64 c92.2.2.1), (.int .i64 c92.2.2.2.1), (.slice c92.2.2.2.2.a c92.2.2.2.2.len c92.2.2.2.2.cap)] 30) w88 fun b95 w96 =>
                  (w96.cell? (A93.add 4) = some (.slice x94.a x94.len x94.cap)) ∧
                  may_History_Allows_13 r6 ⟨(some ⟨b95, 0, none⟩), 3, 3⟩ w96 fun r97 w98 =>
                  (w98.cell? (A93.add 4) = some (.slice x94.a x94.len x94.cap)) ∧
                  J54 (!(r97 == ((x94.len : Int) == 0))) w98)))))) (fun s55 w56 =>
      cnd s55 (
        K false w56) (
        cnd (!seen) (
          ldA [.str, .int .i64, .int .i64, .int .i64, .slice] ⟨b19, 0, none⟩ w56 fun c99 =>
          ldA [.str, .int .i64, .int .i64, .int .i64, .slice] ⟨b22, 0, none⟩ w56 fun c100 =>
          newP (.cells #[(.string c99.1), (.int .i64 c99.2.1), (.int .i64 c99.2.2.1), (.int .i64 c99.2.2.2.1), (.slice c99.2.2.2.2.a c99.2.2.2.2.len c99.2.2.2.2.cap), (.string c100.1), (.int .i64 c100.2.1), (.int .i64 c100.2.2.1), (.int .i64 c100.2.2.2.1), (.slice c100.2.2.2.2.a c100.2.2.2.2.len c100.2.2.2.2.cap)] 30) w56 fun b101 w102 =>
          may_History_Crashed_20 r6 ⟨(some ⟨b101, 0, none⟩), 2, 2⟩ w102 fun r103 w104 =>
          cnd r103 (
            ldA [.str, .int .i64, .int .i64, .int .i64, .slice] ⟨b19, 0, none⟩ w104 fun c105 =>
            ldA [.str, .int .i64, .int .i64, .int .i64, .slice] ⟨b22, 0, none⟩ w104 fun c106 =>
            ldA [.str, .int .i64, .int .i64, .int .i64, .slice] ⟨b25, 0, none⟩ w104 fun c107 =>
            newP (.cells #[(.string c105.1), (.int .i64 c105.2.1), (.int .i64 c105.2.2.1), (.int .i64 c105.2.2.2.1), (.slice c105.2.2.2.2.a c105.2.2.2.2.len c105.2.2.2.2.cap), (.string c106.1), (.int .i64 c106.2.1), (.int .i64 c106.2.2.1), (.int .i64 c106.2.2.2.1), (.slice c106.2.2.2.2.a c106.2.2.2.2.len c106.2.2.2.2.cap), (.string c107.1), (.int .i64 c107.2.1), (.int .i64 c107.2.2.1), (.int .i64 c107.2.2.2.1), (.slice c107.2.2.2.2.a c107.2.2.2.2.len c107.2.2.2.2.cap)] 30) w104 fun b108 w109 =>
            may_History_Allows_13 r6 ⟨(some ⟨b108, 0, none⟩), 3, 3⟩ w109 fun r110 w111 =>
            cnd (!r110) (
              ldA [.str, .int .i64, .int .i64, .int .i64, .slice] ⟨b19, 0, none⟩ w111 fun c112 =>
              ldA [.str, .int .i64, .int .i64, .int .i64, .slice] ⟨b22, 0, none⟩ w111 fun c113 =>
              newP (.cells #[(.string c112.1), (.int .i64 c112.2.1), (.int .i64 c112.2.2.1), (.int .i64 c112.2.2.2.1), (.slice c112.2.2.2.2.a c112.2.2.2.2.len c112.2.2.2.2.cap), (.string c113.1), (.int .i64 c113.2.1), (.int .i64 c113.2.2.1), (.int .i64 c113.2.2.2.1), (.slice c113.2.2.2.2.a c113.2.2.2.2.len c113.2.2.2.2.cap)] 30) w111 fun b114 w115 =>
              may_History_Allows_13 r6 ⟨(some ⟨b114, 0, none⟩), 2, 2⟩ w115 fun r116 w117 =>
              cnd r116 (
                purlinlaw24_awake_10  w117 fun r118 w119 =>
                K r118 w119) (
                K false w117)) (
              K false w111)) (
            K false w104)) (
          ldA [.str, .int .i64, .int .i64, .int .i64, .slice] ⟨b19, 0, none⟩ w56 fun c120 =>
          ldA [.str, .int .i64, .int .i64, .int .i64, .slice] ⟨b22, 0, none⟩ w56 fun c121 =>
          ldA [.str, .int .i64, .int .i64, .int .i64, .slice] ⟨b25, 0, none⟩ w56 fun c122 =>
          newP (.cells #[(.string c120.1), (.int .i64 c120.2.1), (.int .i64 c120.2.2.1), (.int .i64 c120.2.2.2.1), (.slice c120.2.2.2.2.a c120.2.2.2.2.len c120.2.2.2.2.cap), (.string c121.1), (.int .i64 c121.2.1), (.int .i64 c121.2.2.1), (.int .i64 c121.2.2.2.1), (.slice c121.2.2.2.2.a c121.2.2.2.2.len c121.2.2.2.2.cap), (.string c122.1), (.int .i64 c122.2.1), (.int .i64 c122.2.2.1), (.int .i64 c122.2.2.2.1), (.slice c122.2.2.2.2.a c122.2.2.2.2.len c122.2.2.2.2.cap)] 30) w56 fun b123 w124 =>
          may_History_Crashed_20 r6 ⟨(some ⟨b123, 0, none⟩), 3, 3⟩ w124 fun r125 w126 =>
          cnd r125 (
            ldA [.str, .int .i64, .int .i64, .int .i64, .slice] ⟨b19, 0, none⟩ w126 fun c127 =>
            ldA [.str, .int .i64, .int .i64, .int .i64, .slice] ⟨b22, 0, none⟩ w126 fun c128 =>
            ldA [.str, .int .i64, .int .i64, .int .i64, .slice] ⟨b25, 0, none⟩ w126 fun c129 =>
            newP (.cells #[(.string c127.1), (.int .i64 c127.2.1), (.int .i64 c127.2.2.1), (.int .i64 c127.2.2.2.1), (.slice c127.2.2.2.2.a c127.2.2.2.2.len c127.2.2.2.2.cap), (.string c128.1), (.int .i64 c128.2.1), (.int .i64 c128.2.2.1), (.int .i64 c128.2.2.2.1), (.slice c128.2.2.2.2.a c128.2.2.2.2.len c128.2.2.2.2.cap), (.string c129.1), (.int .i64 c129.2.1), (.int .i64 c129.2.2.1), (.int .i64 c129.2.2.2.1), (.slice c129.2.2.2.2.a c129.2.2.2.2.len c129.2.2.2.2.cap)] 30) w126 fun b130 w131 =>
            may_History_Allows_13 r6 ⟨(some ⟨b130, 0, none⟩), 3, 3⟩ w131 fun r132 w133 =>
            cnd r132 (
              ldA [.str, .int .i64, .int .i64, .int .i64, .slice] ⟨b19, 0, none⟩ w133 fun c134 =>
              ldA [.str, .int .i64, .int .i64, .int .i64, .slice] ⟨b22, 0, none⟩ w133 fun c135 =>
              newP (.cells #[(.string c134.1), (.int .i64 c134.2.1), (.int .i64 c134.2.2.1), (.int .i64 c134.2.2.2.1), (.slice c134.2.2.2.2.a c134.2.2.2.2.len c134.2.2.2.2.cap), (.string c135.1), (.int .i64 c135.2.1), (.int .i64 c135.2.2.1), (.int .i64 c135.2.2.2.1), (.slice c135.2.2.2.2.a c135.2.2.2.2.len c135.2.2.2.2.cap)] 30) w133 fun b136 w137 =>
              may_History_Allows_13 r6 ⟨(some ⟨b136, 0, none⟩), 2, 2⟩ w137 fun r138 w139 =>
              cnd (!r138) (
                ldA [.str, .int .i64, .int .i64, .int .i64, .slice] ⟨b19, 0, none⟩ w139 fun c140 =>
                newP (.cells #[(.string c140.1), (.int .i64 c140.2.1), (.int .i64 c140.2.2.1), (.int .i64 c140.2.2.2.1), (.slice c140.2.2.2.2.a c140.2.2.2.2.len c140.2.2.2.2.cap)] 30) w139 fun b141 w142 =>
                may_History_Crashed_20 r6 ⟨(some ⟨b141, 0, none⟩), 1, 1⟩ w142 fun r143 w144 =>
                cnd (!r143) (
                  may_History_Nodes_18 r6 w144 fun r145 w146 =>
                  cnd ((r145.len : Int) == 3) (
                    purlinlaw24_awake_10  w146 fun r147 w148 =>
                    K r147 w148) (
                    K false w146)) (
                  K false w144)) (
                K false w139)) (
              K false w133)) (
            K false w126))))))))))
def an9 : List An := [
  .reg ⟨[], .done, []⟩,
  .join [(20, .one .bool)] [13, 14, 15, 16, 17, 18, 19],
  .reg ⟨[], .done, []⟩,
  .nop,
  .reg ⟨[(0, [.one .bool])], .done, []⟩,
  .reg ⟨[(0, [.one .ptr])], .done, []⟩,
  .join [(49, .one .bool)] [23, 24, 25, 26, 27, 28, 29, 30, 31, 32, 33, 34, 35, 36, 37, 38, 39, 40, 41, 42, 43, 44, 45, 46, 47, 48],
  .reg ⟨[(5, [.one .bool]), (11, [.one .bool]), (17, [.one .bool]), (24, [.one .bool])], .done, []⟩,
  .nop,
  .reg ⟨[], .done, []⟩,
  .reg ⟨[], .done, []⟩,
  .reg ⟨[], .done, []⟩,
  .reg ⟨[], .done, []⟩,
  .join [(11, .one .ptr), (12, .one .ptr)] [54, 55],
  .reg ⟨[], (.nop 0 0 (.nop 1 0 (.bar 2 0 (.bar 3 0 (.bar 4 13 (.bar 5 31 .done .none) .none) .none) (.bar 3 0 (.bar 2 0 (.bar 4 13 (.bar 5 31 .done .none) .none) .none) .none)))), []⟩,
  .reg ⟨[], .done, []⟩,
  .reg ⟨[(4, [.one (.int .i64)])], .done, []⟩,
  .join [(116, .one .bool)] [67, 68, 69, 70, 71, 72, 73, 74, 75, 76, 77, 78, 79, 80, 81, 82, 83, 84, 85, 86, 87, 88, 89, 90, 91, 92, 93, 94, 95, 96, 97, 98, 99, 100, 101, 102, 103, 104, 105, 106, 107, 108, 109, 110, 111, 112, 113, 114, 115],
  .reg ⟨[(4, [.one .bool]), (12, [.one .bool]), (21, [.one .bool]), (29, [.one .bool]), (35, [.one .bool]), (43, [.one .bool])], (.nop 0 0 (.nop 1 0 (.nop 2 0 (.bar 3 6 (.bar 4 15 (.nop 5 31 (.nop 6 63 (.nop 7 127 (.nop 8 127 (.nop 9 127 (.nop 10 127 (.bar 11 1919 (.bar 12 4095 (.nop 13 8191 (.nop 14 16383 (.nop 15 32767 (.nop 16 65535 (.nop 17 65535 (.nop 18 65535 (.nop 19 65535 (.bar 20 983039 (.bar 21 2097151 (.nop 22 4194303 (.nop 23 8388607 (.nop 24 16777215 (.nop 25 33554431 (.nop 26 33554431 (.nop 27 33554431 (.bar 28 234881023 (.bar 29 536870911 (.nop 30 1073741823 (.nop 31 2147483647 (.nop 32 4294967295 (.nop 33 4294967295 (.bar 34 12884901887 (.bar 35 34359738367 (.nop 36 68719476735 (.nop 37 137438953471 (.nop 38 274877906943 (.nop 39 274877906943 (.nop 40 274877906943 (.nop 41 274877906943 (.nop 44 274877906943 (.nop 45 17867063951359 (.nop 46 53051436040191 (.nop 47 123420180217855 (.bar 42 4123168604159 (.bar 43 8796093022207 (.nop 48 281474976710655 (.nop 49 562949953421311 .done)) .none) .none))))))))))) .none) .none))))) .none) .none))))))) .none) .none)))))))) .none) .none))))))) .none) .none)))), []⟩,
  .nop,
  .reg ⟨[], .done, []⟩,
  .reg ⟨[], .done, []⟩,
  .nop,
  .reg ⟨[(4, [.one .bool]), (11, [.one .bool]), (19, [.one .bool]), (22, [.one .bool])], .done, []⟩,
  .reg ⟨[(5, [.one .bool]), (12, [.one .bool]), (19, [.one .bool]), (26, [.one .bool]), (31, [.one .slice]), (36, [.one .bool])], .done, []⟩]
theorem purlinlaw24_MayFresh_9_of (b : Sl) (seen : Bool) (part : Int) (w : World) (K : Tup [.one .bool] → World → Prop) (hF_ : F9 b seen part w K) : purlinlaw24_MayFresh_9 b seen part w K :=
  call_of_F (l := an9) (args := [Ty.mk (.one .slice) b, Ty.mk (.one .bool) seen, Ty.mk (.one (.int .i64)) part]) follows tabOk Tryz.func9 (by kernel_rfl) (by kernel_rfl) (by kernel_rfl) hF_

/-- purlin/purlinlaw24.awake -/
def F10  (w : World) (K : Tup [.one .bool] → World → Prop) : Prop :=
  may_New_11  w fun r1 w2 =>
  newP (.cells #[(.string (⟨#[]⟩ : ByteArray)), (.int .i64 0), (.int .i64 0), (.int .i64 0), (.slice none 0 0)] 30) w2 fun b3 w4 =>
  stN ⟨b3, 0, none⟩ [(.string (⟨#[47]⟩ : ByteArray)), (.int .i64 1), (.int .i64 2), (.int .i64 1), (.slice none 0 0)] w4 fun w5 =>
  newP (.cells #[(.string (⟨#[]⟩ : ByteArray)), (.int .i64 0), (.int .i64 0), (.int .i64 0), (.slice none 0 0)] 30) w5 fun b6 w7 =>
  stN ⟨b6, 0, none⟩ [(.string (⟨#[47, 97]⟩ : ByteArray)), (.int .i64 2), (.int .i64 2), (.int .i64 1), (.slice none 0 0)] w7 fun w8 =>
  joinP (σ := Tup [.one .bool]) (fun J9 =>
    cnd (Option.isNone r1) (
      J9 true w8) (
      ldA [.str, .int .i64, .int .i64, .int .i64, .slice] ⟨b3, 0, none⟩ w8 fun c12 =>
      newP (.cells #[(.string c12.1), (.int .i64 c12.2.1), (.int .i64 c12.2.2.1), (.int .i64 c12.2.2.2.1), (.slice c12.2.2.2.2.a c12.2.2.2.2.len c12.2.2.2.2.cap)] 30) w8 fun b13 w14 =>
      may_History_Allows_13 r1 ⟨(some ⟨b13, 0, none⟩), 1, 1⟩ w14 fun r15 w16 =>
      cnd (!r15) (
        J9 true w16) (
        ldA [.str, .int .i64, .int .i64, .int .i64, .slice] ⟨b3, 0, none⟩ w16 fun c17 =>
        ldA [.str, .int .i64, .int .i64, .int .i64, .slice] ⟨b6, 0, none⟩ w16 fun c18 =>
        newP (.cells #[(.string c17.1), (.int .i64 c17.2.1), (.int .i64 c17.2.2.1), (.int .i64 c17.2.2.2.1), (.slice c17.2.2.2.2.a c17.2.2.2.2.len c17.2.2.2.2.cap), (.string c18.1), (.int .i64 c18.2.1), (.int .i64 c18.2.2.1), (.int .i64 c18.2.2.2.1), (.slice c18.2.2.2.2.a c18.2.2.2.2.len c18.2.2.2.2.cap)] 30) w16 fun b19 w20 =>
        may_History_Allows_13 r1 ⟨(some ⟨b19, 0, none⟩), 2, 2⟩ w20 fun r21 w22 =>
        J9 r21 w22))) (fun s10 w11 =>
  cnd s10 (
    K false w11) (
    may_History_Did_16 r1 (9, 0, 0, 0, 0, (⟨#[47, 97]⟩ : ByteArray), (⟨#[]⟩ : ByteArray), ⟨none, 0, 0⟩) 0 2 w11 fun r23 w24 =>
    joinP (σ := Tup [.one .bool]) (fun J25 =>
      ldA [.str, .int .i64, .int .i64, .int .i64, .slice] ⟨b3, 0, none⟩ w24 fun c28 =>
      newP (.cells #[(.string c28.1), (.int .i64 c28.2.1), (.int .i64 c28.2.2.1), (.int .i64 c28.2.2.2.1), (.slice c28.2.2.2.2.a c28.2.2.2.2.len c28.2.2.2.2.cap)] 30) w24 fun b29 w30 =>
      may_History_Allows_13 r1 ⟨(some ⟨b29, 0, none⟩), 1, 1⟩ w30 fun r31 w32 =>
      cnd r31 (
        ldA [.str, .int .i64, .int .i64, .int .i64, .slice] ⟨b3, 0, none⟩ w32 fun c33 =>
        ldA [.str, .int .i64, .int .i64, .int .i64, .slice] ⟨b6, 0, none⟩ w32 fun c34 =>
        newP (.cells #[(.string c33.1), (.int .i64 c33.2.1), (.int .i64 c33.2.2.1), (.int .i64 c33.2.2.2.1), (.slice c33.2.2.2.2.a c33.2.2.2.2.len c33.2.2.2.2.cap), (.string c34.1), (.int .i64 c34.2.1), (.int .i64 c34.2.2.1), (.int .i64 c34.2.2.2.1), (.slice c34.2.2.2.2.a c34.2.2.2.2.len c34.2.2.2.2.cap)] 30) w32 fun b35 w36 =>
        may_History_Allows_13 r1 ⟨(some ⟨b35, 0, none⟩), 2, 2⟩ w36 fun r37 w38 =>
        J25 r37 w38) (
        J25 false w32)) (fun s26 w27 =>
    may_History_Did_16 r1 (21, 0, 0, 0, 0, (⟨#[]⟩ : ByteArray), (⟨#[]⟩ : ByteArray), ⟨none, 0, 0⟩) 0 0 w27 fun r39 w40 =>
    cnd r23 (
      cnd s26 (
        cnd r39 (
          ldA [.str, .int .i64, .int .i64, .int .i64, .slice] ⟨b3, 0, none⟩ w40 fun c41 =>
          newP (.cells #[(.string c41.1), (.int .i64 c41.2.1), (.int .i64 c41.2.2.1), (.int .i64 c41.2.2.2.1), (.slice c41.2.2.2.2.a c41.2.2.2.2.len c41.2.2.2.2.cap)] 30) w40 fun b42 w43 =>
          may_History_Allows_13 r1 ⟨(some ⟨b42, 0, none⟩), 1, 1⟩ w43 fun r44 w45 =>
          cnd (!r44) (
            ldA [.str, .int .i64, .int .i64, .int .i64, .slice] ⟨b3, 0, none⟩ w45 fun c46 =>
            ldA [.str, .int .i64, .int .i64, .int .i64, .slice] ⟨b6, 0, none⟩ w45 fun c47 =>
            newP (.cells #[(.string c46.1), (.int .i64 c46.2.1), (.int .i64 c46.2.2.1), (.int .i64 c46.2.2.2.1), (.slice c46.2.2.2.2.a c46.2.2.2.2.len c46.2.2.2.2.cap), (.string c47.1), (.int .i64 c47.2.1), (.int .i64 c47.2.2.1), (.int .i64 c47.2.2.2.1), (.slice c47.2.2.2.2.a c47.2.2.2.2.len c47.2.2.2.2.cap)] 30) w45 fun b48 w49 =>
            may_History_Allows_13 r1 ⟨(some ⟨b48, 0, none⟩), 2, 2⟩ w49 fun r50 w51 =>
            cnd r50 (
              may_History_Nodes_18 r1 w51 fun r52 w53 =>
              K ((r52.len : Int) == 2) w53) (
              K false w51)) (
            K false w45)) (
          K false w40)) (
        K false w40)) (
      K false w40))))
def an10 : List An := [
  .reg ⟨[], .done, []⟩,
  .reg ⟨[(0, [.one .ptr])], .done, []⟩,
  .reg ⟨[], .done, []⟩,
  .reg ⟨[], .done, []⟩,
  .join [(25, .one .bool)] [10, 11, 12, 13, 14, 15, 16, 17, 18, 19, 20, 21, 22, 23, 24],
  .reg ⟨[(6, [.one .bool]), (14, [.one .bool])], .done, []⟩,
  .nop,
  .reg ⟨[], .done, []⟩,
  .reg ⟨[(2, [.one .bool])], .done, []⟩,
  .join [(5, .one .bool)] [29, 30, 31, 32, 33, 34, 35, 36, 37, 38, 39],
  .reg ⟨[(3, [.one .bool]), (9, [.one .bool])], .done, []⟩,
  .reg ⟨[(2, [.one .bool])], .done, []⟩,
  .reg ⟨[(11, [.one .bool]), (19, [.one .bool]), (23, [.one .slice])], .done, []⟩]
theorem purlinlaw24_awake_10_of (w : World) (K : Tup [.one .bool] → World → Prop) (hF_ : F10  w K) : purlinlaw24_awake_10  w K :=
  call_of_F (l := an10) (args := []) follows tabOk Tryz.func10 (by kernel_rfl) (by kernel_rfl) (by kernel_rfl) hF_

/-- purlin/may.New -/
def F11  (w : World) (K : Tup [.one .ptr] → World → Prop) : Prop :=
  tree_New_26  w fun r1 w2 =>
  newP (.map #[] 0) w2 fun b3 w4 =>
  runU Tryz.prog (Instr.mapUpdate 65 (.map (some b3)) (.int .i64 1) (.int .i64 1)) w4 fun w5 =>
  may_begin_25 r1 (some b3) w5 fun r6 w7 =>
  K r6 w7
def an11 : List An := [
  .reg ⟨[], .done, []⟩,
  .reg ⟨[(0, [.one .ptr]), (4, [.one .ptr])], .done, []⟩]
theorem may_New_11_of (w : World) (K : Tup [.one .ptr] → World → Prop) (hF_ : F11  w K) : may_New_11  w K :=
  call_of_F (l := an11) (args := []) follows tabOk Tryz.func11 (by kernel_rfl) (by kernel_rfl) (by kernel_rfl) hF_

/-- purlin/purlinlaw24.one -/
def F12 (h : Option Addr) (o : Carr [.int .i64, .int .i64, .int .i64, .int .i64, .int .i64, .str, .str, .slice]) (number : Int) (w : World) (K : Tup [.one .bool] → World → Prop) : Prop :=
  newP (.cells #[(.int .i64 o.1), (.int .i64 o.2.1), (.int .i64 o.2.2.1), (.int .i64 o.2.2.2.1), (.int .i64 o.2.2.2.2.1), (.string o.2.2.2.2.2.1), (.string o.2.2.2.2.2.2.1), (.slice o.2.2.2.2.2.2.2.a o.2.2.2.2.2.2.2.len o.2.2.2.2.2.2.2.cap)] 28) w fun b1 w2 =>
  ldA [.int .i64, .int .i64, .int .i64, .int .i64, .int .i64, .str, .str, .slice] ⟨b1, 0, none⟩ w2 fun c3 =>
  may_History_Did_16 h (c3.1, c3.2.1, c3.2.2.1, c3.2.2.2.1, c3.2.2.2.2.1, c3.2.2.2.2.2.1, c3.2.2.2.2.2.2.1, c3.2.2.2.2.2.2.2) 0 number w2 fun r4 w5 =>
  K r4 w5
def an12 : List An := [
  .reg ⟨[], .done, []⟩,
  .reg ⟨[(3, [.one .bool])], .done, []⟩]
theorem purlinlaw24_one_12_of (h : Option Addr) (o : Carr [.int .i64, .int .i64, .int .i64, .int .i64, .int .i64, .str, .str, .slice]) (number : Int) (w : World) (K : Tup [.one .bool] → World → Prop) (hF_ : F12 h o number w K) : purlinlaw24_one_12 h o number w K :=
  call_of_F (l := an12) (args := [Ty.mk (.one .ptr) h, Ty.mk (.agg [.int .i64, .int .i64, .int .i64, .int .i64, .int .i64, .str, .str, .slice]) o, Ty.mk (.one (.int .i64)) number]) follows tabOk Tryz.func12 (by kernel_rfl) (by kernel_rfl) (by kernel_rfl) hF_

/-- (*purlin/may.History).Allows -/
def F13 (h : Option Addr) (ns : Sl) (w : World) (K : Tup [.one .bool] → World → Prop) : Prop :=
  cnd (Option.isNone h) (
    K false w) (
    may_History_seen_27 h ns w fun r1 w2 =>
    cnd (!r1.2) (
      K false w2) (
      newP (.map #[] 0) w2 fun b3 w4 =>
      runP Tryz.prog (Instr.range 66 (.map r1.1)) [.one .ptr] w4 fun c5 w6 =>
      loopP (σ := Tup []) (fun again7 _s8 w9 =>
        nextP Tryz.prog (Instr.next (.pointer c5) false 0) [.one .str, .one (.int .i64)] w9 (fun w10 =>
          loopP (σ := Tup [.one (.int .i64)]) (fun again13 s14 w15 =>
            cnd (decide (s14 < (ns.len : Int))) (
              idxP s14 ns.len (
                onSome ns.a fun A16 =>
                ldA [.str, .int .i64, .int .i64, .int .i64, .slice] (A16.add (Int.toNat s14 * 5)) w15 fun c17 =>
                newP (.cells #[(.string (⟨#[]⟩ : ByteArray)), (.int .i64 0), (.int .i64 0), (.int .i64 0), (.slice none 0 0)] 30) w15 fun b18 w19 =>
                stN ⟨b18, 0, none⟩ [(.string c17.1), (.int .i64 c17.2.1), (.int .i64 c17.2.2.1), (.int .i64 c17.2.2.2.1), (.slice c17.2.2.2.2.a c17.2.2.2.2.len c17.2.2.2.2.cap)] w19 fun w20 =>
                ldA [.str, .int .i64, .int .i64, .int .i64, .slice] ⟨b18, 0, none⟩ w20 fun c21 =>
                may_History_fits_28 h (c21.1, c21.2.1, c21.2.2.1, c21.2.2.2.1, c21.2.2.2.2) r1.1 (some b3) w20 fun r22 w23 =>
                cnd (!r22) (
                  K false w23) (
                  again13 (w64 (s14 + 1)) w23))) (
              onSome h fun A24 =>
              ldP (.map) (A24.add 4) w15 fun x25 =>
              runP Tryz.prog (Instr.range 72 (.map x25)) [.one .ptr] w15 fun c26 w27 =>
              loopP (σ := Tup []) (fun again28 _s29 w30 =>
                nextP Tryz.prog (Instr.next (.pointer c26) false 0) [.agg [.int .i64, .str], .one .slice] w30 (fun w31 =>
                  onSome h fun A34 =>
                  ldP (.map) (A34.add 3) w31 fun x35 =>
                  runP Tryz.prog (Instr.range 71 (.map x35)) [.one .ptr] w31 fun c36 w37 =>
                  loopP (σ := Tup []) (fun again38 _s39 w40 =>
                    nextP Tryz.prog (Instr.next (.pointer c36) false 0) [.one (.int .i64), .agg [.bool, .bool, .bool]] w40 (fun w41 =>
                      K true w41) (fun _c43 w42 =>
                      rdP Tryz.prog (Instr.entry (.pointer c36)) [.one (.int .i64), .agg [.bool, .bool, .bool]] w42 fun c44 =>
                      newP (.cells #[(.bool false), (.bool false), (.bool false)] 82) w42 fun b45 w46 =>
                      stN ⟨b45, 0, none⟩ [(.bool c44.2.1), (.bool c44.2.2.1), (.bool c44.2.2.2)] w46 fun w47 =>
                      joinP (σ := Tup [.one .bool]) (fun J48 =>
                        ldP (.bool) ⟨b45, 0, none⟩ w47 fun x51 =>
                        cnd (!x51) (
                          J48 true w47) (
                          ldP (.bool) ⟨b45, 1, none⟩ w47 fun x52 =>
                          cnd (!x52) (
                            J48 true w47) (
                            J48 (c44.1 == 1) w47))) (fun s49 w50 =>
                      cnd s49 (
                        again38 () w50) (
                        rdP Tryz.prog (Instr.lookup 65 (.map (some b3)) (.int .i64 c44.1) false) [.one (.int .i64)] w50 fun c53 =>
                        cnd (c53 == 0) (
                          K false w50) (
                          ldP (.bool) ⟨b45, 2, none⟩ w50 fun x54 =>
                          cnd x54 (
                            rdP Tryz.prog (Instr.lookup 65 (.map (some b3)) (.int .i64 c44.1) false) [.one (.int .i64)] w50 fun c55 =>
                            cnd (c55 != 1) (
                              K false w50) (
                              again38 () w50)) (
                            again38 () w50)))))) () w37) (fun _c33 w32 =>
                  rdP Tryz.prog (Instr.entry (.pointer c26)) [.agg [.int .i64, .str], .one .slice] w32 fun c56 =>
                  newP (.cells #[(.int .i64 0), (.string (⟨#[]⟩ : ByteArray))] 77) w32 fun b57 w58 =>
                  stN ⟨b57, 0, none⟩ [(.int .i64 c56.1.1), (.string c56.1.2)] w58 fun w59 =>
                  slices_Contains_29 c56.2 0 w59 fun r60 w61 =>
                  cnd r60 (
                    again28 () w61) (
                    runP Tryz.prog (Instr.range 66 (.map r1.1)) [.one .ptr] w61 fun c62 w63 =>
                    loopP (σ := Tup []) (fun again64 _s65 w66 =>
                      nextP Tryz.prog (Instr.next (.pointer c62) false 0) [.one .str, .one (.int .i64)] w66 (fun w67 =>
                        again28 () w67) (fun _c69 w68 =>
                        rdP Tryz.prog (Instr.entry (.pointer c62)) [.one .str, .one (.int .i64)] w68 fun c70 =>
                        ldP (.str) ⟨b57, 1, none⟩ w68.drew fun x71 =>
                        strings_TrimSuffix_30 c70.1 (⟨#[47]⟩ : ByteArray) w68.drew fun r72 w73 =>
                        (w73.cell? ⟨b57, 1, none⟩ = some (.string x71)) ∧
                        ((r72.size + (⟨#[47]⟩ : ByteArray).size : Nat) : Int) ≤ IntKind.i64.max ∧
                        (((r72 ++ (⟨#[47]⟩ : ByteArray)).size + x71.size : Nat) : Int) ≤ IntKind.i64.max ∧
                        rdP Tryz.prog (Instr.lookup 66 (.map r1.1) (.string ((r72 ++ (⟨#[47]⟩ : ByteArray)) ++ x71)) true) [.one (.int .i64), .one .bool] w73 fun c74 =>
                        ldP (.int .i64) ⟨b57, 0, none⟩ w73 fun x75 =>
                        cnd (c70.2 == x75) (
                          cnd (!c74.2) (
                            K false w73) (
                            again64 () w73)) (
                          again64 () w73))) () w63))) () w27)) 0 w10) (fun _c12 w11 =>
          rdP Tryz.prog (Instr.entry (.pointer c5)) [.one .str, .one (.int .i64)] w11 fun c76 =>
          rdP Tryz.prog (Instr.lookup 65 (.map (some b3)) (.int .i64 c76.2) false) [.one (.int .i64)] w11 fun c77 =>
          runU Tryz.prog (Instr.mapUpdate 65 (.map (some b3)) (.int .i64 c76.2) (.int .i64 (w64 (c77 + 1)))) w11 fun w78 =>
          again7 () w78)) () w6))
def an13 : List An := [
  .reg ⟨[], .done, []⟩,
  .reg ⟨[], .done, []⟩,
  .nop,
  .reg ⟨[], .done, []⟩,
  .reg ⟨[(2, [.one .map, .one .bool])], .done, []⟩,
  .reg ⟨[], .done, []⟩,
  .nop,
  .reg ⟨[], .done, []⟩,
  .reg ⟨[], .done, []⟩,
  .reg ⟨[], .done, []⟩,
  .nop,
  .nop,
  .loop [] [9, 33, 34, 35, 36, 37, 38, 39, 40],
  .reg ⟨[(0, [.one .str, .one (.int .i64)])], .done, []⟩,
  .nop,
  .nop,
  .reg ⟨[(0, [.one .str, .one (.int .i64)])], .done, []⟩,
  .reg ⟨[], .done, []⟩,
  .reg ⟨[], .done, []⟩,
  .nop,
  .nop,
  .loop [(43, .one (.int .i64))] [4, 11, 44, 45, 46, 47, 48, 49, 50, 51, 52, 53],
  .reg ⟨[], .done, []⟩,
  .nop,
  .nop,
  .reg ⟨[], .done, []⟩,
  .reg ⟨[(4, [.one .bool])], .done, []⟩,
  .nop,
  .reg ⟨[], .done, []⟩,
  .reg ⟨[], .done, []⟩,
  .reg ⟨[], .done, []⟩,
  .nop,
  .nop,
  .loop [] [4, 12, 13, 14, 15, 16, 17, 59, 60, 61, 62, 63, 64, 65, 66, 67, 68, 69, 70, 71, 72, 73, 74, 75, 76, 77, 78, 79, 80, 81, 82, 83, 84, 85, 86, 87, 88, 89, 90, 91],
  .reg ⟨[(0, [.agg [.int .i64, .str], .one .slice])], .done, []⟩,
  .nop,
  .nop,
  .reg ⟨[(0, [.agg [.int .i64, .str], .one .slice])], .done, []⟩,
  .reg ⟨[(1, [.one .bool])], .done, []⟩,
  .nop,
  .reg ⟨[], .done, []⟩,
  .nop,
  .nop,
  .loop [] [4, 14, 15, 16, 17, 68, 69, 70, 71, 72, 73, 74, 75, 76, 77, 78, 79, 80, 81, 82, 83, 84, 85, 86, 87, 88, 89, 90, 91],
  .reg ⟨[(0, [.one .str, .one (.int .i64)])], .done, []⟩,
  .nop,
  .nop,
  .reg ⟨[(0, [.one .str, .one (.int .i64)])], .done, []⟩,
  .reg ⟨[(2, [.one .str])], (.nop 0 0 (.nop 1 0 (.nop 4 0 (.nop 5 16 (.bar 2 2 (.nop 3 6 (.nop 6 62 (.nop 7 127 (.nop 8 255 (.nop 9 511 (.nop 10 511 (.nop 11 1023 (.nop 12 4095 .done)))))))) .none))))), []⟩,
  .reg ⟨[], .done, []⟩,
  .nop,
  .reg ⟨[], .done, []⟩,
  .reg ⟨[], .done, []⟩,
  .nop,
  .nop,
  .loop [] [4, 18, 19, 97, 98, 99, 100, 101, 102, 103, 104, 105, 106, 107, 108, 109, 110, 111, 112, 113, 114, 115, 116, 117, 118, 119, 120, 121, 122, 123, 124, 125, 126, 127],
  .reg ⟨[(0, [.one (.int .i64), .agg [.bool, .bool, .bool]])], .done, []⟩,
  .nop,
  .nop,
  .reg ⟨[(0, [.one (.int .i64), .agg [.bool, .bool, .bool]])], .done, []⟩,
  .join [(113, .one .bool)] [102, 103, 104, 105, 106, 107, 108, 109, 110, 111, 112],
  .reg ⟨[], .done, []⟩,
  .nop,
  .reg ⟨[], .done, []⟩,
  .nop,
  .reg ⟨[], .done, []⟩,
  .reg ⟨[], .done, []⟩]
theorem may_History_Allows_13_of (h : Option Addr) (ns : Sl) (w : World) (K : Tup [.one .bool] → World → Prop) (hF_ : F13 h ns w K) : may_History_Allows_13 h ns w K :=
  call_of_F (l := an13) (args := [Ty.mk (.one .ptr) h, Ty.mk (.one .slice) ns]) follows tabOk Tryz.func13 (by kernel_rfl) (by kernel_rfl) (by kernel_rfl) hF_

/-- purlin/purlinlaw0.GreatOps -/
def F14 (os : Sl) (most : Int) (w : World) (K : Tup [.one .bool] → World → Prop) : Prop :=
  loopP (σ := Tup [.one (.int .i64)]) (fun again1 s2 w3 =>
    cnd (decide (s2 < (os.len : Int))) (
      cnd (decide ((os.len : Int) ≤ most)) (
        idxP s2 os.len (
          onSome os.a fun A4 =>
          ldA [.int .i64, .int .i64, .int .i64, .int .i64, .int .i64, .str, .str, .slice] (A4.add (Int.toNat s2 * 8)) w3 fun c5 =>
          purlinlaw0_Great_19 (c5.1, c5.2.1, c5.2.2.1, c5.2.2.2.1, c5.2.2.2.2.1, c5.2.2.2.2.2.1, c5.2.2.2.2.2.2.1, c5.2.2.2.2.2.2.2) w3 fun r6 w7 =>
          cnd r6 (
            K true w7) (
            again1 (w64 (s2 + 1)) w7))) (
        K (decide ((os.len : Int) > most)) w3)) (
      K (decide ((os.len : Int) > most)) w3)) 0 w
def an14 : List An := [
  .reg ⟨[], .done, []⟩,
  .reg ⟨[], .done, []⟩,
  .nop,
  .nop,
  .loop [(5, .one (.int .i64))] [4, 6, 7, 8, 9, 10, 11, 12, 13, 14, 15, 16, 17, 18, 19, 20, 21, 22],
  .reg ⟨[], .done, []⟩,
  .nop,
  .nop,
  .reg ⟨[(4, [.one .bool])], .done, []⟩,
  .nop,
  .reg ⟨[], .done, []⟩,
  .reg ⟨[], .done, []⟩,
  .reg ⟨[], .done, []⟩]
theorem purlinlaw0_GreatOps_14_of (os : Sl) (most : Int) (w : World) (K : Tup [.one .bool] → World → Prop) (hF_ : F14 os most w K) : purlinlaw0_GreatOps_14 os most w K :=
  call_of_F (l := an14) (args := [Ty.mk (.one .slice) os, Ty.mk (.one (.int .i64)) most]) follows tabOk Tryz.func14 (by kernel_rfl) (by kernel_rfl) (by kernel_rfl) hF_

/-- purlin/purlinref14.New -/
def F15  (w : World) (K : Tup [.one .ptr] → World → Prop) : Prop :=
  newP (.cells #[(.int .i64 0), (.int .i64 0), (.int .i64 0), (.int .i64 0), (.slice none 0 0), (.slice none 0 0), (.slice none 0 0), (.int .i64 2), (.int .i64 1), (.int .i64 1), (.int .i64 0), (.slice none 0 0), (.slice none 0 0), (.slice none 0 0)] 86) w fun b1 w2 =>
  newP (.cells #[(.slice (some ⟨b1, 0, none⟩) 2 2), (.int .i64 0), (.int .i64 0), (.int .i64 0), (.bool false), (.int .i64 0), (.int .i64 0), (.int .i64 0), (.bool false), (.int .i64 0), (.int .i64 0), (.int .i64 0), (.bool false), (.int .i64 0), (.int .i64 0), (.int .i64 0), (.bool false), (.int .i64 0), (.int .i64 0), (.int .i64 0), (.bool false), (.int .i64 0), (.int .i64 0), (.int .i64 0), (.bool false), (.int .i64 0), (.int .i64 0), (.int .i64 0), (.bool false), (.int .i64 0), (.int .i64 0), (.int .i64 0), (.bool false), (.int .i64 0), (.int .i64 0), (.int .i64 0), (.bool false), (.int .i64 0), (.int .i64 0), (.int .i64 0), (.bool false), (.int .i64 0), (.int .i64 0), (.int .i64 0), (.bool false), (.int .i64 0), (.int .i64 0), (.int .i64 0), (.bool false), (.int .i64 0), (.int .i64 0), (.int .i64 0), (.bool false), (.int .i64 0), (.int .i64 0), (.int .i64 0), (.bool false), (.int .i64 0), (.int .i64 0), (.int .i64 0), (.bool false), (.int .i64 0), (.int .i64 0), (.int .i64 0), (.bool false)] 94) w2 fun b3 w4 =>
  K (some ⟨b3, 0, none⟩) w4
def an15 : List An := [
  .reg ⟨[], .done, []⟩,
  .reg ⟨[], .done, []⟩]
theorem purlinref14_New_15_of (w : World) (K : Tup [.one .ptr] → World → Prop) (hF_ : F15  w K) : purlinref14_New_15  w K :=
  call_of_F (l := an15) (args := []) follows tabOk Tryz.func15 (by kernel_rfl) (by kernel_rfl) (by kernel_rfl) hF_

/-- (*purlin/may.History).Did -/
def F16 (h : Option Addr) (o : Carr [.int .i64, .int .i64, .int .i64, .int .i64, .int .i64, .str, .str, .slice]) (code : Int) (number : Int) (w : World) (K : Tup [.one .bool] → World → Prop) : Prop :=
  newP (.cells #[(.int .i64 o.1), (.int .i64 o.2.1), (.int .i64 o.2.2.1), (.int .i64 o.2.2.2.1), (.int .i64 o.2.2.2.2.1), (.string o.2.2.2.2.2.1), (.string o.2.2.2.2.2.2.1), (.slice o.2.2.2.2.2.2.2.a o.2.2.2.2.2.2.2.len o.2.2.2.2.2.2.2.cap)] 28) w fun b1 w2 =>
  cnd (Option.isNone h) (
    K false w2) (
    onSome h fun A3 =>
    ldP (.ptr) A3 w2 fun x4 =>
    tree_Tree_Copy_31 x4 w2 fun r5 w6 =>
    ldA [.int .i64, .int .i64, .int .i64, .int .i64, .int .i64, .str, .str, .slice] ⟨b1, 0, none⟩ w6 fun c7 =>
    tree_Tree_Do_32 r5 (c7.1, c7.2.1, c7.2.2.1, c7.2.2.2.1, c7.2.2.2.2.1, c7.2.2.2.2.2.1, c7.2.2.2.2.2.2.1, c7.2.2.2.2.2.2.2) w6 fun r8 w9 =>
    newP (.cells #[(.int .i64 0), (.int .i64 0), (.int .i64 0), (.int .i64 0), (.slice none 0 0), (.slice none 0 0)] 43) w9 fun b10 w11 =>
    stN ⟨b10, 0, none⟩ [(.int .i64 r8.1), (.int .i64 r8.2.1), (.int .i64 r8.2.2.1), (.int .i64 r8.2.2.2.1), (.slice r8.2.2.2.2.1.a r8.2.2.2.2.1.len r8.2.2.2.2.1.cap), (.slice r8.2.2.2.2.2.a r8.2.2.2.2.2.len r8.2.2.2.2.2.cap)] w11 fun w12 =>
    cnd (code == 4) (
      ldP (.int .i64) ⟨b10, 0, none⟩ w12 fun x13 =>
      cnd (x13 == 0) (
        onSome h fun A14 =>
        ldP (.ptr) A14 w12 fun x15 =>
        may_fresh_33 r5 x15 w12 fun r16 w17 =>
        cnd (r16 != 0) (
          onSome h fun A18 =>
          ldP (.map) (A18.add 1) w17 fun x19 =>
          runU Tryz.prog (Instr.mapUpdate 65 (.map x19) (.int .i64 r16) (.int .i64 0)) w17 fun w20 =>
          may_History_note_34 h r5 w20 fun _r21 w22 =>
          K true w22) (
          may_History_note_34 h r5 w17 fun _r23 w24 =>
          K true w24)) (
        K true w12)) (
      cnd (code == 13) (
        K true w12) (
        ldP (.int .i64) ⟨b10, 0, none⟩ w12 fun x25 =>
        cnd (x25 != code) (
          K false w12) (
          cnd (code != 0) (
            K true w12) (
            onSome h fun A26 =>
            ldP (.ptr) A26 w12 fun x27 =>
            may_fresh_33 r5 x27 w12 fun r28 w29 =>
            onSome h fun A30 =>
            stP A30 (.pointer r5) w29 fun w31 =>
            may_History_note_34 h r5 w31 fun _r32 w33 =>
            joinP (σ := Tup []) (fun J34 =>
              cnd (r28 != 0) (
                onSome h fun A37 =>
                ldP (.map) (A37.add 1) w33 fun x38 =>
                runU Tryz.prog (Instr.mapUpdate 65 (.map x38) (.int .i64 r28) (.int .i64 number)) w33 fun w39 =>
                J34 () w39) (
                J34 () w33)) (fun _s35 w36 =>
            ldP (.int .i64) ⟨b1, 0, none⟩ w36 fun x40 =>
            cnd (x40 == 1) (
              onSome h fun A41 =>
              ldP (.map) (A41.add 5) w36.drew fun x42 =>
              ldP (.int .i64) ⟨b10, 1, none⟩ w36.drew fun x43 =>
              runP Tryz.prog (Builtin.delete_ #[73, 3] 0 #[(.map x42), (.int .i64 x43)]) [] w36.drew fun _c44 w45 =>
              ldP (.str) ⟨b1, 5, none⟩ w45 fun x46 =>
              tree_Tree_Where_35 r5 x46 w45 fun r47 w48 =>
              cnd r47.2.2 (
                onSome h fun A49 =>
                ldP (.map) (A49.add 5) w48.drew fun x50 =>
                ldP (.int .i64) ⟨b10, 1, none⟩ w48.drew fun x51 =>
                runU Tryz.prog (Instr.mapUpdate 73 (.map x50) (.int .i64 x51) (.agg #[(.int .i64 r47.1), (.string r47.2.1)])) w48.drew fun w52 =>
                ldA [.int .i64, .int .i64, .int .i64, .int .i64, .int .i64, .str, .str, .slice] ⟨b1, 0, none⟩ w52 fun c53 =>
                may_History_lasts_36 h (c53.1, c53.2.1, c53.2.2.1, c53.2.2.2.1, c53.2.2.2.2.1, c53.2.2.2.2.2.1, c53.2.2.2.2.2.2.1, c53.2.2.2.2.2.2.2) w52 fun _r54 w55 =>
                K true w55) (
                ldA [.int .i64, .int .i64, .int .i64, .int .i64, .int .i64, .str, .str, .slice] ⟨b1, 0, none⟩ w48 fun c56 =>
                may_History_lasts_36 h (c56.1, c56.2.1, c56.2.2.1, c56.2.2.2.1, c56.2.2.2.2.1, c56.2.2.2.2.2.1, c56.2.2.2.2.2.2.1, c56.2.2.2.2.2.2.2) w48 fun _r57 w58 =>
                K true w58)) (
              ldA [.int .i64, .int .i64, .int .i64, .int .i64, .int .i64, .str, .str, .slice] ⟨b1, 0, none⟩ w36 fun c59 =>
              may_History_lasts_36 h (c59.1, c59.2.1, c59.2.2.1, c59.2.2.2.1, c59.2.2.2.2.1, c59.2.2.2.2.2.1, c59.2.2.2.2.2.2.1, c59.2.2.2.2.2.2.2) w36 fun _r60 w61 =>
              K true w61)))))))
def an16 : List An := [
  .reg ⟨[], .done, []⟩,
  .reg ⟨[], .done, []⟩,
  .nop,
  .reg ⟨[], .done, []⟩,
  .reg ⟨[(4, [.one .ptr])], .done, []⟩,
  .reg ⟨[(2, [.agg [.int .i64, .int .i64, .int .i64, .int .i64, .slice, .slice]])], .done, []⟩,
  .nop,
  .reg ⟨[], .done, []⟩,
  .nop,
  .reg ⟨[], .done, []⟩,
  .nop,
  .reg ⟨[(5, [.one (.int .i64)])], .done, []⟩,
  .reg ⟨[], .done, []⟩,
  .nop,
  .reg ⟨[], .done, []⟩,
  .reg ⟨[(2, [])], .done, []⟩,
  .reg ⟨[], .done, []⟩,
  .reg ⟨[], .done, []⟩,
  .nop,
  .reg ⟨[], .done, []⟩,
  .reg ⟨[], .done, []⟩,
  .nop,
  .reg ⟨[], .done, []⟩,
  .reg ⟨[], .done, []⟩,
  .nop,
  .reg ⟨[], .done, []⟩,
  .reg ⟨[(5, [.one (.int .i64)])], .done, []⟩,
  .reg ⟨[], .done, []⟩,
  .reg ⟨[(2, [])], .done, []⟩,
  .reg ⟨[], .done, []⟩,
  .join [] [74, 75, 76, 77, 78, 79],
  .reg ⟨[], .done, []⟩,
  .reg ⟨[], .done, []⟩,
  .nop,
  .reg ⟨[(6, [])], (.nop 0 0 (.nop 1 1 (.nop 2 3 (.nop 3 7 (.nop 4 0 (.nop 5 16 (.bar 6 63 .done .none))))))), []⟩,
  .reg ⟨[(3, [.one (.int .i64), .one .str, .one .bool])], .done, []⟩,
  .reg ⟨[], .done, []⟩,
  .nop,
  .reg ⟨[], (.nop 0 0 (.nop 1 1 (.nop 2 3 (.nop 3 7 (.nop 4 0 (.nop 5 16 (.nop 6 0 (.nop 7 0 (.nop 8 192 (.bar 9 511 .done .none)))))))))), []⟩,
  .reg ⟨[(2, [])], .done, []⟩,
  .reg ⟨[], .done, []⟩]
theorem may_History_Did_16_of (h : Option Addr) (o : Carr [.int .i64, .int .i64, .int .i64, .int .i64, .int .i64, .str, .str, .slice]) (code : Int) (number : Int) (w : World) (K : Tup [.one .bool] → World → Prop) (hF_ : F16 h o code number w K) : may_History_Did_16 h o code number w K :=
  call_of_F (l := an16) (args := [Ty.mk (.one .ptr) h, Ty.mk (.agg [.int .i64, .int .i64, .int .i64, .int .i64, .int .i64, .str, .str, .slice]) o, Ty.mk (.one (.int .i64)) code, Ty.mk (.one (.int .i64)) number]) follows tabOk Tryz.func16 (by kernel_rfl) (by kernel_rfl) (by kernel_rfl) hF_

end Go.Proofs.YtcpoglgnkedpaaaGreatDoor
