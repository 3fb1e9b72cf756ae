/-
  What the functions' bodies ask (printed by vcgen.py).
-/
import Derived.Test.YtcpoglgnkedpaaaGreatDoorTS
namespace Go.Proofs.YtcpoglgnkedpaaaGreatDoor
open Go Go.Vc Go.Proofs


/-- (*purlin/purlinref14.Tree).names -/
def F45 (t : Option Addr) (o : Carr [.int .i64, .int .i64, .int .i64, .int .i64, .int .i64, .str, .str, .slice]) (w : World) (K : Tup [.agg [.int .i64, .int .i64, .int .i64, .int .i64, .slice, .slice]] → World → Prop) : Prop :=
  newP (.cells #[(.int .i64 o.1), (.int .i64 o.2.1), (.int .i64 o.2.2.1), (.int .i64 o.2.2.2.1), (.int .i64 o.2.2.2.2.1), (.string o.2.2.2.2.2.1), (.string o.2.2.2.2.2.2.1), (.slice o.2.2.2.2.2.2.2.a o.2.2.2.2.2.2.2.len o.2.2.2.2.2.2.2.cap)] 28) w fun b1 w2 =>
  newP (.cells #[(.int .i64 0), (.int .i64 0), (.int .i64 0), (.int .i64 0), (.slice none 0 0), (.slice none 0 0)] 43) w2 fun b3 w4 =>
  ldP (.str) ⟨b1, 6, none⟩ w4 fun x5 =>
  ldP (.int .i64) ⟨b1, 0, none⟩ w4 fun x6 =>
  joinP (σ := Tup [.one .str, .one (.int .i64), .one (.int .i64)]) (fun J7 =>
    joinP (σ := Tup [.one .str, .one (.int .i64), .one (.int .i64)]) (fun J10 =>
      cnd (x6 == 9) (
        ldP (.str) ⟨b1, 5, none⟩ w4 fun x13 =>
        J10 (x13, 0, 2) w4) (
        joinP (σ := Tup [.one (.int .i64)]) (fun J14 =>
          cnd (x6 == 12) (
            ldP (.str) ⟨b1, 5, none⟩ w4 fun x17 =>
            purlinref14_Tree_Find_57 t x17 true w4 fun r18 w19 =>
            newP (.cells #[(.int .i64 0), (.string (⟨#[]⟩ : ByteArray)), (.int .i64 0)] 56) w19 fun b20 w21 =>
            stN ⟨b20, 0, none⟩ [(.int .i64 r18.1.1), (.string r18.1.2.1), (.int .i64 r18.1.2.2)] w21 fun w22 =>
            cnd (r18.2 != 0) (
              purlinref14_code_39 r18.2 w22 fun r23 w24 =>
              stN ⟨b3, 0, none⟩ [(.int .i64 r23.1), (.int .i64 r23.2.1), (.int .i64 r23.2.2.1), (.int .i64 r23.2.2.2.1), (.slice r23.2.2.2.2.1.a r23.2.2.2.2.1.len r23.2.2.2.2.1.cap), (.slice r23.2.2.2.2.2.a r23.2.2.2.2.2.len r23.2.2.2.2.2.cap)] w24 fun w25 =>
              ldA [.int .i64, .int .i64, .int .i64, .int .i64, .slice, .slice] ⟨b3, 0, none⟩ w25 fun c26 =>
              K (c26.1, c26.2.1, c26.2.2.1, c26.2.2.2.1, c26.2.2.2.2.1, c26.2.2.2.2.2) w25) (
              onSome t fun A27 =>
              ldP (.slice) A27 w22.drew fun x28 =>
              ldP (.int .i64) ⟨b20, 2, none⟩ w22.drew fun x29 =>
              idxP x29 x28.len (
                onSome x28.a fun A30 =>
                ldP (.int .i64) (A30.add (Int.toNat x29 * 7)) w22.drew fun x31 =>
                cnd (x31 == 2) (
                  purlinref14_code_39 16 w22.drew fun r32 w33 =>
                  stN ⟨b3, 0, none⟩ [(.int .i64 r32.1), (.int .i64 r32.2.1), (.int .i64 r32.2.2.1), (.int .i64 r32.2.2.2.1), (.slice r32.2.2.2.2.1.a r32.2.2.2.2.1.len r32.2.2.2.2.1.cap), (.slice r32.2.2.2.2.2.a r32.2.2.2.2.2.len r32.2.2.2.2.2.cap)] w33 fun w34 =>
                  ldA [.int .i64, .int .i64, .int .i64, .int .i64, .slice, .slice] ⟨b3, 0, none⟩ w34 fun c35 =>
                  K (c35.1, c35.2.1, c35.2.2.1, c35.2.2.2.1, c35.2.2.2.2.1, c35.2.2.2.2.2) w34) (
                  ldP (.int .i64) ⟨b20, 2, none⟩ w22.drew fun x36 =>
                  J14 x36 w22.drew)))) (
            ldP (.str) ⟨b1, 5, none⟩ w4 fun x37 =>
            purlinref12_Target_102 x37 w4 fun r38 w39 =>
            cnd (r38.2.2 != 0) (
              purlinref14_code_39 r38.2.2 w39 fun r40 w41 =>
              stN ⟨b3, 0, none⟩ [(.int .i64 r40.1), (.int .i64 r40.2.1), (.int .i64 r40.2.2.1), (.int .i64 r40.2.2.2.1), (.slice r40.2.2.2.2.1.a r40.2.2.2.2.1.len r40.2.2.2.2.1.cap), (.slice r40.2.2.2.2.2.a r40.2.2.2.2.2.len r40.2.2.2.2.2.cap)] w41 fun w42 =>
              ldA [.int .i64, .int .i64, .int .i64, .int .i64, .slice, .slice] ⟨b3, 0, none⟩ w42 fun c43 =>
              K (c43.1, c43.2.1, c43.2.2.1, c43.2.2.2.1, c43.2.2.2.2.1, c43.2.2.2.2.2) w42) (
              J14 0 w39))) (fun s15 w16 =>
        J10 (x5, s15, 3) w16))) (fun s11 w12 =>
    J7 (s11.1, s11.2.1, s11.2.2) w12)) (fun s8 w9 =>
  purlinref14_Tree_Place_95 t s8.1 w9 fun r44 w45 =>
  newP (.cells #[(.int .i64 0), (.string (⟨#[]⟩ : ByteArray)), (.int .i64 0)] 56) w45 fun b46 w47 =>
  stN ⟨b46, 0, none⟩ [(.int .i64 r44.1.1), (.string r44.1.2.1), (.int .i64 r44.1.2.2)] w47 fun w48 =>
  cnd (r44.2 != 0) (
    purlinref14_code_39 r44.2 w48 fun r49 w50 =>
    stN ⟨b3, 0, none⟩ [(.int .i64 r49.1), (.int .i64 r49.2.1), (.int .i64 r49.2.2.1), (.int .i64 r49.2.2.2.1), (.slice r49.2.2.2.2.1.a r49.2.2.2.2.1.len r49.2.2.2.2.1.cap), (.slice r49.2.2.2.2.2.a r49.2.2.2.2.2.len r49.2.2.2.2.2.cap)] w50 fun w51 =>
    ldA [.int .i64, .int .i64, .int .i64, .int .i64, .slice, .slice] ⟨b3, 0, none⟩ w51 fun c52 =>
    K (c52.1, c52.2.1, c52.2.2.1, c52.2.2.2.1, c52.2.2.2.2.1, c52.2.2.2.2.2) w51) (
    ldP (.int .i64) ⟨b46, 2, none⟩ w48 fun x53 =>
    cnd (x53 != 0) (
      purlinref14_code_39 6 w48 fun r54 w55 =>
      stN ⟨b3, 0, none⟩ [(.int .i64 r54.1), (.int .i64 r54.2.1), (.int .i64 r54.2.2.1), (.int .i64 r54.2.2.2.1), (.slice r54.2.2.2.2.1.a r54.2.2.2.2.1.len r54.2.2.2.2.1.cap), (.slice r54.2.2.2.2.2.a r54.2.2.2.2.2.len r54.2.2.2.2.2.cap)] w55 fun w56 =>
      ldA [.int .i64, .int .i64, .int .i64, .int .i64, .slice, .slice] ⟨b3, 0, none⟩ w56 fun c57 =>
      K (c57.1, c57.2.1, c57.2.2.1, c57.2.2.2.1, c57.2.2.2.2.1, c57.2.2.2.2.2) w56) (
      cnd (s8.2.1 != 0) (
        ldP (.int .i64) ⟨b46, 0, none⟩ w48 fun x58 =>
        ldP (.str) ⟨b46, 1, none⟩ w48 fun x59 =>
        purlinref14_Tree_Put_103 t x58 x59 s8.2.1 w48 fun _r60 w61 =>
        stN ⟨b3, 0, none⟩ [(.int .i64 0), (.int .i64 0), (.int .i64 0), (.int .i64 0), (.slice none 0 0), (.slice none 0 0)] w61 fun w62 =>
        ldA [.int .i64, .int .i64, .int .i64, .int .i64, .slice, .slice] ⟨b3, 0, none⟩ w62 fun c63 =>
        K (c63.1, c63.2.1, c63.2.2.1, c63.2.2.2.1, c63.2.2.2.2.1, c63.2.2.2.2.2) w62) (
        cnd (s8.2.2 == 2) (
          ldA [.int .i64, .str, .int .i64] ⟨b46, 0, none⟩ w48 fun c64 =>
          purlinref14_Tree_fresh_97 t (c64.1, c64.2.1, c64.2.2) s8.2.2 (⟨#[]⟩ : ByteArray) w48 fun _r65 w66 =>
          stN ⟨b3, 0, none⟩ [(.int .i64 0), (.int .i64 0), (.int .i64 0), (.int .i64 0), (.slice none 0 0), (.slice none 0 0)] w66 fun w67 =>
          ldA [.int .i64, .int .i64, .int .i64, .int .i64, .slice, .slice] ⟨b3, 0, none⟩ w67 fun c68 =>
          K (c68.1, c68.2.1, c68.2.2.1, c68.2.2.2.1, c68.2.2.2.2.1, c68.2.2.2.2.2) w67) (
          ldA [.int .i64, .str, .int .i64] ⟨b46, 0, none⟩ w48 fun c69 =>
          ldP (.str) ⟨b1, 5, none⟩ w48 fun x70 =>
          purlinref14_Tree_fresh_97 t (c69.1, c69.2.1, c69.2.2) s8.2.2 x70 w48 fun _r71 w72 =>
          stN ⟨b3, 0, none⟩ [(.int .i64 0), (.int .i64 0), (.int .i64 0), (.int .i64 0), (.slice none 0 0), (.slice none 0 0)] w72 fun w73 =>
          ldA [.int .i64, .int .i64, .int .i64, .int .i64, .slice, .slice] ⟨b3, 0, none⟩ w73 fun c74 =>
          K (c74.1, c74.2.1, c74.2.2.1, c74.2.2.2.1, c74.2.2.2.2.1, c74.2.2.2.2.2) w73)))))
def an45 : List An := [
  .reg ⟨[], .done, []⟩,
  .reg ⟨[], .done, []⟩,
  .reg ⟨[], .done, []⟩,
  .join [(5, .one .str), (6, .one (.int .i64)), (7, .one (.int .i64))] [8, 9, 10, 11, 12, 19, 20, 21, 22, 23, 24, 25, 26, 27, 28, 29, 30, 31, 32, 33, 34, 35, 36, 37, 38, 39, 40, 41, 42, 43, 44, 45, 46, 47, 48, 49, 50, 51, 52, 53, 54, 55, 56, 57, 58, 59],
  .reg ⟨[], .done, []⟩,
  .join [(5, .one .str), (6, .one (.int .i64)), (7, .one (.int .i64))] [8, 9, 10, 11, 12, 19, 20, 21, 22, 23, 24, 25, 26, 27, 28, 29, 32, 33, 34, 35, 36, 37, 38, 39, 40, 41, 42, 43, 44, 45, 46, 47, 48, 49, 50, 51, 52, 53, 54, 55, 56, 57, 58, 59],
  .reg ⟨[], .done, []⟩,
  .reg ⟨[], .done, []⟩,
  .join [(6, .one (.int .i64))] [8, 9, 10, 11, 12, 19, 20, 21, 22, 23, 24, 25, 26, 27, 28, 29, 36, 37, 38, 39, 40, 41, 42, 43, 44, 45, 46, 47, 48, 49, 50, 51, 52, 53, 54, 55, 56, 57, 58, 59],
  .reg ⟨[(3, [.agg [.int .i64, .str, .int .i64], .one (.int .i64)])], .done, []⟩,
  .reg ⟨[], .done, []⟩,
  .nop,
  .reg ⟨[(1, [.agg [.int .i64, .int .i64, .int .i64, .int .i64, .slice, .slice]])], .done, []⟩,
  .reg ⟨[], (.nop 0 0 (.nop 1 1 (.nop 2 3 (.nop 3 7 (.nop 4 0 (.nop 5 16 (.nop 6 63 (.nop 7 127 (.nop 8 255 (.nop 9 511 .done)))))))))), []⟩,
  .nop,
  .reg ⟨[(0, [.agg [.int .i64, .int .i64, .int .i64, .int .i64, .slice, .slice]])], .done, []⟩,
  .reg ⟨[], .done, []⟩,
  .reg ⟨[(2, [.one .slice, .one .bool, .one (.int .i64)])], .done, []⟩,
  .reg ⟨[], .done, []⟩,
  .nop,
  .reg ⟨[(1, [.agg [.int .i64, .int .i64, .int .i64, .int .i64, .slice, .slice]])], .done, []⟩,
  .reg ⟨[(2, [.agg [.int .i64, .str, .int .i64], .one (.int .i64)])], .done, []⟩,
  .nop,
  .reg ⟨[], .done, []⟩,
  .nop,
  .reg ⟨[(1, [.agg [.int .i64, .int .i64, .int .i64, .int .i64, .slice, .slice]])], .done, []⟩,
  .reg ⟨[], .done, []⟩,
  .nop,
  .reg ⟨[(0, [.agg [.int .i64, .int .i64, .int .i64, .int .i64, .slice, .slice]])], .done, []⟩,
  .reg ⟨[], .done, []⟩,
  .nop,
  .reg ⟨[(6, [])], .done, []⟩,
  .reg ⟨[], .done, []⟩,
  .nop,
  .reg ⟨[(3, [.one (.int .i64)])], .done, []⟩,
  .reg ⟨[(5, [.one (.int .i64)])], .done, []⟩,
  .reg ⟨[], .done, []⟩]
theorem purlinref14_Tree_names_45_of (t : Option Addr) (o : Carr [.int .i64, .int .i64, .int .i64, .int .i64, .int .i64, .str, .str, .slice]) (w : World) (K : Tup [.agg [.int .i64, .int .i64, .int .i64, .int .i64, .slice, .slice]] → World → Prop) (hF_ : F45 t o w K) : purlinref14_Tree_names_45 t o w K :=
  call_of_F (l := an45) (args := [Ty.mk (.one .ptr) t, Ty.mk (.agg [.int .i64, .int .i64, .int .i64, .int .i64, .int .i64, .str, .str, .slice]) o]) follows tabOk Tryz.func45 (by kernel_rfl) (by kernel_rfl) (by kernel_rfl) hF_

/-- (*purlin/purlinref14.Tree).rename -/
def F46 (t : Option Addr) (o : Carr [.int .i64, .int .i64, .int .i64, .int .i64, .int .i64, .str, .str, .slice]) (w : World) (K : Tup [.agg [.int .i64, .int .i64, .int .i64, .int .i64, .slice, .slice]] → World → Prop) : Prop :=
  newP (.cells #[(.int .i64 o.1), (.int .i64 o.2.1), (.int .i64 o.2.2.1), (.int .i64 o.2.2.2.1), (.int .i64 o.2.2.2.2.1), (.string o.2.2.2.2.2.1), (.string o.2.2.2.2.2.2.1), (.slice o.2.2.2.2.2.2.2.a o.2.2.2.2.2.2.2.len o.2.2.2.2.2.2.2.cap)] 28) w fun b1 w2 =>
  newP (.cells #[(.int .i64 0), (.int .i64 0), (.int .i64 0), (.int .i64 0), (.slice none 0 0), (.slice none 0 0)] 43) w2 fun b3 w4 =>
  ldP (.str) ⟨b1, 5, none⟩ w4 fun x5 =>
  purlinref12_Last_104 x5 w4 fun r6 w7 =>
  ldP (.str) ⟨b1, 6, none⟩ w7 fun x8 =>
  purlinref12_Last_104 x8 w7 fun r9 w10 =>
  cnd (r6.2.2 != 0) (
    purlinref14_code_39 r6.2.2 w10 fun r11 w12 =>
    stN ⟨b3, 0, none⟩ [(.int .i64 r11.1), (.int .i64 r11.2.1), (.int .i64 r11.2.2.1), (.int .i64 r11.2.2.2.1), (.slice r11.2.2.2.2.1.a r11.2.2.2.2.1.len r11.2.2.2.2.1.cap), (.slice r11.2.2.2.2.2.a r11.2.2.2.2.2.len r11.2.2.2.2.2.cap)] w12 fun w13 =>
    ldA [.int .i64, .int .i64, .int .i64, .int .i64, .slice, .slice] ⟨b3, 0, none⟩ w13 fun c14 =>
    K (c14.1, c14.2.1, c14.2.2.1, c14.2.2.2.1, c14.2.2.2.2.1, c14.2.2.2.2.2) w13) (
    cnd (r9.2.2 != 0) (
      purlinref14_code_39 r9.2.2 w10 fun r15 w16 =>
      stN ⟨b3, 0, none⟩ [(.int .i64 r15.1), (.int .i64 r15.2.1), (.int .i64 r15.2.2.1), (.int .i64 r15.2.2.2.1), (.slice r15.2.2.2.2.1.a r15.2.2.2.2.1.len r15.2.2.2.2.1.cap), (.slice r15.2.2.2.2.2.a r15.2.2.2.2.2.len r15.2.2.2.2.2.cap)] w16 fun w17 =>
      ldA [.int .i64, .int .i64, .int .i64, .int .i64, .slice, .slice] ⟨b3, 0, none⟩ w17 fun c18 =>
      K (c18.1, c18.2.1, c18.2.2.1, c18.2.2.2.1, c18.2.2.2.2.1, c18.2.2.2.2.2) w17) (
      ldP (.str) ⟨b1, 5, none⟩ w10 fun x19 =>
      purlinref14_Tree_Place_95 t x19 w10 fun r20 w21 =>
      newP (.cells #[(.int .i64 0), (.string (⟨#[]⟩ : ByteArray)), (.int .i64 0)] 56) w21 fun b22 w23 =>
      stN ⟨b22, 0, none⟩ [(.int .i64 r20.1.1), (.string r20.1.2.1), (.int .i64 r20.1.2.2)] w23 fun w24 =>
      cnd (r20.2 != 0) (
        purlinref14_code_39 r20.2 w24 fun r25 w26 =>
        stN ⟨b3, 0, none⟩ [(.int .i64 r25.1), (.int .i64 r25.2.1), (.int .i64 r25.2.2.1), (.int .i64 r25.2.2.2.1), (.slice r25.2.2.2.2.1.a r25.2.2.2.2.1.len r25.2.2.2.2.1.cap), (.slice r25.2.2.2.2.2.a r25.2.2.2.2.2.len r25.2.2.2.2.2.cap)] w26 fun w27 =>
        ldA [.int .i64, .int .i64, .int .i64, .int .i64, .slice, .slice] ⟨b3, 0, none⟩ w27 fun c28 =>
        K (c28.1, c28.2.1, c28.2.2.1, c28.2.2.2.1, c28.2.2.2.2.1, c28.2.2.2.2.2) w27) (
        ldP (.int .i64) ⟨b22, 2, none⟩ w24 fun x29 =>
        cnd (x29 == 0) (
          purlinref14_code_39 5 w24 fun r30 w31 =>
          stN ⟨b3, 0, none⟩ [(.int .i64 r30.1), (.int .i64 r30.2.1), (.int .i64 r30.2.2.1), (.int .i64 r30.2.2.2.1), (.slice r30.2.2.2.2.1.a r30.2.2.2.2.1.len r30.2.2.2.2.1.cap), (.slice r30.2.2.2.2.2.a r30.2.2.2.2.2.len r30.2.2.2.2.2.cap)] w31 fun w32 =>
          ldA [.int .i64, .int .i64, .int .i64, .int .i64, .slice, .slice] ⟨b3, 0, none⟩ w32 fun c33 =>
          K (c33.1, c33.2.1, c33.2.2.1, c33.2.2.2.1, c33.2.2.2.2.1, c33.2.2.2.2.2) w32) (
          ldP (.str) ⟨b1, 6, none⟩ w24 fun x34 =>
          purlinref14_Tree_Place_95 t x34 w24 fun r35 w36 =>
          newP (.cells #[(.int .i64 0), (.string (⟨#[]⟩ : ByteArray)), (.int .i64 0)] 56) w36 fun b37 w38 =>
          stN ⟨b37, 0, none⟩ [(.int .i64 r35.1.1), (.string r35.1.2.1), (.int .i64 r35.1.2.2)] w38 fun w39 =>
          cnd (r35.2 != 0) (
            purlinref14_code_39 r35.2 w39 fun r40 w41 =>
            stN ⟨b3, 0, none⟩ [(.int .i64 r40.1), (.int .i64 r40.2.1), (.int .i64 r40.2.2.1), (.int .i64 r40.2.2.2.1), (.slice r40.2.2.2.2.1.a r40.2.2.2.2.1.len r40.2.2.2.2.1.cap), (.slice r40.2.2.2.2.2.a r40.2.2.2.2.2.len r40.2.2.2.2.2.cap)] w41 fun w42 =>
            ldA [.int .i64, .int .i64, .int .i64, .int .i64, .slice, .slice] ⟨b3, 0, none⟩ w42 fun c43 =>
            K (c43.1, c43.2.1, c43.2.2.1, c43.2.2.2.1, c43.2.2.2.2.1, c43.2.2.2.2.2) w42) (
            onSome t fun A44 =>
            ldP (.slice) A44 w39.drew fun x45 =>
            ldP (.int .i64) ⟨b22, 2, none⟩ w39.drew fun x46 =>
            idxP x46 x45.len (
              onSome x45.a fun A47 =>
              ldP (.int .i64) (A47.add (Int.toNat x46 * 7)) w39.drew fun x48 =>
              joinP (σ := Tup [.one .bool]) (fun J49 =>
                cnd (x48 == 2) (
                  ldP (.int .i64) ⟨b37, 0, none⟩ w39.drew fun x52 =>
                  ldP (.int .i64) ⟨b22, 2, none⟩ w39.drew fun x53 =>
                  purlinref14_Tree_within_105 t x52 x53 w39.drew fun r54 w55 =>
                  J49 r54 w55) (
                  J49 false w39.drew)) (fun s50 w51 =>
              cnd s50 (
                purlinref14_code_39 2 w51 fun r56 w57 =>
                stN ⟨b3, 0, none⟩ [(.int .i64 r56.1), (.int .i64 r56.2.1), (.int .i64 r56.2.2.1), (.int .i64 r56.2.2.2.1), (.slice r56.2.2.2.2.1.a r56.2.2.2.2.1.len r56.2.2.2.2.1.cap), (.slice r56.2.2.2.2.2.a r56.2.2.2.2.2.len r56.2.2.2.2.2.cap)] w57 fun w58 =>
                ldA [.int .i64, .int .i64, .int .i64, .int .i64, .slice, .slice] ⟨b3, 0, none⟩ w58 fun c59 =>
                K (c59.1, c59.2.1, c59.2.2.1, c59.2.2.2.1, c59.2.2.2.2.1, c59.2.2.2.2.2) w58) (
                ldP (.int .i64) ⟨b37, 0, none⟩ w51 fun x60 =>
                purlinref14_Tree_Path_106 t x60 w51 fun r61 w62 =>
                joinP (σ := Tup [.one .bool]) (fun J63 =>
                  cnd (x48 == 2) (
                    ldP (.int .i64) ⟨b22, 2, none⟩ w62 fun x66 =>
                    ldP (.str) ⟨b37, 1, none⟩ w62 fun x67 =>
                    purlinref14_Tree_deep_107 t x66 (w64 ((w64 ((r61.1.size : Int) + 1)) + (x67.size : Int))) (w64 (r61.2 + 1)) w62 fun r68 w69 =>
                    J63 r68 w69) (
                    J63 false w62)) (fun s64 w65 =>
                cnd s64 (
                  purlinref14_code_39 11 w65 fun r70 w71 =>
                  stN ⟨b3, 0, none⟩ [(.int .i64 r70.1), (.int .i64 r70.2.1), (.int .i64 r70.2.2.1), (.int .i64 r70.2.2.2.1), (.slice r70.2.2.2.2.1.a r70.2.2.2.2.1.len r70.2.2.2.2.1.cap), (.slice r70.2.2.2.2.2.a r70.2.2.2.2.2.len r70.2.2.2.2.2.cap)] w71 fun w72 =>
                  ldA [.int .i64, .int .i64, .int .i64, .int .i64, .slice, .slice] ⟨b3, 0, none⟩ w72 fun c73 =>
                  K (c73.1, c73.2.1, c73.2.2.1, c73.2.2.2.1, c73.2.2.2.2.1, c73.2.2.2.2.2) w72) (
                  ldP (.int .i64) ⟨b22, 2, none⟩ w65 fun x74 =>
                  ldP (.int .i64) ⟨b37, 2, none⟩ w65 fun x75 =>
                  cnd (x74 == x75) (
                    stN ⟨b3, 0, none⟩ [(.int .i64 0), (.int .i64 0), (.int .i64 0), (.int .i64 0), (.slice none 0 0), (.slice none 0 0)] w65 fun w76 =>
                    ldA [.int .i64, .int .i64, .int .i64, .int .i64, .slice, .slice] ⟨b3, 0, none⟩ w76 fun c77 =>
                    K (c77.1, c77.2.1, c77.2.2.1, c77.2.2.2.1, c77.2.2.2.2.1, c77.2.2.2.2.2) w76) (
                    ldP (.int .i64) ⟨b37, 2, none⟩ w65 fun x78 =>
                    joinP (σ := Tup []) (fun J79 =>
                      cnd (x78 != 0) (
                        onSome t fun A82 =>
                        ldP (.slice) A82 w65.drew fun x83 =>
                        ldP (.int .i64) ⟨b37, 2, none⟩ w65.drew fun x84 =>
                        idxP x84 x83.len (
                          onSome x83.a fun A85 =>
                          ldP (.int .i64) (A85.add (Int.toNat x84 * 7)) w65.drew fun x86 =>
                          joinP (σ := Tup [.one .bool]) (fun J87 =>
                            cnd (x48 == 2) (
                              J87 (!(x86 == 2)) w65.drew) (
                              J87 false w65.drew)) (fun s88 w89 =>
                          cnd s88 (
                            purlinref14_code_39 7 w89 fun r90 w91 =>
                            stN ⟨b3, 0, none⟩ [(.int .i64 r90.1), (.int .i64 r90.2.1), (.int .i64 r90.2.2.1), (.int .i64 r90.2.2.2.1), (.slice r90.2.2.2.2.1.a r90.2.2.2.2.1.len r90.2.2.2.2.1.cap), (.slice r90.2.2.2.2.2.a r90.2.2.2.2.2.len r90.2.2.2.2.2.cap)] w91 fun w92 =>
                            ldA [.int .i64, .int .i64, .int .i64, .int .i64, .slice, .slice] ⟨b3, 0, none⟩ w92 fun c93 =>
                            K (c93.1, c93.2.1, c93.2.2.1, c93.2.2.2.1, c93.2.2.2.2.1, c93.2.2.2.2.2) w92) (
                            joinP (σ := Tup [.one .bool]) (fun J94 =>
                              cnd (x48 == 2) (
                                onSome t fun A97 =>
                                ldP (.slice) A97 w89.drew fun x98 =>
                                ldP (.int .i64) ⟨b37, 2, none⟩ w89.drew fun x99 =>
                                idxP x99 x98.len (
                                  onSome x98.a fun A100 =>
                                  ldP (.slice) ((A100.add (Int.toNat x99 * 7)).add 4) w89.drew fun x101 =>
                                  J94 (decide ((x101.len : Int) > 0)) w89.drew)) (
                                J94 false w89.drew)) (fun s95 w96 =>
                            cnd s95 (
                              purlinref14_code_39 9 w96 fun r102 w103 =>
                              stN ⟨b3, 0, none⟩ [(.int .i64 r102.1), (.int .i64 r102.2.1), (.int .i64 r102.2.2.1), (.int .i64 r102.2.2.2.1), (.slice r102.2.2.2.2.1.a r102.2.2.2.2.1.len r102.2.2.2.2.1.cap), (.slice r102.2.2.2.2.2.a r102.2.2.2.2.2.len r102.2.2.2.2.2.cap)] w103 fun w104 =>
                              ldA [.int .i64, .int .i64, .int .i64, .int .i64, .slice, .slice] ⟨b3, 0, none⟩ w104 fun c105 =>
                              K (c105.1, c105.2.1, c105.2.2.1, c105.2.2.2.1, c105.2.2.2.2.1, c105.2.2.2.2.2) w104) (
                              joinP (σ := Tup [.one .bool]) (fun J106 =>
                                cnd (!(x48 == 2)) (
                                  J106 (x86 == 2) w96) (
                                  J106 false w96)) (fun s107 w108 =>
                              cnd s107 (
                                purlinref14_code_39 8 w108 fun r109 w110 =>
                                stN ⟨b3, 0, none⟩ [(.int .i64 r109.1), (.int .i64 r109.2.1), (.int .i64 r109.2.2.1), (.int .i64 r109.2.2.2.1), (.slice r109.2.2.2.2.1.a r109.2.2.2.2.1.len r109.2.2.2.2.1.cap), (.slice r109.2.2.2.2.2.a r109.2.2.2.2.2.len r109.2.2.2.2.2.cap)] w110 fun w111 =>
                                ldA [.int .i64, .int .i64, .int .i64, .int .i64, .slice, .slice] ⟨b3, 0, none⟩ w111 fun c112 =>
                                K (c112.1, c112.2.1, c112.2.2.1, c112.2.2.2.1, c112.2.2.2.2.1, c112.2.2.2.2.2) w111) (
                                ldP (.int .i64) ⟨b37, 0, none⟩ w108 fun x113 =>
                                ldP (.str) ⟨b37, 1, none⟩ w108 fun x114 =>
                                purlinref14_Tree_take_101 t x113 x114 w108 fun _r115 w116 =>
                                J79 () w116)))))))) (
                        J79 () w65)) (fun _s80 w81 =>
                    ldP (.int .i64) ⟨b22, 0, none⟩ w81 fun x117 =>
                    ldP (.str) ⟨b22, 1, none⟩ w81 fun x118 =>
                    purlinref14_Tree_take_101 t x117 x118 w81 fun _r119 w120 =>
                    ldP (.int .i64) ⟨b37, 0, none⟩ w120 fun x121 =>
                    ldP (.str) ⟨b37, 1, none⟩ w120 fun x122 =>
                    ldP (.int .i64) ⟨b22, 2, none⟩ w120 fun x123 =>
                    purlinref14_Tree_Put_103 t x121 x122 x123 w120 fun _r124 w125 =>
                    stN ⟨b3, 0, none⟩ [(.int .i64 0), (.int .i64 0), (.int .i64 0), (.int .i64 0), (.slice none 0 0), (.slice none 0 0)] w125 fun w126 =>
                    ldA [.int .i64, .int .i64, .int .i64, .int .i64, .slice, .slice] ⟨b3, 0, none⟩ w126 fun c127 =>
                    K (c127.1, c127.2.1, c127.2.2.1, c127.2.2.2.1, c127.2.2.2.2.1, c127.2.2.2.2.2) w126))))))))))))
def an46 : List An := [
  .reg ⟨[], .done, []⟩,
  .reg ⟨[(2, [.one .str, .one .str, .one (.int .i64)])], .done, []⟩,
  .reg ⟨[(2, [.one .str, .one .str, .one (.int .i64)])], .done, []⟩,
  .nop,
  .reg ⟨[], .done, []⟩,
  .nop,
  .reg ⟨[(1, [.agg [.int .i64, .int .i64, .int .i64, .int .i64, .slice, .slice]])], .done, []⟩,
  .reg ⟨[], .done, []⟩,
  .nop,
  .reg ⟨[(1, [.agg [.int .i64, .int .i64, .int .i64, .int .i64, .slice, .slice]])], .done, []⟩,
  .reg ⟨[(3, [.agg [.int .i64, .str, .int .i64], .one (.int .i64)])], .done, []⟩,
  .reg ⟨[], .done, []⟩,
  .nop,
  .reg ⟨[(1, [.agg [.int .i64, .int .i64, .int .i64, .int .i64, .slice, .slice]])], .done, []⟩,
  .reg ⟨[], .done, []⟩,
  .nop,
  .reg ⟨[(0, [.agg [.int .i64, .int .i64, .int .i64, .int .i64, .slice, .slice]])], .done, []⟩,
  .reg ⟨[(3, [.agg [.int .i64, .str, .int .i64], .one (.int .i64)])], .done, []⟩,
  .reg ⟨[], .done, []⟩,
  .nop,
  .reg ⟨[(1, [.agg [.int .i64, .int .i64, .int .i64, .int .i64, .slice, .slice]])], .done, []⟩,
  .reg ⟨[], (.nop 0 0 (.nop 1 1 (.nop 2 3 (.nop 3 7 (.nop 4 0 (.nop 5 16 (.nop 6 63 (.nop 7 127 (.nop 8 255 (.nop 9 511 (.nop 10 1023 .done))))))))))), []⟩,
  .join [(85, .one .bool)] [77, 78, 79, 80, 81, 82, 83, 84],
  .reg ⟨[(7, [.one .bool])], .done, []⟩,
  .nop,
  .reg ⟨[(0, [.agg [.int .i64, .int .i64, .int .i64, .int .i64, .slice, .slice]])], .done, []⟩,
  .reg ⟨[(3, [.one .str, .one (.int .i64)])], .done, []⟩,
  .join [(109, .one .bool)] [94, 95, 96, 97, 98, 99, 100, 101, 102, 103, 104, 105, 106, 107, 108],
  .reg ⟨[(14, [.one .bool])], .done, []⟩,
  .nop,
  .reg ⟨[(0, [.agg [.int .i64, .int .i64, .int .i64, .int .i64, .slice, .slice]])], .done, []⟩,
  .reg ⟨[], .done, []⟩,
  .nop,
  .reg ⟨[], .done, []⟩,
  .reg ⟨[], .done, []⟩,
  .join [] [16, 120, 121, 122, 123, 124, 125, 126, 127, 128, 129, 130, 131, 132, 133, 134, 135, 136, 137, 138, 139, 140, 141, 142, 143, 144, 145, 146, 147, 148, 149, 150, 151, 152, 153, 154, 155, 156, 157, 158, 159, 160, 161, 162, 163, 164, 165],
  .reg ⟨[], (.nop 0 0 (.nop 1 1 (.nop 2 3 (.nop 3 7 (.nop 4 0 (.nop 5 16 (.nop 6 63 (.nop 7 127 (.nop 8 255 (.nop 9 511 (.nop 10 1023 .done))))))))))), []⟩,
  .nop,
  .join [(130, .one .bool)] [131, 132, 133, 134, 135],
  .reg ⟨[], .done, []⟩,
  .nop,
  .reg ⟨[(0, [.agg [.int .i64, .int .i64, .int .i64, .int .i64, .slice, .slice]])], .done, []⟩,
  .join [(137, .one .bool)] [138, 139, 140, 141, 142, 143, 144, 145, 146, 147, 148, 149, 150, 151],
  .reg ⟨[], (.nop 0 0 (.nop 1 1 (.nop 2 3 (.nop 3 7 (.nop 4 15 (.nop 5 31 (.nop 6 3 (.nop 7 67 (.nop 8 255 (.nop 9 511 (.nop 10 1023 (.nop 11 2047 (.nop 12 4095 (.nop 13 8191 (.nop 14 16383 .done))))))))))))))), []⟩,
  .nop,
  .reg ⟨[(0, [.agg [.int .i64, .int .i64, .int .i64, .int .i64, .slice, .slice]])], .done, []⟩,
  .join [(153, .one .bool)] [154, 155, 156, 157, 158],
  .reg ⟨[], .done, []⟩,
  .nop,
  .reg ⟨[(0, [.agg [.int .i64, .int .i64, .int .i64, .int .i64, .slice, .slice]])], .done, []⟩,
  .reg ⟨[(5, [])], .done, []⟩,
  .reg ⟨[(5, [])], .done, []⟩,
  .reg ⟨[(7, [])], .done, []⟩,
  .reg ⟨[], .done, []⟩]
theorem purlinref14_Tree_rename_46_of (t : Option Addr) (o : Carr [.int .i64, .int .i64, .int .i64, .int .i64, .int .i64, .str, .str, .slice]) (w : World) (K : Tup [.agg [.int .i64, .int .i64, .int .i64, .int .i64, .slice, .slice]] → World → Prop) (hF_ : F46 t o w K) : purlinref14_Tree_rename_46 t o w K :=
  call_of_F (l := an46) (args := [Ty.mk (.one .ptr) t, Ty.mk (.agg [.int .i64, .int .i64, .int .i64, .int .i64, .int .i64, .str, .str, .slice]) o]) follows tabOk Tryz.func46 (by kernel_rfl) (by kernel_rfl) (by kernel_rfl) hF_

/-- (*purlin/purlinref14.Tree).looks -/
def F47 (t : Option Addr) (o : Carr [.int .i64, .int .i64, .int .i64, .int .i64, .int .i64, .str, .str, .slice]) (w : World) (K : Tup [.agg [.int .i64, .int .i64, .int .i64, .int .i64, .slice, .slice]] → World → Prop) : Prop :=
  newP (.cells #[(.int .i64 o.1), (.int .i64 o.2.1), (.int .i64 o.2.2.1), (.int .i64 o.2.2.2.1), (.int .i64 o.2.2.2.2.1), (.string o.2.2.2.2.2.1), (.string o.2.2.2.2.2.2.1), (.slice o.2.2.2.2.2.2.2.a o.2.2.2.2.2.2.2.len o.2.2.2.2.2.2.2.cap)] 28) w fun b1 w2 =>
  newP (.cells #[(.int .i64 0), (.int .i64 0), (.int .i64 0), (.int .i64 0), (.slice none 0 0), (.slice none 0 0)] 43) w2 fun b3 w4 =>
  joinP (σ := Tup [.one .ptr, .one (.int .i64)]) (fun J5 =>
    ldP (.str) ⟨b1, 5, none⟩ w4 fun x8 =>
    ldP (.int .i64) ⟨b1, 0, none⟩ w4 fun x9 =>
    cnd (x9 == 17) (
      purlinref14_Tree_Find_57 t x8 true w4 fun r10 w11 =>
      newP (.cells #[(.int .i64 0), (.string (⟨#[]⟩ : ByteArray)), (.int .i64 0)] 56) w11 fun b12 w13 =>
      stN ⟨b12, 0, none⟩ [(.int .i64 r10.1.1), (.string r10.1.2.1), (.int .i64 r10.1.2.2)] w13 fun w14 =>
      J5 ((some ⟨b12, 0, none⟩), r10.2) w14) (
      ldP (.int .i64) ⟨b1, 0, none⟩ w4 fun x15 =>
      purlinref14_Tree_Find_57 t x8 (x15 == 14) w4 fun r16 w17 =>
      newP (.cells #[(.int .i64 0), (.string (⟨#[]⟩ : ByteArray)), (.int .i64 0)] 56) w17 fun b18 w19 =>
      stN ⟨b18, 0, none⟩ [(.int .i64 r16.1.1), (.string r16.1.2.1), (.int .i64 r16.1.2.2)] w19 fun w20 =>
      J5 ((some ⟨b18, 0, none⟩), r16.2) w20)) (fun s6 w7 =>
  cnd (s6.2 != 0) (
    purlinref14_code_39 s6.2 w7 fun r21 w22 =>
    stN ⟨b3, 0, none⟩ [(.int .i64 r21.1), (.int .i64 r21.2.1), (.int .i64 r21.2.2.1), (.int .i64 r21.2.2.2.1), (.slice r21.2.2.2.2.1.a r21.2.2.2.2.1.len r21.2.2.2.2.1.cap), (.slice r21.2.2.2.2.2.a r21.2.2.2.2.2.len r21.2.2.2.2.2.cap)] w22 fun w23 =>
    ldA [.int .i64, .int .i64, .int .i64, .int .i64, .slice, .slice] ⟨b3, 0, none⟩ w23 fun c24 =>
    K (c24.1, c24.2.1, c24.2.2.1, c24.2.2.2.1, c24.2.2.2.2.1, c24.2.2.2.2.2) w23) (
    onSome t fun A25 =>
    ldP (.slice) A25 w7.drew fun x26 =>
    onSome s6.1 fun A27 =>
    ldP (.int .i64) (A27.add 2) w7.drew fun x28 =>
    idxP x28 x26.len (
      onSome x26.a fun A29 =>
      ldA [.int .i64, .int .i64, .int .i64, .int .i64, .slice, .slice, .slice] (A29.add (Int.toNat x28 * 7)) w7.drew fun c30 =>
      newP (.cells #[(.int .i64 0), (.int .i64 0), (.int .i64 0), (.int .i64 0), (.slice none 0 0), (.slice none 0 0), (.slice none 0 0)] 86) w7.drew fun b31 w32 =>
      (cellsAt w32 (A29.add (Int.toNat x28 * 7)) [(.int .i64 c30.1), (.int .i64 c30.2.1), (.int .i64 c30.2.2.1), (.int .i64 c30.2.2.2.1), (.slice c30.2.2.2.2.1.a c30.2.2.2.2.1.len c30.2.2.2.2.1.cap), (.slice c30.2.2.2.2.2.1.a c30.2.2.2.2.2.1.len c30.2.2.2.2.2.1.cap), (.slice c30.2.2.2.2.2.2.a c30.2.2.2.2.2.2.len c30.2.2.2.2.2.2.cap)]) ∧
      (w32.cell? (A27.add 2) = some (.int .i64 x28)) ∧
      (w32.cell? A25 = some (.slice x26.a x26.len x26.cap)) ∧
      stN ⟨b31, 0, none⟩ [(.int .i64 c30.1), (.int .i64 c30.2.1), (.int .i64 c30.2.2.1), (.int .i64 c30.2.2.2.1), (.slice c30.2.2.2.2.1.a c30.2.2.2.2.1.len c30.2.2.2.2.1.cap), (.slice c30.2.2.2.2.2.1.a c30.2.2.2.2.2.1.len c30.2.2.2.2.2.1.cap), (.slice c30.2.2.2.2.2.2.a c30.2.2.2.2.2.2.len c30.2.2.2.2.2.2.cap)] w32 fun w33 =>
      joinP (σ := Tup [.one .bool]) (fun J34 =>
        ldP (.int .i64) ⟨b1, 0, none⟩ w33 fun x37 =>
        cnd (x37 == 14) (
          ldP (.int .i64) ⟨b31, 0, none⟩ w33 fun x38 =>
          J34 (x38 != 3) w33) (
          J34 false w33)) (fun s35 w36 =>
      cnd s35 (
        purlinref14_code_39 2 w36 fun r39 w40 =>
        stN ⟨b3, 0, none⟩ [(.int .i64 r39.1), (.int .i64 r39.2.1), (.int .i64 r39.2.2.1), (.int .i64 r39.2.2.2.1), (.slice r39.2.2.2.2.1.a r39.2.2.2.2.1.len r39.2.2.2.2.1.cap), (.slice r39.2.2.2.2.2.a r39.2.2.2.2.2.len r39.2.2.2.2.2.cap)] w40 fun w41 =>
        ldA [.int .i64, .int .i64, .int .i64, .int .i64, .slice, .slice] ⟨b3, 0, none⟩ w41 fun c42 =>
        K (c42.1, c42.2.1, c42.2.2.1, c42.2.2.2.1, c42.2.2.2.2.1, c42.2.2.2.2.2) w41) (
        ldP (.int .i64) ⟨b1, 0, none⟩ w36 fun x43 =>
        cnd (x43 == 14) (
          ldP (.slice) ⟨b31, 5, none⟩ w36 fun x44 =>
          runP Tryz.prog (Builtin.append_ #[22, 22] 22 #[(.slice none 0 0), (.slice x44.a x44.len x44.cap)]) [.one .slice] w36 fun c45 w46 =>
          stN ⟨b3, 0, none⟩ [(.int .i64 0), (.int .i64 0), (.int .i64 0), (.int .i64 0), (.slice c45.a c45.len c45.cap), (.slice none 0 0)] w46 fun w47 =>
          ldA [.int .i64, .int .i64, .int .i64, .int .i64, .slice, .slice] ⟨b3, 0, none⟩ w47 fun c48 =>
          K (c48.1, c48.2.1, c48.2.2.1, c48.2.2.2.1, c48.2.2.2.2.1, c48.2.2.2.2.2) w47) (
          joinP (σ := Tup [.one .bool]) (fun J49 =>
            ldP (.int .i64) ⟨b1, 0, none⟩ w36 fun x52 =>
            cnd (x52 == 18) (
              ldP (.int .i64) ⟨b31, 0, none⟩ w36 fun x53 =>
              J49 (x53 != 2) w36) (
              J49 false w36)) (fun s50 w51 =>
          cnd s50 (
            purlinref14_code_39 7 w51 fun r54 w55 =>
            stN ⟨b3, 0, none⟩ [(.int .i64 r54.1), (.int .i64 r54.2.1), (.int .i64 r54.2.2.1), (.int .i64 r54.2.2.2.1), (.slice r54.2.2.2.2.1.a r54.2.2.2.2.1.len r54.2.2.2.2.1.cap), (.slice r54.2.2.2.2.2.a r54.2.2.2.2.2.len r54.2.2.2.2.2.cap)] w55 fun w56 =>
            ldA [.int .i64, .int .i64, .int .i64, .int .i64, .slice, .slice] ⟨b3, 0, none⟩ w56 fun c57 =>
            K (c57.1, c57.2.1, c57.2.2.1, c57.2.2.2.1, c57.2.2.2.2.1, c57.2.2.2.2.2) w56) (
            ldP (.int .i64) ⟨b1, 0, none⟩ w51 fun x58 =>
            cnd (x58 == 18) (
              loopP (σ := Tup [.one .slice, .one (.int .i64)]) (fun again59 s60 w61 =>
                ldP (.slice) ⟨b31, 4, none⟩ w61 fun x62 =>
                cnd (decide (s60.2 < (x62.len : Int))) (
                  ldP (.slice) ⟨b31, 4, none⟩ w61 fun x63 =>
                  idxP s60.2 x63.len (
                    onSome x63.a fun A64 =>
                    ldP (.str) (A64.add (Int.toNat s60.2 * 2)) w61 fun x65 =>
                    newP (.cells #[(.string x65)] 9) w61 fun b66 w67 =>
                    runP Tryz.prog (Builtin.append_ #[41, 41] 41 #[(.slice s60.1.a s60.1.len s60.1.cap), (.slice (some ⟨b66, 0, none⟩) 1 1)]) [.one .slice] w67 fun c68 w69 =>
                    again59 (c68, (w64 (s60.2 + 1))) w69)) (
                  stN ⟨b3, 0, none⟩ [(.int .i64 0), (.int .i64 0), (.int .i64 0), (.int .i64 0), (.slice none 0 0), (.slice s60.1.a s60.1.len s60.1.cap)] w61 fun w70 =>
                  ldA [.int .i64, .int .i64, .int .i64, .int .i64, .slice, .slice] ⟨b3, 0, none⟩ w70 fun c71 =>
                  K (c71.1, c71.2.1, c71.2.2.1, c71.2.2.2.1, c71.2.2.2.2.1, c71.2.2.2.2.2) w70)) (⟨none, 0, 0⟩, 0) w51) (
              ldP (.int .i64) ⟨b31, 0, none⟩ w51 fun x72 =>
              ldP (.slice) ⟨b31, 5, none⟩ w51 fun x73 =>
              ldP (.slice) ⟨b31, 4, none⟩ w51 fun x74 =>
              ldP (.int .i64) ⟨b31, 1, none⟩ w51 fun x75 =>
              stN ⟨b3, 0, none⟩ [(.int .i64 0), (.int .i64 (w64 ((x73.len : Int) + (x74.len : Int)))), (.int .i64 x72), (.int .i64 (maxI x75 1)), (.slice none 0 0), (.slice none 0 0)] w51 fun w76 =>
              ldA [.int .i64, .int .i64, .int .i64, .int .i64, .slice, .slice] ⟨b3, 0, none⟩ w76 fun c77 =>
              K (c77.1, c77.2.1, c77.2.2.1, c77.2.2.2.1, c77.2.2.2.2.1, c77.2.2.2.2.2) w76)))))))))
def an47 : List An := [
  .reg ⟨[], .done, []⟩,
  .join [(5, .one .ptr), (6, .one (.int .i64))] [10, 11, 12, 13, 14, 15, 16, 17, 18, 19, 20, 21, 22, 23, 24],
  .reg ⟨[(11, [.agg [.int .i64, .str, .int .i64], .one (.int .i64)])], .done, []⟩,
  .reg ⟨[], .done, []⟩,
  .nop,
  .reg ⟨[(1, [.agg [.int .i64, .int .i64, .int .i64, .int .i64, .slice, .slice]])], .done, []⟩,
  .reg ⟨[], (.nop 0 0 (.nop 1 1 (.nop 2 3 (.nop 3 7 (.nop 4 0 (.nop 5 16 (.nop 6 63 (.nop 7 127 (.bar 8 0 (.bar 9 511 .done .none) .none))))))))), []⟩,
  .nop,
  .join [(37, .one .bool)] [38, 39, 40, 41, 42, 43, 44, 45],
  .reg ⟨[], .done, []⟩,
  .nop,
  .reg ⟨[(0, [.agg [.int .i64, .int .i64, .int .i64, .int .i64, .slice, .slice]])], .done, []⟩,
  .reg ⟨[], .done, []⟩,
  .nop,
  .reg ⟨[(2, [.one .slice])], .done, []⟩,
  .join [(55, .one .bool)] [56, 57, 58, 59, 60, 61, 62, 63],
  .reg ⟨[], .done, []⟩,
  .nop,
  .reg ⟨[(0, [.agg [.int .i64, .int .i64, .int .i64, .int .i64, .slice, .slice]])], .done, []⟩,
  .reg ⟨[], .done, []⟩,
  .nop,
  .reg ⟨[], .done, []⟩,
  .reg ⟨[], .done, []⟩,
  .nop,
  .nop,
  .loop [(8, .one .slice), (9, .one (.int .i64))] [69, 70, 71, 72, 73, 74, 75, 76, 77, 78, 79, 80, 81, 82, 83, 84],
  .reg ⟨[], .done, []⟩,
  .nop,
  .nop,
  .reg ⟨[(8, [.one .slice])], .done, []⟩,
  .reg ⟨[], .done, []⟩,
  .reg ⟨[], .done, []⟩,
  .reg ⟨[], .done, []⟩]
theorem purlinref14_Tree_looks_47_of (t : Option Addr) (o : Carr [.int .i64, .int .i64, .int .i64, .int .i64, .int .i64, .str, .str, .slice]) (w : World) (K : Tup [.agg [.int .i64, .int .i64, .int .i64, .int .i64, .slice, .slice]] → World → Prop) (hF_ : F47 t o w K) : purlinref14_Tree_looks_47 t o w K :=
  call_of_F (l := an47) (args := [Ty.mk (.one .ptr) t, Ty.mk (.agg [.int .i64, .int .i64, .int .i64, .int .i64, .int .i64, .str, .str, .slice]) o]) follows tabOk Tryz.func47 (by kernel_rfl) (by kernel_rfl) (by kernel_rfl) hF_

/-- (*purlin/purlinref13.Table).There -/
def F48 (t : Option Addr) (fd : Int) (w : World) (K : Tup [.one .bool] → World → Prop) : Prop :=
  cnd (decide (fd ≥ 0)) (
    cnd (decide (fd < 16)) (
      onSome t fun A1 =>
      idxP fd 16 (
        ldP (.bool) ((A1.add (Int.toNat fd * 4)).add 3) w fun x2 =>
        K x2 w)) (
      K false w)) (
    K false w)
def an48 : List An := [
  .reg ⟨[], .done, []⟩,
  .reg ⟨[], .done, []⟩]
theorem purlinref13_Table_There_48_of (t : Option Addr) (fd : Int) (w : World) (K : Tup [.one .bool] → World → Prop) (hF_ : F48 t fd w K) : purlinref13_Table_There_48 t fd w K :=
  call_of_F (l := an48) (args := [Ty.mk (.one .ptr) t, Ty.mk (.one (.int .i64)) fd]) follows tabOk Tryz.func48 (by kernel_rfl) (by kernel_rfl) (by kernel_rfl) hF_

/-- (*purlin/tree.Tree).Nodes -/
def F49 (t : Option Addr) (w : World) (K : Tup [.one .slice] → World → Prop) : Prop :=
  newP (.cells #[(.pointer t)] 63) w fun b1 w2 =>
  ldP (.ptr) ⟨b1, 0, none⟩ w2 fun x3 =>
  cnd (Option.isNone x3) (
    K ⟨none, 0, 0⟩ w2) (
    newP (.cells #[(.slice none 0 0)] 45) w2 fun b4 w5 =>
    newP (.cells #[Value.nilFunc] 173) w5 fun b6 w7 =>
    stP ⟨b6, 0, none⟩ (.func (.func 108) #[] #[(.pointer (some ⟨b1, 0, none⟩)), (.pointer (some ⟨b4, 0, none⟩)), (.pointer (some ⟨b6, 0, none⟩))]) w7 fun w8 =>
    ldP (.any) ⟨b6, 0, none⟩ w8 fun x9 =>
    callV Tryz.prog x9 #[(.int .i64 1), (.string (⟨#[]⟩ : ByteArray))] [] w8 fun _r10 w11 =>
    ldP (.slice) ⟨b4, 0, none⟩ w11 fun x12 =>
    slices_SortFunc_110 x12 (.func (.func 111) #[] #[]) w11 fun _r13 w14 =>
    ldP (.slice) ⟨b4, 0, none⟩ w14 fun x15 =>
    K x15 w14)
def an49 : List An := [
  .reg ⟨[], .done, []⟩,
  .reg ⟨[], .done, []⟩,
  .nop,
  .reg ⟨[], .done, []⟩,
  .reg ⟨[], .done, []⟩,
  .reg ⟨[], .done, []⟩,
  .reg ⟨[], .done, []⟩,
  .reg ⟨[(1, [])], .done, []⟩,
  .reg ⟨[(1, [])], .done, []⟩,
  .reg ⟨[], .done, []⟩]
theorem tree_Tree_Nodes_49_of (t : Option Addr) (w : World) (K : Tup [.one .slice] → World → Prop) (hF_ : F49 t w K) : tree_Tree_Nodes_49 t w K :=
  call_of_F (l := an49) (args := [Ty.mk (.one .ptr) t]) follows tabOk Tryz.func49 (by kernel_rfl) (by kernel_rfl) (by kernel_rfl) hF_

/-- purlin/inode.Need -/
def F50 (size : Int) (w : World) (K : Tup [.one (.int .i64)] → World → Prop) : Prop :=
  cnd (decide (size < 1)) (
    K 0 w) (
    cnd (decide (size ≥ 20736)) (
      K 162 w) (
      (128 : Int) ≠ 0 ∧
      K (w64 (Int.tdiv (w64 ((w64 (size + 128)) - 1)) 128)) w))
def an50 : List An := [
  .reg ⟨[], .done, []⟩,
  .nop,
  .reg ⟨[], .done, []⟩,
  .nop,
  .reg ⟨[], .done, []⟩,
  .reg ⟨[], .done, []⟩,
  .nop,
  .reg ⟨[], .done, []⟩,
  .reg ⟨[], .done, []⟩]
theorem inode_Need_50_of (size : Int) (w : World) (K : Tup [.one (.int .i64)] → World → Prop) (hF_ : F50 size w K) : inode_Need_50 size w K :=
  call_of_F (l := an50) (args := [Ty.mk (.one (.int .i64)) size]) follows tabOk Tryz.func50 (by kernel_rfl) (by kernel_rfl) (by kernel_rfl) hF_

/-- purlin/may.parted -/
def F51 (p : ByteArray) (w : World) (K : Tup [.one .str, .one .str, .one .bool] → World → Prop) : Prop :=
  strings_LastIndexByte_113 p 47 w fun r1 w2 =>
  joinP (σ := Tup [.one .bool]) (fun J3 =>
    cnd (decide (r1 < 0)) (
      J3 true w2) (
      J3 (r1 == (w64 ((p.size : Int) - 1))) w2)) (fun s4 w5 =>
  cnd s4 (
    K ((⟨#[]⟩ : ByteArray), (⟨#[]⟩ : ByteArray), false) w5) (
    cnd (r1 == 0) (
      strP p 1 none fun x6 =>
      K ((⟨#[47]⟩ : ByteArray), x6, true) w5.drew) (
      strP p 0 (some r1) fun x7 =>
      strP p (w64 (r1 + 1)) none fun x8 =>
      strP p 0 (some r1) fun x9 =>
      K (x7, x8, (!(x9.toList == (⟨#[47]⟩ : ByteArray).toList))) w5.drew)))
def an51 : List An := [
  .reg ⟨[], .done, []⟩,
  .reg ⟨[(1, [.one (.int .i64)])], .done, []⟩,
  .join [(16, .one .bool)] [8, 9, 10, 11, 12, 13, 14, 15],
  .reg ⟨[], .done, []⟩,
  .nop,
  .reg ⟨[], .done, []⟩,
  .reg ⟨[], .done, []⟩,
  .nop,
  .reg ⟨[], (.nop 0 0 (.nop 1 1 (.nop 2 0 (.nop 3 7 (.nop 4 15 .done))))), []⟩,
  .reg ⟨[], (.nop 0 0 (.nop 1 0 (.nop 2 3 (.nop 3 0 (.nop 4 0 (.nop 5 16 (.nop 6 56 (.nop 7 0 (.nop 8 0 (.nop 9 384 (.nop 10 896 (.nop 11 7 (.nop 12 2175 (.nop 13 8191 .done)))))))))))))), []⟩]
theorem may_parted_51_of (p : ByteArray) (w : World) (K : Tup [.one .str, .one .str, .one .bool] → World → Prop) (hF_ : F51 p w K) : may_parted_51 p w K :=
  call_of_F (l := an51) (args := [Ty.mk (.one .str) p]) follows tabOk Tryz.func51 (by kernel_rfl) (by kernel_rfl) (by kernel_rfl) hF_

/-- slices.Sorted[int] -/
def F52 (p0 : Value) (w : World) (K : Tup [.one .slice] → World → Prop) : Prop :=
  slices_Collect_114 p0 w fun r1 w2 =>
  slices_Sort_115 r1 w2 fun _r3 w4 =>
  K r1 w4
def an52 : List An := [
  .reg ⟨[], .done, []⟩,
  .reg ⟨[(1, [.one .slice])], .done, []⟩,
  .reg ⟨[(1, [])], .done, []⟩,
  .reg ⟨[], .done, []⟩]
theorem slices_Sorted_52_of (p0 : Value) (w : World) (K : Tup [.one .slice] → World → Prop) (hF_ : F52 p0 w K) : slices_Sorted_52 p0 w K :=
  call_of_F (l := an52) (args := [Ty.mk (.one .any) p0]) follows tabOk Tryz.func52 (by kernel_rfl) (by kernel_rfl) (by kernel_rfl) hF_

/-- maps.Keys[map[int]*purlin/tree.File,int,*purlin/tree.File] -/
def F53 (p0 : Option Nat) (w : World) (K : Tup [.one .any] → World → Prop) : Prop :=
  newP (.cells #[(.map p0)] 104) w fun b1 w2 =>
  K (.func (.func 116) #[] #[(.pointer (some ⟨b1, 0, none⟩))]) w2
def an53 : List An := [
  .reg ⟨[], .done, []⟩,
  .reg ⟨[], .done, []⟩]
theorem maps_Keys_53_of (p0 : Option Nat) (w : World) (K : Tup [.one .any] → World → Prop) (hF_ : F53 p0 w K) : maps_Keys_53 p0 w K :=
  call_of_F (l := an53) (args := [Ty.mk (.one .map) p0]) follows tabOk Tryz.func53 (by kernel_rfl) (by kernel_rfl) (by kernel_rfl) hF_

/-- purlin/tree.Load -/
def F54 (fs : Sl) (w : World) (K : Tup [.one .ptr] → World → Prop) : Prop :=
  tree_New_26  w fun r1 w2 =>
  loopP (σ := Tup [.one (.int .i64)]) (fun again3 s4 w5 =>
    cnd (decide (s4 < (fs.len : Int))) (
      idxP s4 fs.len (
        onSome fs.a fun A6 =>
        ldA [.int .i64, .int .i64, .int .i64, .slice, .slice, .map] (A6.add (Int.toNat s4 * 6)) w5 fun c7 =>
        newP (.cells #[(.int .i64 0), (.int .i64 0), (.int .i64 0), (.slice none 0 0), (.slice none 0 0), (.map none)] 108) w5 fun b8 w9 =>
        stN ⟨b8, 0, none⟩ [(.int .i64 c7.1), (.int .i64 c7.2.1), (.int .i64 c7.2.2.1), (.slice c7.2.2.2.1.a c7.2.2.2.1.len c7.2.2.2.1.cap), (.slice c7.2.2.2.2.1.a c7.2.2.2.2.1.len c7.2.2.2.2.1.cap), (.map c7.2.2.2.2.2)] w9 fun w10 =>
        ldP (.map) ⟨b8, 5, none⟩ w10 fun x11 =>
        maps_Clone_69 x11 w10 fun r12 w13 =>
        joinP (σ := Tup [.one .bool]) (fun J14 =>
          cnd (Option.isNone r12) (
            ldP (.int .i64) ⟨b8, 1, none⟩ w13 fun x17 =>
            J14 (x17 == 2) w13) (
            J14 false w13)) (fun s15 w16 =>
        joinP (σ := Tup [.one .map]) (fun J18 =>
          cnd s15 (
            newP (.map #[] 0) w16 fun b21 w22 =>
            J18 (some b21) w22) (
            J18 r12 w16)) (fun s19 w20 =>
        onSome r1 fun A23 =>
        ldP (.map) A23 w20.drew fun x24 =>
        ldP (.int .i64) ⟨b8, 0, none⟩ w20.drew fun x25 =>
        ldP (.int .i64) ⟨b8, 1, none⟩ w20.drew fun x26 =>
        ldP (.slice) ⟨b8, 3, none⟩ w20.drew fun x27 =>
        ldP (.slice) ⟨b8, 4, none⟩ w20.drew fun x28 =>
        ldP (.int .i64) ⟨b8, 2, none⟩ w20.drew fun x29 =>
        slices_Clone_67 x27 w20.drew fun r30 w31 =>
        (w31.cell? ⟨b8, 2, none⟩ = some (.int .i64 x29)) ∧
        (w31.cell? ⟨b8, 4, none⟩ = some (.slice x28.a x28.len x28.cap)) ∧
        (w31.cell? ⟨b8, 1, none⟩ = some (.int .i64 x26)) ∧
        (w31.cell? ⟨b8, 0, none⟩ = some (.int .i64 x25)) ∧
        (w31.cell? A23 = some (.map x24)) ∧
        slices_Clone_68 x28 w31 fun r32 w33 =>
        (w33.cell? ⟨b8, 2, none⟩ = some (.int .i64 x29)) ∧
        (w33.cell? ⟨b8, 1, none⟩ = some (.int .i64 x26)) ∧
        (w33.cell? ⟨b8, 0, none⟩ = some (.int .i64 x25)) ∧
        (w33.cell? A23 = some (.map x24)) ∧
        rdP Tryz.prog (Builtin.len_ #[66] 3 #[(.map s19)]) [.one (.int .i64)] w33 fun c34 =>
        newP (.cells #[(.int .i64 x26), (.slice r30.a r30.len r30.cap), (.slice r32.a r32.len r32.cap), (.map s19), (.int .i64 c34), (.int .i64 x29), (.int .i64 0)] 126) w33 fun b35 w36 =>
        (w36.cell? ⟨b8, 0, none⟩ = some (.int .i64 x25)) ∧
        (w36.cell? A23 = some (.map x24)) ∧
        runU Tryz.prog (Instr.mapUpdate 127 (.map x24) (.int .i64 x25) (.pointer (some ⟨b35, 0, none⟩))) w36 fun w37 =>
        onSome r1 fun A38 =>
        ldP (.int .i64) (A38.add 1) w37.drew fun x39 =>
        ldP (.int .i64) ⟨b8, 0, none⟩ w37.drew fun x40 =>
        onSome r1 fun A41 =>
        stP (A41.add 1) (.int .i64 (maxI x39 x40)) w37.drew fun w42 =>
        again3 (w64 (s4 + 1)) w42)))) (
      onSome r1 fun A43 =>
      ldP (.map) A43 w5 fun x44 =>
      runP Tryz.prog (Instr.range 127 (.map x44)) [.one .ptr] w5 fun c45 w46 =>
      loopP (σ := Tup []) (fun again47 _s48 w49 =>
        nextP Tryz.prog (Instr.next (.pointer c45) false 0) [.one (.int .i64), .one .ptr] w49 (fun w50 =>
          K r1 w50) (fun _c52 w51 =>
          rdP Tryz.prog (Instr.entry (.pointer c45)) [.one (.int .i64), .one .ptr] w51 fun c53 =>
          onSome c53.2 fun A54 =>
          ldP (.map) (A54.add 3) w51 fun x55 =>
          runP Tryz.prog (Instr.range 66 (.map x55)) [.one .ptr] w51 fun c56 w57 =>
          loopP (σ := Tup []) (fun again58 _s59 w60 =>
            nextP Tryz.prog (Instr.next (.pointer c56) false 0) [.one .str, .one (.int .i64)] w60 (fun w61 =>
              again47 () w61) (fun _c63 w62 =>
              rdP Tryz.prog (Instr.entry (.pointer c56)) [.one .str, .one (.int .i64)] w62 fun c64 =>
              onSome r1 fun A65 =>
              ldP (.map) A65 w62 fun x66 =>
              rdP Tryz.prog (Instr.lookup 127 (.map x66) (.int .i64 c64.2) false) [.one .ptr] w62 fun c67 =>
              onSome c67 fun A68 =>
              ldP (.int .i64) A68 w62 fun x69 =>
              cnd (x69 == 2) (
                onSome c67 fun A70 =>
                stP (A70.add 6) (.int .i64 c53.1) w62 fun w71 =>
                again58 () w71) (
                again58 () w62))) () w57)) () w46)) 0 w2
def an54 : List An := [
  .reg ⟨[], .done, []⟩,
  .reg ⟨[(0, [.one .ptr])], .done, []⟩,
  .reg ⟨[], .done, []⟩,
  .nop,
  .nop,
  .loop [(15, .one (.int .i64))] [5, 6, 16, 17, 18, 19, 20, 21, 22, 23, 24, 25, 26, 27, 28, 29, 30, 31, 32, 33, 34, 35, 36, 37, 38, 39, 40, 41, 42, 43, 44, 45, 46, 47, 48, 49, 50, 51, 52, 53, 54, 55, 56, 57, 58, 59, 60, 61],
  .reg ⟨[], .done, []⟩,
  .nop,
  .nop,
  .reg ⟨[], .done, []⟩,
  .reg ⟨[(2, [.one .map])], .done, []⟩,
  .join [(28, .one .bool)] [22, 23, 24, 25, 26, 27],
  .reg ⟨[], .done, []⟩,
  .join [(6, .one .map)] [29],
  .reg ⟨[], .done, []⟩,
  .reg ⟨[(10, [.one .slice]), (13, [.one .slice])], (.nop 0 0 (.nop 1 1 (.nop 2 3 (.nop 3 7 (.nop 4 0 (.nop 5 16 (.nop 6 0 (.nop 7 64 (.nop 8 0 (.nop 9 256 (.nop 11 0 (.nop 12 2048 (.nop 14 0 (.nop 15 0 (.nop 17 0 (.nop 18 131072 (.bar 10 768 (.bar 13 7936 (.nop 16 48896 (.nop 19 524224 (.bar 20 1048512 (.bar 21 2097151 .done .none) .none))) .none) .none))))))))))))))))), []⟩,
  .reg ⟨[], (.nop 0 0 (.nop 1 0 (.nop 2 2 (.nop 3 6 (.nop 4 14 (.nop 5 0 (.nop 6 32 (.nop 7 126 (.nop 8 255 (.nop 9 511 (.bar 10 1023 .done .none))))))))))), []⟩,
  .reg ⟨[], .done, []⟩,
  .reg ⟨[], .done, []⟩,
  .nop,
  .nop,
  .loop [] [7, 8, 10, 11, 67, 68, 69, 70, 71, 72, 73, 74, 75, 76, 77, 78, 79, 80, 81, 82, 83, 84, 85, 86, 87, 88, 89, 90, 91, 92, 93, 94, 95],
  .reg ⟨[(0, [.one (.int .i64), .one .ptr])], .done, []⟩,
  .nop,
  .nop,
  .reg ⟨[(0, [.one (.int .i64), .one .ptr])], .done, []⟩,
  .reg ⟨[], .done, []⟩,
  .nop,
  .nop,
  .loop [] [10, 11, 77, 78, 79, 80, 81, 82, 83, 84, 85, 86, 87, 88, 89, 90, 91, 92, 93, 94, 95],
  .reg ⟨[(0, [.one .str, .one (.int .i64)])], .done, []⟩,
  .nop,
  .nop,
  .reg ⟨[(0, [.one .str, .one (.int .i64)])], .done, []⟩,
  .reg ⟨[], .done, []⟩,
  .reg ⟨[], .done, []⟩,
  .nop,
  .reg ⟨[], .done, []⟩,
  .reg ⟨[], .done, []⟩]
theorem tree_Load_54_of (fs : Sl) (w : World) (K : Tup [.one .ptr] → World → Prop) (hF_ : F54 fs w K) : tree_Load_54 fs w K :=
  call_of_F (l := an54) (args := [Ty.mk (.one .slice) fs]) follows tabOk Tryz.func54 (by kernel_rfl) (by kernel_rfl) (by kernel_rfl) hF_

/-- (*purlin/purlinref24.History).now -/
def F55 (h : Option Addr) (w : World) (K : Tup [.one .ptr, .one (.int .i64)] → World → Prop) : Prop :=
  onSome h fun A1 =>
  ldP (.slice) A1 w.drew fun x2 =>
  onSome h fun A3 =>
  ldP (.slice) A3 w.drew fun x4 =>
  idxP (w64 ((x4.len : Int) - 1)) x2.len (
    onSome x2.a fun A5 =>
    ldP (.ptr) (A5.add (Int.toNat (w64 ((x4.len : Int) - 1)) * 1)) w.drew fun x6 =>
    onSome h fun A7 =>
    ldP (.slice) A7 w.drew fun x8 =>
    K (x6, (w64 ((x8.len : Int) - 1))) w.drew)
def an55 : List An := [
  .reg ⟨[], .done, []⟩,
  .reg ⟨[], (.nop 0 0 (.nop 1 1 (.nop 2 3 (.nop 3 7 (.nop 4 0 (.nop 5 16 (.nop 6 48 (.nop 7 112 (.nop 8 240 (.nop 9 496 (.nop 10 1023 (.nop 11 2047 (.nop 12 0 (.nop 13 4096 (.nop 14 12288 (.nop 15 28672 (.nop 16 61440 (.nop 17 126976 (.nop 18 4095 (.nop 19 524287 .done)))))))))))))))))))), []⟩]
theorem purlinref24_History_now_55_of (h : Option Addr) (w : World) (K : Tup [.one .ptr, .one (.int .i64)] → World → Prop) (hF_ : F55 h w K) : purlinref24_History_now_55 h w K :=
  call_of_F (l := an55) (args := [Ty.mk (.one .ptr) h]) follows tabOk Tryz.func55 (by kernel_rfl) (by kernel_rfl) (by kernel_rfl) hF_

/-- (*purlin/purlinref24.History).grow -/
def F56 (h : Option Addr) (number : Int) (w : World) (K : Tup [] → World → Prop) : Prop :=
  purlinref24_History_now_55 h w fun r1 w2 =>
  loopP (σ := Tup []) (fun again3 _s4 w5 =>
    onSome h fun A6 =>
    ldP (.slice) (A6.add 1) w5.drew fun x7 =>
    onSome r1.1 fun A8 =>
    ldP (.slice) A8 w5.drew fun x9 =>
    cnd (decide ((x7.len : Int) < (x9.len : Int))) (
      onSome h fun A10 =>
      ldP (.slice) (A10.add 1) w5.drew fun x11 =>
      newP (.cells #[(.int .i64 number)] 3) w5.drew fun b12 w13 =>
      runP Tryz.prog (Builtin.append_ #[53, 53] 53 #[(.slice x11.a x11.len x11.cap), (.slice (some ⟨b12, 0, none⟩) 1 1)]) [.one .slice] w13 fun c14 w15 =>
      onSome h fun A16 =>
      stP (A16.add 1) (.slice c14.a c14.len c14.cap) w15 fun w17 =>
      joinP (σ := Tup []) (fun J18 =>
        onSome h fun A21 =>
        ldP (.slice) (A21.add 3) w17.drew fun x22 =>
        onSome h fun A23 =>
        ldP (.slice) (A23.add 5) w17.drew fun x24 =>
        onSome h fun A25 =>
        ldP (.slice) (A25.add 6) w17.drew fun x26 =>
        (
          newP (.cells #[(.int .i64 0)] 3) w17.drew fun b27 w28 =>
          (w28.cell? (A25.add 6) = some (.slice x26.a x26.len x26.cap)) ∧
          (w28.cell? (A23.add 5) = some (.slice x24.a x24.len x24.cap)) ∧
          (w28.cell? (A21.add 3) = some (.slice x22.a x22.len x22.cap)) ∧
          (
            runP Tryz.prog (Builtin.append_ #[53, 53] 53 #[(.slice x22.a x22.len x22.cap), (.slice (some ⟨b27, 0, none⟩) 1 1)]) [.one .slice] w28 fun c29 w30 =>
            (w30.cell? (A25.add 6) = some (.slice x26.a x26.len x26.cap)) ∧
            (w30.cell? (A23.add 5) = some (.slice x24.a x24.len x24.cap)) ∧
            (
              newP (.cells #[(.int .i64 0)] 3) w30 fun b31 w32 =>
              (w32.cell? (A25.add 6) = some (.slice x26.a x26.len x26.cap)) ∧
              (w32.cell? (A23.add 5) = some (.slice x24.a x24.len x24.cap)) ∧
              (w32.cell? (A21.add 3) = some (.slice x22.a x22.len x22.cap)) ∧
              (
                runP Tryz.prog (Builtin.append_ #[53, 53] 53 #[(.slice x24.a x24.len x24.cap), (.slice (some ⟨b31, 0, none⟩) 1 1)]) [.one .slice] w32 fun c33 w34 =>
                (w34.cell? (A25.add 6) = some (.slice x26.a x26.len x26.cap)) ∧
                newP (.cells #[(.int .i64 (-1))] 3) w34 fun b35 w36 =>
                (w36.cell? (A25.add 6) = some (.slice x26.a x26.len x26.cap)) ∧
                (w36.cell? (A23.add 5) = some (.slice x24.a x24.len x24.cap)) ∧
                (w36.cell? (A21.add 3) = some (.slice x22.a x22.len x22.cap)) ∧
                runP Tryz.prog (Builtin.append_ #[53, 53] 53 #[(.slice x26.a x26.len x26.cap), (.slice (some ⟨b35, 0, none⟩) 1 1)]) [.one .slice] w36 fun c37 w38 =>
                onSome h fun A39 =>
                stP (A39.add 3) (.slice c29.a c29.len c29.cap) w38 fun w40 =>
                onSome h fun A41 =>
                stP (A41.add 5) (.slice c33.a c33.len c33.cap) w40 fun w42 =>
                onSome h fun A43 =>
                stP (A43.add 6) (.slice c37.a c37.len c37.cap) w42 fun w44 =>
                J18 () w44) ∧
              newP (.cells #[(.int .i64 (-1))] 3) w32 fun b45 w46 =>
              (w46.cell? (A25.add 6) = some (.slice x26.a x26.len x26.cap)) ∧
              (w46.cell? (A23.add 5) = some (.slice x24.a x24.len x24.cap)) ∧
              (w46.cell? (A21.add 3) = some (.slice x22.a x22.len x22.cap)) ∧
              runP Tryz.prog (Builtin.append_ #[53, 53] 53 #[(.slice x24.a x24.len x24.cap), (.slice (some ⟨b31, 0, none⟩) 1 1)]) [.one .slice] w46 fun c47 w48 =>
              (w48.cell? (A25.add 6) = some (.slice x26.a x26.len x26.cap)) ∧
              runP Tryz.prog (Builtin.append_ #[53, 53] 53 #[(.slice x26.a x26.len x26.cap), (.slice (some ⟨b45, 0, none⟩) 1 1)]) [.one .slice] w48 fun c49 w50 =>
              onSome h fun A51 =>
              stP (A51.add 3) (.slice c29.a c29.len c29.cap) w50 fun w52 =>
              onSome h fun A53 =>
              stP (A53.add 5) (.slice c47.a c47.len c47.cap) w52 fun w54 =>
              onSome h fun A55 =>
              stP (A55.add 6) (.slice c49.a c49.len c49.cap) w54 fun w56 =>
              J18 () w56) ∧
            newP (.cells #[(.int .i64 (-1))] 3) w30 fun b57 w58 =>
            (w58.cell? (A25.add 6) = some (.slice x26.a x26.len x26.cap)) ∧
            (w58.cell? (A23.add 5) = some (.slice x24.a x24.len x24.cap)) ∧
            (w58.cell? (A21.add 3) = some (.slice x22.a x22.len x22.cap)) ∧
            newP (.cells #[(.int .i64 0)] 3) w58 fun b59 w60 =>
            (w60.cell? (A25.add 6) = some (.slice x26.a x26.len x26.cap)) ∧
            (w60.cell? (A23.add 5) = some (.slice x24.a x24.len x24.cap)) ∧
            (w60.cell? (A21.add 3) = some (.slice x22.a x22.len x22.cap)) ∧
            runP Tryz.prog (Builtin.append_ #[53, 53] 53 #[(.slice x24.a x24.len x24.cap), (.slice (some ⟨b59, 0, none⟩) 1 1)]) [.one .slice] w60 fun c61 w62 =>
            (w62.cell? (A25.add 6) = some (.slice x26.a x26.len x26.cap)) ∧
            runP Tryz.prog (Builtin.append_ #[53, 53] 53 #[(.slice x26.a x26.len x26.cap), (.slice (some ⟨b57, 0, none⟩) 1 1)]) [.one .slice] w62 fun c63 w64 =>
            onSome h fun A65 =>
            stP (A65.add 3) (.slice c29.a c29.len c29.cap) w64 fun w66 =>
            onSome h fun A67 =>
            stP (A67.add 5) (.slice c61.a c61.len c61.cap) w66 fun w68 =>
            onSome h fun A69 =>
            stP (A69.add 6) (.slice c63.a c63.len c63.cap) w68 fun w70 =>
            J18 () w70) ∧
          (
            newP (.cells #[(.int .i64 0)] 3) w28 fun b71 w72 =>
            (w72.cell? (A25.add 6) = some (.slice x26.a x26.len x26.cap)) ∧
            (w72.cell? (A23.add 5) = some (.slice x24.a x24.len x24.cap)) ∧
            (w72.cell? (A21.add 3) = some (.slice x22.a x22.len x22.cap)) ∧
            (
              runP Tryz.prog (Builtin.append_ #[53, 53] 53 #[(.slice x22.a x22.len x22.cap), (.slice (some ⟨b27, 0, none⟩) 1 1)]) [.one .slice] w72 fun c73 w74 =>
              (w74.cell? (A25.add 6) = some (.slice x26.a x26.len x26.cap)) ∧
              (w74.cell? (A23.add 5) = some (.slice x24.a x24.len x24.cap)) ∧
              (
                runP Tryz.prog (Builtin.append_ #[53, 53] 53 #[(.slice x24.a x24.len x24.cap), (.slice (some ⟨b71, 0, none⟩) 1 1)]) [.one .slice] w74 fun c75 w76 =>
                (w76.cell? (A25.add 6) = some (.slice x26.a x26.len x26.cap)) ∧
                newP (.cells #[(.int .i64 (-1))] 3) w76 fun b77 w78 =>
                (w78.cell? (A25.add 6) = some (.slice x26.a x26.len x26.cap)) ∧
                (w78.cell? (A23.add 5) = some (.slice x24.a x24.len x24.cap)) ∧
                (w78.cell? (A21.add 3) = some (.slice x22.a x22.len x22.cap)) ∧
                runP Tryz.prog (Builtin.append_ #[53, 53] 53 #[(.slice x26.a x26.len x26.cap), (.slice (some ⟨b77, 0, none⟩) 1 1)]) [.one .slice] w78 fun c79 w80 =>
                onSome h fun A81 =>
                stP (A81.add 3) (.slice c73.a c73.len c73.cap) w80 fun w82 =>
                onSome h fun A83 =>
                stP (A83.add 5) (.slice c75.a c75.len c75.cap) w82 fun w84 =>
                onSome h fun A85 =>
                stP (A85.add 6) (.slice c79.a c79.len c79.cap) w84 fun w86 =>
                J18 () w86) ∧
              newP (.cells #[(.int .i64 (-1))] 3) w74 fun b87 w88 =>
              (w88.cell? (A25.add 6) = some (.slice x26.a x26.len x26.cap)) ∧
              (w88.cell? (A23.add 5) = some (.slice x24.a x24.len x24.cap)) ∧
              (w88.cell? (A21.add 3) = some (.slice x22.a x22.len x22.cap)) ∧
              runP Tryz.prog (Builtin.append_ #[53, 53] 53 #[(.slice x24.a x24.len x24.cap), (.slice (some ⟨b71, 0, none⟩) 1 1)]) [.one .slice] w88 fun c89 w90 =>
              (w90.cell? (A25.add 6) = some (.slice x26.a x26.len x26.cap)) ∧
              runP Tryz.prog (Builtin.append_ #[53, 53] 53 #[(.slice x26.a x26.len x26.cap), (.slice (some ⟨b87, 0, none⟩) 1 1)]) [.one .slice] w90 fun c91 w92 =>
              onSome h fun A93 =>
              stP (A93.add 3) (.slice c73.a c73.len c73.cap) w92 fun w94 =>
              onSome h fun A95 =>
              stP (A95.add 5) (.slice c89.a c89.len c89.cap) w94 fun w96 =>
              onSome h fun A97 =>
              stP (A97.add 6) (.slice c91.a c91.len c91.cap) w96 fun w98 =>
              J18 () w98) ∧
            newP (.cells #[(.int .i64 (-1))] 3) w72 fun b99 w100 =>
            (w100.cell? (A25.add 6) = some (.slice x26.a x26.len x26.cap)) ∧
            (w100.cell? (A23.add 5) = some (.slice x24.a x24.len x24.cap)) ∧
            (w100.cell? (A21.add 3) = some (.slice x22.a x22.len x22.cap)) ∧
            runP Tryz.prog (Builtin.append_ #[53, 53] 53 #[(.slice x22.a x22.len x22.cap), (.slice (some ⟨b27, 0, none⟩) 1 1)]) [.one .slice] w100 fun c101 w102 =>
            (w102.cell? (A25.add 6) = some (.slice x26.a x26.len x26.cap)) ∧
            (w102.cell? (A23.add 5) = some (.slice x24.a x24.len x24.cap)) ∧
            runP Tryz.prog (Builtin.append_ #[53, 53] 53 #[(.slice x24.a x24.len x24.cap), (.slice (some ⟨b71, 0, none⟩) 1 1)]) [.one .slice] w102 fun c103 w104 =>
            (w104.cell? (A25.add 6) = some (.slice x26.a x26.len x26.cap)) ∧
            runP Tryz.prog (Builtin.append_ #[53, 53] 53 #[(.slice x26.a x26.len x26.cap), (.slice (some ⟨b99, 0, none⟩) 1 1)]) [.one .slice] w104 fun c105 w106 =>
            onSome h fun A107 =>
            stP (A107.add 3) (.slice c101.a c101.len c101.cap) w106 fun w108 =>
            onSome h fun A109 =>
            stP (A109.add 5) (.slice c103.a c103.len c103.cap) w108 fun w110 =>
            onSome h fun A111 =>
            stP (A111.add 6) (.slice c105.a c105.len c105.cap) w110 fun w112 =>
            J18 () w112) ∧
          newP (.cells #[(.int .i64 (-1))] 3) w28 fun b113 w114 =>
          (w114.cell? (A25.add 6) = some (.slice x26.a x26.len x26.cap)) ∧
          (w114.cell? (A23.add 5) = some (.slice x24.a x24.len x24.cap)) ∧
          (w114.cell? (A21.add 3) = some (.slice x22.a x22.len x22.cap)) ∧
          (
            runP Tryz.prog (Builtin.append_ #[53, 53] 53 #[(.slice x22.a x22.len x22.cap), (.slice (some ⟨b27, 0, none⟩) 1 1)]) [.one .slice] w114 fun c115 w116 =>
            (w116.cell? (A25.add 6) = some (.slice x26.a x26.len x26.cap)) ∧
            (w116.cell? (A23.add 5) = some (.slice x24.a x24.len x24.cap)) ∧
            newP (.cells #[(.int .i64 0)] 3) w116 fun b117 w118 =>
            (w118.cell? (A25.add 6) = some (.slice x26.a x26.len x26.cap)) ∧
            (w118.cell? (A23.add 5) = some (.slice x24.a x24.len x24.cap)) ∧
            (w118.cell? (A21.add 3) = some (.slice x22.a x22.len x22.cap)) ∧
            runP Tryz.prog (Builtin.append_ #[53, 53] 53 #[(.slice x24.a x24.len x24.cap), (.slice (some ⟨b117, 0, none⟩) 1 1)]) [.one .slice] w118 fun c119 w120 =>
            (w120.cell? (A25.add 6) = some (.slice x26.a x26.len x26.cap)) ∧
            runP Tryz.prog (Builtin.append_ #[53, 53] 53 #[(.slice x26.a x26.len x26.cap), (.slice (some ⟨b113, 0, none⟩) 1 1)]) [.one .slice] w120 fun c121 w122 =>
            onSome h fun A123 =>
            stP (A123.add 3) (.slice c115.a c115.len c115.cap) w122 fun w124 =>
            onSome h fun A125 =>
            stP (A125.add 5) (.slice c119.a c119.len c119.cap) w124 fun w126 =>
            onSome h fun A127 =>
            stP (A127.add 6) (.slice c121.a c121.len c121.cap) w126 fun w128 =>
            J18 () w128) ∧
          newP (.cells #[(.int .i64 0)] 3) w114 fun b129 w130 =>
          (w130.cell? (A25.add 6) = some (.slice x26.a x26.len x26.cap)) ∧
          (w130.cell? (A23.add 5) = some (.slice x24.a x24.len x24.cap)) ∧
          (w130.cell? (A21.add 3) = some (.slice x22.a x22.len x22.cap)) ∧
          runP Tryz.prog (Builtin.append_ #[53, 53] 53 #[(.slice x22.a x22.len x22.cap), (.slice (some ⟨b27, 0, none⟩) 1 1)]) [.one .slice] w130 fun c131 w132 =>
          (w132.cell? (A25.add 6) = some (.slice x26.a x26.len x26.cap)) ∧
          (w132.cell? (A23.add 5) = some (.slice x24.a x24.len x24.cap)) ∧
          runP Tryz.prog (Builtin.append_ #[53, 53] 53 #[(.slice x24.a x24.len x24.cap), (.slice (some ⟨b129, 0, none⟩) 1 1)]) [.one .slice] w132 fun c133 w134 =>
          (w134.cell? (A25.add 6) = some (.slice x26.a x26.len x26.cap)) ∧
          runP Tryz.prog (Builtin.append_ #[53, 53] 53 #[(.slice x26.a x26.len x26.cap), (.slice (some ⟨b113, 0, none⟩) 1 1)]) [.one .slice] w134 fun c135 w136 =>
          onSome h fun A137 =>
          stP (A137.add 3) (.slice c131.a c131.len c131.cap) w136 fun w138 =>
          onSome h fun A139 =>
          stP (A139.add 5) (.slice c133.a c133.len c133.cap) w138 fun w140 =>
          onSome h fun A141 =>
          stP (A141.add 6) (.slice c135.a c135.len c135.cap) w140 fun w142 =>
          J18 () w142) ∧
        (
          newP (.cells #[(.int .i64 0)] 3) w17.drew fun b143 w144 =>
          (w144.cell? (A25.add 6) = some (.slice x26.a x26.len x26.cap)) ∧
          (w144.cell? (A23.add 5) = some (.slice x24.a x24.len x24.cap)) ∧
          (w144.cell? (A21.add 3) = some (.slice x22.a x22.len x22.cap)) ∧
          (
            newP (.cells #[(.int .i64 0)] 3) w144 fun b145 w146 =>
            (w146.cell? (A25.add 6) = some (.slice x26.a x26.len x26.cap)) ∧
            (w146.cell? (A23.add 5) = some (.slice x24.a x24.len x24.cap)) ∧
            (w146.cell? (A21.add 3) = some (.slice x22.a x22.len x22.cap)) ∧
            (
              runP Tryz.prog (Builtin.append_ #[53, 53] 53 #[(.slice x22.a x22.len x22.cap), (.slice (some ⟨b145, 0, none⟩) 1 1)]) [.one .slice] w146 fun c147 w148 =>
              (w148.cell? (A25.add 6) = some (.slice x26.a x26.len x26.cap)) ∧
              (w148.cell? (A23.add 5) = some (.slice x24.a x24.len x24.cap)) ∧
              (
                runP Tryz.prog (Builtin.append_ #[53, 53] 53 #[(.slice x24.a x24.len x24.cap), (.slice (some ⟨b143, 0, none⟩) 1 1)]) [.one .slice] w148 fun c149 w150 =>
                (w150.cell? (A25.add 6) = some (.slice x26.a x26.len x26.cap)) ∧
                newP (.cells #[(.int .i64 (-1))] 3) w150 fun b151 w152 =>
                (w152.cell? (A25.add 6) = some (.slice x26.a x26.len x26.cap)) ∧
                (w152.cell? (A23.add 5) = some (.slice x24.a x24.len x24.cap)) ∧
                (w152.cell? (A21.add 3) = some (.slice x22.a x22.len x22.cap)) ∧
                runP Tryz.prog (Builtin.append_ #[53, 53] 53 #[(.slice x26.a x26.len x26.cap), (.slice (some ⟨b151, 0, none⟩) 1 1)]) [.one .slice] w152 fun c153 w154 =>
                onSome h fun A155 =>
                stP (A155.add 3) (.slice c147.a c147.len c147.cap) w154 fun w156 =>
                onSome h fun A157 =>
                stP (A157.add 5) (.slice c149.a c149.len c149.cap) w156 fun w158 =>
                onSome h fun A159 =>
                stP (A159.add 6) (.slice c153.a c153.len c153.cap) w158 fun w160 =>
                J18 () w160) ∧
              newP (.cells #[(.int .i64 (-1))] 3) w148 fun b161 w162 =>
              (w162.cell? (A25.add 6) = some (.slice x26.a x26.len x26.cap)) ∧
              (w162.cell? (A23.add 5) = some (.slice x24.a x24.len x24.cap)) ∧
              (w162.cell? (A21.add 3) = some (.slice x22.a x22.len x22.cap)) ∧
              runP Tryz.prog (Builtin.append_ #[53, 53] 53 #[(.slice x24.a x24.len x24.cap), (.slice (some ⟨b143, 0, none⟩) 1 1)]) [.one .slice] w162 fun c163 w164 =>
              (w164.cell? (A25.add 6) = some (.slice x26.a x26.len x26.cap)) ∧
              runP Tryz.prog (Builtin.append_ #[53, 53] 53 #[(.slice x26.a x26.len x26.cap), (.slice (some ⟨b161, 0, none⟩) 1 1)]) [.one .slice] w164 fun c165 w166 =>
              onSome h fun A167 =>
              stP (A167.add 3) (.slice c147.a c147.len c147.cap) w166 fun w168 =>
              onSome h fun A169 =>
              stP (A169.add 5) (.slice c163.a c163.len c163.cap) w168 fun w170 =>
              onSome h fun A171 =>
              stP (A171.add 6) (.slice c165.a c165.len c165.cap) w170 fun w172 =>
              J18 () w172) ∧
            newP (.cells #[(.int .i64 (-1))] 3) w146 fun b173 w174 =>
            (w174.cell? (A25.add 6) = some (.slice x26.a x26.len x26.cap)) ∧
            (w174.cell? (A23.add 5) = some (.slice x24.a x24.len x24.cap)) ∧
            (w174.cell? (A21.add 3) = some (.slice x22.a x22.len x22.cap)) ∧
            runP Tryz.prog (Builtin.append_ #[53, 53] 53 #[(.slice x22.a x22.len x22.cap), (.slice (some ⟨b145, 0, none⟩) 1 1)]) [.one .slice] w174 fun c175 w176 =>
            (w176.cell? (A25.add 6) = some (.slice x26.a x26.len x26.cap)) ∧
            (w176.cell? (A23.add 5) = some (.slice x24.a x24.len x24.cap)) ∧
            runP Tryz.prog (Builtin.append_ #[53, 53] 53 #[(.slice x24.a x24.len x24.cap), (.slice (some ⟨b143, 0, none⟩) 1 1)]) [.one .slice] w176 fun c177 w178 =>
            (w178.cell? (A25.add 6) = some (.slice x26.a x26.len x26.cap)) ∧
            runP Tryz.prog (Builtin.append_ #[53, 53] 53 #[(.slice x26.a x26.len x26.cap), (.slice (some ⟨b173, 0, none⟩) 1 1)]) [.one .slice] w178 fun c179 w180 =>
            onSome h fun A181 =>
            stP (A181.add 3) (.slice c175.a c175.len c175.cap) w180 fun w182 =>
            onSome h fun A183 =>
            stP (A183.add 5) (.slice c177.a c177.len c177.cap) w182 fun w184 =>
            onSome h fun A185 =>
            stP (A185.add 6) (.slice c179.a c179.len c179.cap) w184 fun w186 =>
            J18 () w186) ∧
          newP (.cells #[(.int .i64 (-1))] 3) w144 fun b187 w188 =>
          (w188.cell? (A25.add 6) = some (.slice x26.a x26.len x26.cap)) ∧
          (w188.cell? (A23.add 5) = some (.slice x24.a x24.len x24.cap)) ∧
          (w188.cell? (A21.add 3) = some (.slice x22.a x22.len x22.cap)) ∧
          newP (.cells #[(.int .i64 0)] 3) w188 fun b189 w190 =>
          (w190.cell? (A25.add 6) = some (.slice x26.a x26.len x26.cap)) ∧
          (w190.cell? (A23.add 5) = some (.slice x24.a x24.len x24.cap)) ∧
          (w190.cell? (A21.add 3) = some (.slice x22.a x22.len x22.cap)) ∧
          runP Tryz.prog (Builtin.append_ #[53, 53] 53 #[(.slice x22.a x22.len x22.cap), (.slice (some ⟨b189, 0, none⟩) 1 1)]) [.one .slice] w190 fun c191 w192 =>
          (w192.cell? (A25.add 6) = some (.slice x26.a x26.len x26.cap)) ∧
          (w192.cell? (A23.add 5) = some (.slice x24.a x24.len x24.cap)) ∧
          runP Tryz.prog (Builtin.append_ #[53, 53] 53 #[(.slice x24.a x24.len x24.cap), (.slice (some ⟨b143, 0, none⟩) 1 1)]) [.one .slice] w192 fun c193 w194 =>
          (w194.cell? (A25.add 6) = some (.slice x26.a x26.len x26.cap)) ∧
          runP Tryz.prog (Builtin.append_ #[53, 53] 53 #[(.slice x26.a x26.len x26.cap), (.slice (some ⟨b187, 0, none⟩) 1 1)]) [.one .slice] w194 fun c195 w196 =>
          onSome h fun A197 =>
          stP (A197.add 3) (.slice c191.a c191.len c191.cap) w196 fun w198 =>
          onSome h fun A199 =>
          stP (A199.add 5) (.slice c193.a c193.len c193.cap) w198 fun w200 =>
          onSome h fun A201 =>
          stP (A201.add 6) (.slice c195.a c195.len c195.cap) w200 fun w202 =>
          J18 () w202) ∧
        newP (.cells #[(.int .i64 (-1))] 3) w17.drew fun b203 w204 =>
        (w204.cell? (A25.add 6) = some (.slice x26.a x26.len x26.cap)) ∧
        (w204.cell? (A23.add 5) = some (.slice x24.a x24.len x24.cap)) ∧
        (w204.cell? (A21.add 3) = some (.slice x22.a x22.len x22.cap)) ∧
        (
          newP (.cells #[(.int .i64 0)] 3) w204 fun b205 w206 =>
          (w206.cell? (A25.add 6) = some (.slice x26.a x26.len x26.cap)) ∧
          (w206.cell? (A23.add 5) = some (.slice x24.a x24.len x24.cap)) ∧
          (w206.cell? (A21.add 3) = some (.slice x22.a x22.len x22.cap)) ∧
          (
            runP Tryz.prog (Builtin.append_ #[53, 53] 53 #[(.slice x22.a x22.len x22.cap), (.slice (some ⟨b205, 0, none⟩) 1 1)]) [.one .slice] w206 fun c207 w208 =>
            (w208.cell? (A25.add 6) = some (.slice x26.a x26.len x26.cap)) ∧
            (w208.cell? (A23.add 5) = some (.slice x24.a x24.len x24.cap)) ∧
            newP (.cells #[(.int .i64 0)] 3) w208 fun b209 w210 =>
            (w210.cell? (A25.add 6) = some (.slice x26.a x26.len x26.cap)) ∧
            (w210.cell? (A23.add 5) = some (.slice x24.a x24.len x24.cap)) ∧
            (w210.cell? (A21.add 3) = some (.slice x22.a x22.len x22.cap)) ∧
            runP Tryz.prog (Builtin.append_ #[53, 53] 53 #[(.slice x24.a x24.len x24.cap), (.slice (some ⟨b209, 0, none⟩) 1 1)]) [.one .slice] w210 fun c211 w212 =>
            (w212.cell? (A25.add 6) = some (.slice x26.a x26.len x26.cap)) ∧
            runP Tryz.prog (Builtin.append_ #[53, 53] 53 #[(.slice x26.a x26.len x26.cap), (.slice (some ⟨b203, 0, none⟩) 1 1)]) [.one .slice] w212 fun c213 w214 =>
            onSome h fun A215 =>
            stP (A215.add 3) (.slice c207.a c207.len c207.cap) w214 fun w216 =>
            onSome h fun A217 =>
            stP (A217.add 5) (.slice c211.a c211.len c211.cap) w216 fun w218 =>
            onSome h fun A219 =>
            stP (A219.add 6) (.slice c213.a c213.len c213.cap) w218 fun w220 =>
            J18 () w220) ∧
          newP (.cells #[(.int .i64 0)] 3) w206 fun b221 w222 =>
          (w222.cell? (A25.add 6) = some (.slice x26.a x26.len x26.cap)) ∧
          (w222.cell? (A23.add 5) = some (.slice x24.a x24.len x24.cap)) ∧
          (w222.cell? (A21.add 3) = some (.slice x22.a x22.len x22.cap)) ∧
          runP Tryz.prog (Builtin.append_ #[53, 53] 53 #[(.slice x22.a x22.len x22.cap), (.slice (some ⟨b205, 0, none⟩) 1 1)]) [.one .slice] w222 fun c223 w224 =>
          (w224.cell? (A25.add 6) = some (.slice x26.a x26.len x26.cap)) ∧
          (w224.cell? (A23.add 5) = some (.slice x24.a x24.len x24.cap)) ∧
          runP Tryz.prog (Builtin.append_ #[53, 53] 53 #[(.slice x24.a x24.len x24.cap), (.slice (some ⟨b221, 0, none⟩) 1 1)]) [.one .slice] w224 fun c225 w226 =>
          (w226.cell? (A25.add 6) = some (.slice x26.a x26.len x26.cap)) ∧
          runP Tryz.prog (Builtin.append_ #[53, 53] 53 #[(.slice x26.a x26.len x26.cap), (.slice (some ⟨b203, 0, none⟩) 1 1)]) [.one .slice] w226 fun c227 w228 =>
          onSome h fun A229 =>
          stP (A229.add 3) (.slice c223.a c223.len c223.cap) w228 fun w230 =>
          onSome h fun A231 =>
          stP (A231.add 5) (.slice c225.a c225.len c225.cap) w230 fun w232 =>
          onSome h fun A233 =>
          stP (A233.add 6) (.slice c227.a c227.len c227.cap) w232 fun w234 =>
          J18 () w234) ∧
        newP (.cells #[(.int .i64 0)] 3) w204 fun b235 w236 =>
        (w236.cell? (A25.add 6) = some (.slice x26.a x26.len x26.cap)) ∧
        (w236.cell? (A23.add 5) = some (.slice x24.a x24.len x24.cap)) ∧
        (w236.cell? (A21.add 3) = some (.slice x22.a x22.len x22.cap)) ∧
        newP (.cells #[(.int .i64 0)] 3) w236 fun b237 w238 =>
        (w238.cell? (A25.add 6) = some (.slice x26.a x26.len x26.cap)) ∧
        (w238.cell? (A23.add 5) = some (.slice x24.a x24.len x24.cap)) ∧
        (w238.cell? (A21.add 3) = some (.slice x22.a x22.len x22.cap)) ∧
        runP Tryz.prog (Builtin.append_ #[53, 53] 53 #[(.slice x22.a x22.len x22.cap), (.slice (some ⟨b237, 0, none⟩) 1 1)]) [.one .slice] w238 fun c239 w240 =>
        (w240.cell? (A25.add 6) = some (.slice x26.a x26.len x26.cap)) ∧
        (w240.cell? (A23.add 5) = some (.slice x24.a x24.len x24.cap)) ∧
        runP Tryz.prog (Builtin.append_ #[53, 53] 53 #[(.slice x24.a x24.len x24.cap), (.slice (some ⟨b235, 0, none⟩) 1 1)]) [.one .slice] w240 fun c241 w242 =>
        (w242.cell? (A25.add 6) = some (.slice x26.a x26.len x26.cap)) ∧
        runP Tryz.prog (Builtin.append_ #[53, 53] 53 #[(.slice x26.a x26.len x26.cap), (.slice (some ⟨b203, 0, none⟩) 1 1)]) [.one .slice] w242 fun c243 w244 =>
        onSome h fun A245 =>
        stP (A245.add 3) (.slice c239.a c239.len c239.cap) w244 fun w246 =>
        onSome h fun A247 =>
        stP (A247.add 5) (.slice c241.a c241.len c241.cap) w246 fun w248 =>
        onSome h fun A249 =>
        stP (A249.add 6) (.slice c243.a c243.len c243.cap) w248 fun w250 =>
        J18 () w250) (fun _s19 w20 =>
      again3 () w20)) (
      K () w5.drew)) () w2
def an56 : List An := [
  .reg ⟨[(1, [.one .ptr, .one (.int .i64)])], .done, []⟩,
  .nop,
  .nop,
  .loop [] [11, 12, 13, 14, 15, 16, 17, 18, 19, 20, 21, 22, 23, 24, 25, 26, 27, 28, 29, 30, 31, 32, 33, 34, 35, 36, 37, 38, 39, 40, 41, 42, 43, 44, 45, 46, 47, 48, 49, 50, 51, 52, 53, 54, 55, 56, 57, 58],
  .reg ⟨[], (.nop 0 0 (.nop 1 1 (.nop 2 3 (.nop 3 7 (.nop 4 15 (.nop 5 0 (.nop 6 32 (.nop 7 96 (.nop 8 224 (.nop 9 480 (.nop 10 1023 .done))))))))))), []⟩,
  .nop,
  .nop,
  .reg ⟨[(7, [.one .slice])], .done, []⟩,
  .join [] [32, 33, 34, 35, 36, 37, 38, 39, 40, 41, 42, 43, 44, 45, 46, 47, 48, 49, 50, 51, 52, 53, 54, 55, 56, 57, 58],
  .reg ⟨[(8, [.one .slice]), (14, [.one .slice]), (20, [.one .slice])], (.nop 0 0 (.nop 1 0 (.nop 2 0 (.nop 3 0 (.nop 4 8 (.nop 5 24 (.nop 6 56 (.nop 9 0 (.nop 10 512 (.nop 11 1536 (.nop 12 3584 (.nop 15 0 (.nop 16 32768 (.nop 17 98304 (.nop 18 229376 (.bar 7 0 (.bar 8 248 (.bar 13 0 (.bar 14 16376 (.bar 19 0 (.bar 20 1048568 (.nop 21 2097145 (.nop 22 4194297 (.bar 23 8388601 (.nop 24 16777211 (.nop 25 33554427 (.bar 26 67108859 (.nop 27 134217727 (.nop 28 268435455 (.bar 29 536870911 .done .none))) .none))) .none))) .none) .none) (.bar 19 0 (.bar 14 16376 (.bar 20 1048568 (.nop 21 2097145 (.nop 22 4194297 (.bar 23 8388601 (.nop 24 16777211 (.nop 25 33554427 (.bar 26 67108859 (.nop 27 134217727 (.nop 28 268435455 (.bar 29 536870911 .done .none))) .none))) .none))) .none) .none) .none)) (.bar 19 0 (.bar 13 0 (.bar 14 16376 (.bar 20 1048568 (.nop 21 2097145 (.nop 22 4194297 (.bar 23 8388601 (.nop 24 16777211 (.nop 25 33554427 (.bar 26 67108859 (.nop 27 134217727 (.nop 28 268435455 (.bar 29 536870911 .done .none))) .none))) .none))) .none) .none) .none) .none)) (.bar 13 0 (.bar 8 248 (.bar 14 16376 (.bar 19 0 (.bar 20 1048568 (.nop 21 2097145 (.nop 22 4194297 (.bar 23 8388601 (.nop 24 16777211 (.nop 25 33554427 (.bar 26 67108859 (.nop 27 134217727 (.nop 28 268435455 (.bar 29 536870911 .done .none))) .none))) .none))) .none) .none) (.bar 19 0 (.bar 14 16376 (.bar 20 1048568 (.nop 21 2097145 (.nop 22 4194297 (.bar 23 8388601 (.nop 24 16777211 (.nop 25 33554427 (.bar 26 67108859 (.nop 27 134217727 (.nop 28 268435455 (.bar 29 536870911 .done .none))) .none))) .none))) .none) .none) .none)) (.bar 19 0 (.bar 8 248 (.bar 14 16376 (.bar 20 1048568 (.nop 21 2097145 (.nop 22 4194297 (.bar 23 8388601 (.nop 24 16777211 (.nop 25 33554427 (.bar 26 67108859 (.nop 27 134217727 (.nop 28 268435455 (.bar 29 536870911 .done .none))) .none))) .none))) .none) .none) .none) .none)) (.bar 19 0 (.bar 8 248 (.bar 13 0 (.bar 14 16376 (.bar 20 1048568 (.nop 21 2097145 (.nop 22 4194297 (.bar 23 8388601 (.nop 24 16777211 (.nop 25 33554427 (.bar 26 67108859 (.nop 27 134217727 (.nop 28 268435455 (.bar 29 536870911 .done .none))) .none))) .none))) .none) .none) .none) (.bar 13 0 (.bar 8 248 (.bar 14 16376 (.bar 20 1048568 (.nop 21 2097145 (.nop 22 4194297 (.bar 23 8388601 (.nop 24 16777211 (.nop 25 33554427 (.bar 26 67108859 (.nop 27 134217727 (.nop 28 268435455 (.bar 29 536870911 .done .none))) .none))) .none))) .none) .none) .none) .none)) .none))) (.bar 13 0 (.bar 7 0 (.bar 8 248 (.bar 14 16376 (.bar 19 0 (.bar 20 1048568 (.nop 21 2097145 (.nop 22 4194297 (.bar 23 8388601 (.nop 24 16777211 (.nop 25 33554427 (.bar 26 67108859 (.nop 27 134217727 (.nop 28 268435455 (.bar 29 536870911 .done .none))) .none))) .none))) .none) .none) (.bar 19 0 (.bar 14 16376 (.bar 20 1048568 (.nop 21 2097145 (.nop 22 4194297 (.bar 23 8388601 (.nop 24 16777211 (.nop 25 33554427 (.bar 26 67108859 (.nop 27 134217727 (.nop 28 268435455 (.bar 29 536870911 .done .none))) .none))) .none))) .none) .none) .none)) (.bar 19 0 (.bar 8 248 (.bar 14 16376 (.bar 20 1048568 (.nop 21 2097145 (.nop 22 4194297 (.bar 23 8388601 (.nop 24 16777211 (.nop 25 33554427 (.bar 26 67108859 (.nop 27 134217727 (.nop 28 268435455 (.bar 29 536870911 .done .none))) .none))) .none))) .none) .none) .none) .none)) (.bar 19 0 (.bar 7 0 (.bar 8 248 (.bar 14 16376 (.bar 20 1048568 (.nop 21 2097145 (.nop 22 4194297 (.bar 23 8388601 (.nop 24 16777211 (.nop 25 33554427 (.bar 26 67108859 (.nop 27 134217727 (.nop 28 268435455 (.bar 29 536870911 .done .none))) .none))) .none))) .none) .none) .none) .none) .none)) (.bar 19 0 (.bar 7 0 (.bar 8 248 (.bar 13 0 (.bar 14 16376 (.bar 20 1048568 (.nop 21 2097145 (.nop 22 4194297 (.bar 23 8388601 (.nop 24 16777211 (.nop 25 33554427 (.bar 26 67108859 (.nop 27 134217727 (.nop 28 268435455 (.bar 29 536870911 .done .none))) .none))) .none))) .none) .none) .none) (.bar 13 0 (.bar 8 248 (.bar 14 16376 (.bar 20 1048568 (.nop 21 2097145 (.nop 22 4194297 (.bar 23 8388601 (.nop 24 16777211 (.nop 25 33554427 (.bar 26 67108859 (.nop 27 134217727 (.nop 28 268435455 (.bar 29 536870911 .done .none))) .none))) .none))) .none) .none) .none) .none)) (.bar 13 0 (.bar 7 0 (.bar 8 248 (.bar 14 16376 (.bar 20 1048568 (.nop 21 2097145 (.nop 22 4194297 (.bar 23 8388601 (.nop 24 16777211 (.nop 25 33554427 (.bar 26 67108859 (.nop 27 134217727 (.nop 28 268435455 (.bar 29 536870911 .done .none))) .none))) .none))) .none) .none) .none) .none) .none)) .none)))))))))))))))))), []⟩]
theorem purlinref24_History_grow_56_of (h : Option Addr) (number : Int) (w : World) (K : Tup [] → World → Prop) (hF_ : F56 h number w K) : purlinref24_History_grow_56 h number w K :=
  call_of_F (l := an56) (args := [Ty.mk (.one .ptr) h, Ty.mk (.one (.int .i64)) number]) follows tabOk Tryz.func56 (by kernel_rfl) (by kernel_rfl) (by kernel_rfl) hF_

end Go.Proofs.YtcpoglgnkedpaaaGreatDoor

/-
  What the functions' bodies ask (printed by vcgen.py).
-/
namespace Go.Proofs.YtcpoglgnkedpaaaGreatDoor
open Go Go.Vc Go.Proofs


/-- purlin/purlinlaw24.MayFsync -/
def F3 (a : Sl) (b : Sl) (bits : Int) (sync : Bool) (w : World) (K : Tup [.one .bool] → World → Prop) : Prop :=
  joinP (σ := Tup [.one .bool]) (fun J1 =>
    cnd (decide ((minI (a.len : Int) (b.len : Int)) > 300)) (
      J1 true w) (
      J1 (decide ((minI (a.len : Int) (b.len : Int)) < 1)) w)) (fun s2 w3 =>
  cnd s2 (
    purlinlaw24_awake_10  w3 fun r4 w5 =>
    K r4 w5) (
    slcP a 0 (some (minI (a.len : Int) (b.len : Int))) 1 fun s6 =>
    slcP b 0 (some (minI (a.len : Int) (b.len : Int))) 1 fun s7 =>
    may_New_11  w3.drew fun r8 w9 =>
    joinP (σ := Tup [.one .bool]) (fun J10 =>
      cnd (Option.isNone r8) (
        J10 true w9) (
        purlinlaw24_one_12 r8 (1, 0, 0, 0, 33, (⟨#[47, 102]⟩ : ByteArray), (⟨#[]⟩ : ByteArray), ⟨none, 0, 0⟩) 5 w9 fun r13 w14 =>
        cnd (!r13) (
          J10 true w14) (
          purlinlaw24_one_12 r8 (4, 0, 0, 0, 0, (⟨#[]⟩ : ByteArray), (⟨#[]⟩ : ByteArray), s6) 0 w14 fun r15 w16 =>
          cnd (!r15) (
            J10 true w16) (
            purlinlaw24_one_12 r8 (19, 0, 0, 0, 0, (⟨#[]⟩ : ByteArray), (⟨#[]⟩ : ByteArray), ⟨none, 0, 0⟩) 0 w16 fun r17 w18 =>
            cnd (!r17) (
              J10 true w18) (
              purlinlaw24_one_12 r8 (6, 0, 0, 0, 0, (⟨#[]⟩ : ByteArray), (⟨#[]⟩ : ByteArray), s7) 0 w18 fun r19 w20 =>
              J10 (!r19) w20))))) (fun s11 w12 =>
    cnd s11 (
      K false w12) (
      joinP (σ := Tup [.one .bool]) (fun J21 =>
        cnd sync (
          purlinlaw24_one_12 r8 (20, 0, 0, 0, 0, (⟨#[]⟩ : ByteArray), (⟨#[]⟩ : ByteArray), ⟨none, 0, 0⟩) 0 w12 fun r24 w25 =>
          J21 (!r24) w25) (
          J21 false w12)) (fun s22 w23 =>
      cnd s22 (
        K false w23) (
        runP Tryz.prog (Builtin.append_ #[22, 22] 22 #[(.slice none 0 0), (.slice s6.a s6.len s6.cap)]) [.one .slice] w23 fun c26 w27 =>
        loopP (σ := Tup [.one .bool, .one (.int .i64)]) (fun again28 s29 w30 =>
          cnd (decide (s29.2 < (minI (a.len : Int) (b.len : Int)))) (
            (128 : Int) ≠ 0 ∧
            (0 : Int) ≤ (w64 (Int.tdiv s29.2 128)) ∧
            joinP (σ := Tup []) (fun J31 =>
              cnd ((andI .i64 (Int.fdiv bits (2 ^ (min (Int.toNat (w64 (Int.tdiv s29.2 128))) 64))) 1) == 1) (
                idxP s29.2 s7.len (
                  onSome s7.a fun A34 =>
                  ldP (.int .u8) (A34.add (Int.toNat s29.2 * 1)) w30 fun x35 =>
                  idxP s29.2 c26.len (
                    onSome c26.a fun A36 =>
                    stP (A36.add (Int.toNat s29.2 * 1)) (.int .u8 x35) w30 fun w37 =>
                    J31 () w37))) (
                J31 () w30)) (fun _s32 w33 =>
            cnd s29.1 (
              idxP s29.2 c26.len (
                onSome c26.a fun A38 =>
                ldP (.int .u8) (A38.add (Int.toNat s29.2 * 1)) w33.drew fun x39 =>
                idxP s29.2 s7.len (
                  onSome s7.a fun A40 =>
                  ldP (.int .u8) (A40.add (Int.toNat s29.2 * 1)) w33.drew fun x41 =>
                  again28 ((x39 == x41), (w64 (s29.2 + 1))) w33.drew))) (
              again28 (false, (w64 (s29.2 + 1))) w33.drew))) (
            newP (.cells #[(.string (⟨#[]⟩ : ByteArray)), (.int .i64 0), (.int .i64 0), (.int .i64 0), (.slice none 0 0)] 30) w30 fun b42 w43 =>
            stN ⟨b42, 0, none⟩ [(.string (⟨#[47]⟩ : ByteArray)), (.int .i64 1), (.int .i64 2), (.int .i64 1), (.slice none 0 0)] w43 fun w44 =>
            newP (.cells #[(.string (⟨#[]⟩ : ByteArray)), (.int .i64 0), (.int .i64 0), (.int .i64 0), (.slice none 0 0)] 30) w44 fun b45 w46 =>
            stN ⟨b45, 0, none⟩ [(.string (⟨#[47, 102]⟩ : ByteArray)), (.int .i64 5), (.int .i64 1), (.int .i64 1), (.slice c26.a c26.len c26.cap)] w46 fun w47 =>
            joinP (σ := Tup [.one .bool]) (fun J48 =>
              ldA [.str, .int .i64, .int .i64, .int .i64, .slice] ⟨b42, 0, none⟩ w47 fun c51 =>
              ldA [.str, .int .i64, .int .i64, .int .i64, .slice] ⟨b45, 0, none⟩ w47 fun c52 =>
              newP (.cells #[(.string c51.1), (.int .i64 c51.2.1), (.int .i64 c51.2.2.1), (.int .i64 c51.2.2.2.1), (.slice c51.2.2.2.2.a c51.2.2.2.2.len c51.2.2.2.2.cap), (.string c52.1), (.int .i64 c52.2.1), (.int .i64 c52.2.2.1), (.int .i64 c52.2.2.2.1), (.slice c52.2.2.2.2.a c52.2.2.2.2.len c52.2.2.2.2.cap)] 30) w47 fun b53 w54 =>
              may_History_Allows_13 r8 ⟨(some ⟨b53, 0, none⟩), 2, 2⟩ w54 fun r55 w56 =>
              cnd (!sync) (
                cnd (!(r55 == true)) (
                  J48 true w56) (
                  ldA [.str, .int .i64, .int .i64, .int .i64, .slice] ⟨b42, 0, none⟩ w56 fun c57 =>
                  newP (.cells #[(.string c57.1), (.int .i64 c57.2.1), (.int .i64 c57.2.2.1), (.int .i64 c57.2.2.2.1), (.slice c57.2.2.2.2.a c57.2.2.2.2.len c57.2.2.2.2.cap)] 30) w56 fun b58 w59 =>
                  may_History_Allows_13 r8 ⟨(some ⟨b58, 0, none⟩), 1, 1⟩ w59 fun r60 w61 =>
                  J48 r60 w61)) (
                cnd (!(r55 == s29.1)) (
                  J48 true w56) (
                  ldA [.str, .int .i64, .int .i64, .int .i64, .slice] ⟨b42, 0, none⟩ w56 fun c62 =>
                  newP (.cells #[(.string c62.1), (.int .i64 c62.2.1), (.int .i64 c62.2.2.1), (.int .i64 c62.2.2.2.1), (.slice c62.2.2.2.2.a c62.2.2.2.2.len c62.2.2.2.2.cap)] 30) w56 fun b63 w64 =>
                  may_History_Allows_13 r8 ⟨(some ⟨b63, 0, none⟩), 1, 1⟩ w64 fun r65 w66 =>
                  J48 r65 w66))) (fun s49 w50 =>
            cnd s49 (
              K false w50) (
              runP Tryz.prog (Builtin.append_ #[22, 22] 22 #[(.slice none 0 0), (.slice s7.a s7.len s7.cap)]) [.one .slice] w50 fun c67 w68 =>
              newP (.cells #[(.int .u8 1)] 5) w68 fun b69 w70 =>
              runP Tryz.prog (Builtin.append_ #[22, 22] 22 #[(.slice c67.a c67.len c67.cap), (.slice (some ⟨b69, 0, none⟩) 1 1)]) [.one .slice] w70 fun c71 w72 =>
              stP ⟨b45, 4, none⟩ (.slice c71.a c71.len c71.cap) w72 fun w73 =>
              ldA [.str, .int .i64, .int .i64, .int .i64, .slice] ⟨b45, 0, none⟩ w73 fun c74 =>
              newP (.cells #[(.string (⟨#[]⟩ : ByteArray)), (.int .i64 0), (.int .i64 0), (.int .i64 0), (.slice none 0 0)] 30) w73 fun b75 w76 =>
              stN ⟨b75, 0, none⟩ [(.string c74.1), (.int .i64 c74.2.1), (.int .i64 c74.2.2.1), (.int .i64 c74.2.2.2.1), (.slice c74.2.2.2.2.a c74.2.2.2.2.len c74.2.2.2.2.cap)] w76 fun w77 =>
              slcP s7 0 (some (w64 ((minI (a.len : Int) (b.len : Int)) - 1))) 1 fun s78 =>
              runP Tryz.prog (Builtin.append_ #[22, 22] 22 #[(.slice none 0 0), (.slice s78.a s78.len s78.cap)]) [.one .slice] w77 fun c79 w80 =>
              stP ⟨b75, 4, none⟩ (.slice c79.a c79.len c79.cap) w80 fun w81 =>
              ldA [.str, .int .i64, .int .i64, .int .i64, .slice] ⟨b42, 0, none⟩ w81 fun c82 =>
              ldA [.str, .int .i64, .int .i64, .int .i64, .slice] ⟨b45, 0, none⟩ w81 fun c83 =>
              newP (.cells #[(.string c82.1), (.int .i64 c82.2.1), (.int .i64 c82.2.2.1), (.int .i64 c82.2.2.2.1), (.slice c82.2.2.2.2.a c82.2.2.2.2.len c82.2.2.2.2.cap), (.string c83.1), (.int .i64 c83.2.1), (.int .i64 c83.2.2.1), (.int .i64 c83.2.2.2.1), (.slice c83.2.2.2.2.a c83.2.2.2.2.len c83.2.2.2.2.cap)] 30) w81 fun b84 w85 =>
              may_History_Allows_13 r8 ⟨(some ⟨b84, 0, none⟩), 2, 2⟩ w85 fun r86 w87 =>
              cnd (!r86) (
                ldA [.str, .int .i64, .int .i64, .int .i64, .slice] ⟨b42, 0, none⟩ w87 fun c88 =>
                ldA [.str, .int .i64, .int .i64, .int .i64, .slice] ⟨b75, 0, none⟩ w87 fun c89 =>
                newP (.cells #[(.string c88.1), (.int .i64 c88.2.1), (.int .i64 c88.2.2.1), (.int .i64 c88.2.2.2.1), (.slice c88.2.2.2.2.a c88.2.2.2.2.len c88.2.2.2.2.cap), (.string c89.1), (.int .i64 c89.2.1), (.int .i64 c89.2.2.1), (.int .i64 c89.2.2.2.1), (.slice c89.2.2.2.2.a c89.2.2.2.2.len c89.2.2.2.2.cap)] 30) w87 fun b90 w91 =>
                may_History_Allows_13 r8 ⟨(some ⟨b90, 0, none⟩), 2, 2⟩ w91 fun r92 w93 =>
                cnd (!r92) (
                  purlinlaw24_awake_10  w93 fun r94 w95 =>
                  K r94 w95) (
                  K false w93)) (
                K false w87))))) (true, 0) w27))))))
def an3 : List An := [
  .reg ⟨[], .done, []⟩,
  .reg ⟨[], .done, []⟩,
  .join [(27, .one .bool)] [22, 23, 24, 25, 26],
  .reg ⟨[], .done, []⟩,
  .nop,
  .reg ⟨[(0, [.one .bool])], .done, []⟩,
  .reg ⟨[], (.nop 0 0 (.nop 1 0 (.nop 2 3 (.nop 3 0 (.nop 4 0 (.nop 5 24 (.bar 6 7 (.bar 7 127 .done .none) .none))))))), [6, 7]⟩,
  .reg ⟨[(0, [.one .ptr])], .done, []⟩,
  .join [(63, .one .bool)] [36, 37, 38, 39, 40, 41, 42, 43, 44, 45, 46, 47, 48, 49, 50, 51, 52, 53, 54, 55, 56, 57, 58, 59, 60, 61, 62],
  .reg ⟨[(5, [.one .bool]), (12, [.one .bool]), (18, [.one .bool]), (25, [.one .bool])], .done, []⟩,
  .nop,
  .reg ⟨[], .done, []⟩,
  .join [(70, .one .bool)] [64, 65, 66, 67, 68, 69],
  .reg ⟨[(4, [.one .bool])], .done, []⟩,
  .nop,
  .reg ⟨[], .done, []⟩,
  .reg ⟨[(1, [.one .slice])], .done, []⟩,
  .reg ⟨[], .done, []⟩,
  .reg ⟨[], .done, []⟩,
  .nop,
  .nop,
  .loop [(12, .one .bool), (13, .one (.int .i64))] [73, 74, 75, 76, 77, 78, 79, 80, 81, 82, 83, 84, 85, 86, 87, 88, 89, 90, 91, 92, 93, 94, 95, 96, 97, 98, 99, 100, 101, 102],
  .reg ⟨[], .done, []⟩,
  .nop,
  .nop,
  .reg ⟨[], .done, []⟩,
  .join [] [84, 85, 86, 87, 88, 89, 90],
  .reg ⟨[], .done, []⟩,
  .reg ⟨[], (.nop 0 0 (.nop 1 1 (.nop 2 3 (.nop 3 3 (.nop 4 15 (.nop 5 31 (.nop 6 3 (.nop 7 3 (.nop 8 195 (.nop 9 451 (.nop 10 1023 (.nop 11 2047 (.bar 12 4095 .done .none))))))))))))), [12]⟩,
  .reg ⟨[], .done, []⟩,
  .reg ⟨[], .done, []⟩,
  .reg ⟨[], .done, []⟩,
  .join [(122, .one .bool)] [106, 107, 108, 109, 110, 111, 112, 113, 114, 115, 116, 117, 118, 119, 120, 121],
  .reg ⟨[(4, [.one .bool]), (15, [.one .bool])], .done, []⟩,
  .nop,
  .reg ⟨[], .done, []⟩,
  .reg ⟨[(1, [.one .slice]), (3, [.one .slice])], .done, []⟩,
  .reg ⟨[], .done, []⟩,
  .reg ⟨[(4, [.one .slice])], .done, []⟩,
  .reg ⟨[(4, [.one .bool]), (11, [.one .bool]), (15, [.one .bool])], .done, []⟩]
theorem purlinlaw24_MayFsync_3_of (a : Sl) (b : Sl) (bits : Int) (sync : Bool) (w : World) (K : Tup [.one .bool] → World → Prop) (hF_ : F3 a b bits sync w K) : purlinlaw24_MayFsync_3 a b bits sync w K :=
  call_of_F (l := an3) (args := [Ty.mk (.one .slice) a, Ty.mk (.one .slice) b, Ty.mk (.one (.int .i64)) bits, Ty.mk (.one .bool) sync]) follows tabOk Tryz.func3 (by kernel_rfl) (by kernel_rfl) (by kernel_rfl) hF_

/-- purlin/purlinlaw24.MayRename -/
def F4 (over : Bool) (last : Bool) (w : World) (K : Tup [.one .bool] → World → Prop) : Prop :=
  may_New_11  w fun r1 w2 =>
  joinP (σ := Tup [.one .bool]) (fun J3 =>
    cnd (Option.isNone r1) (
      J3 true w2) (
      purlinlaw24_one_12 r1 (9, 0, 0, 0, 0, (⟨#[47, 100]⟩ : ByteArray), (⟨#[]⟩ : ByteArray), ⟨none, 0, 0⟩) 4 w2 fun r6 w7 =>
      cnd (!r6) (
        J3 true w7) (
        purlinlaw24_one_12 r1 (1, 0, 0, 0, 1, (⟨#[47, 102]⟩ : ByteArray), (⟨#[]⟩ : ByteArray), ⟨none, 0, 0⟩) 5 w7 fun r8 w9 =>
        J3 (!r8) w9))) (fun s4 w5 =>
  cnd s4 (
    K false w5) (
    joinP (σ := Tup [.one .bool]) (fun J10 =>
      cnd over (
        purlinlaw24_one_12 r1 (1, 0, 0, 0, 1, (⟨#[47, 100, 47, 103]⟩ : ByteArray), (⟨#[]⟩ : ByteArray), ⟨none, 0, 0⟩) 6 w5 fun r13 w14 =>
        cnd (!r13) (
          J10 true w14) (
          purlinlaw24_one_12 r1 (21, 0, 0, 0, 0, (⟨#[]⟩ : ByteArray), (⟨#[]⟩ : ByteArray), ⟨none, 0, 0⟩) 0 w14 fun r15 w16 =>
          cnd (!r15) (
            J10 true w16) (
            purlinlaw24_one_12 r1 (15, 0, 0, 0, 0, (⟨#[47, 102]⟩ : ByteArray), (⟨#[47, 100, 47, 103]⟩ : ByteArray), ⟨none, 0, 0⟩) 0 w16 fun r17 w18 =>
            J10 (!r17) w18))) (
        purlinlaw24_one_12 r1 (21, 0, 0, 0, 0, (⟨#[]⟩ : ByteArray), (⟨#[]⟩ : ByteArray), ⟨none, 0, 0⟩) 0 w5 fun r19 w20 =>
        cnd (!r19) (
          J10 true w20) (
          purlinlaw24_one_12 r1 (15, 0, 0, 0, 0, (⟨#[47, 102]⟩ : ByteArray), (⟨#[47, 100, 47, 103]⟩ : ByteArray), ⟨none, 0, 0⟩) 0 w20 fun r21 w22 =>
          J10 (!r21) w22))) (fun s11 w12 =>
    cnd s11 (
      K false w12) (
      joinP (σ := Tup [.one .bool]) (fun J23 =>
        cnd last (
          purlinlaw24_one_12 r1 (21, 0, 0, 0, 0, (⟨#[]⟩ : ByteArray), (⟨#[]⟩ : ByteArray), ⟨none, 0, 0⟩) 0 w12 fun r26 w27 =>
          J23 (!r26) w27) (
          J23 false w12)) (fun s24 w25 =>
      cnd s24 (
        K false w25) (
        newP (.cells #[(.string (⟨#[]⟩ : ByteArray)), (.int .i64 0), (.int .i64 0), (.int .i64 0), (.slice none 0 0)] 30) w25 fun b28 w29 =>
        stN ⟨b28, 0, none⟩ [(.string (⟨#[47]⟩ : ByteArray)), (.int .i64 1), (.int .i64 2), (.int .i64 1), (.slice none 0 0)] w29 fun w30 =>
        newP (.cells #[(.string (⟨#[]⟩ : ByteArray)), (.int .i64 0), (.int .i64 0), (.int .i64 0), (.slice none 0 0)] 30) w30 fun b31 w32 =>
        stN ⟨b31, 0, none⟩ [(.string (⟨#[47, 100]⟩ : ByteArray)), (.int .i64 4), (.int .i64 2), (.int .i64 1), (.slice none 0 0)] w32 fun w33 =>
        newP (.cells #[(.string (⟨#[]⟩ : ByteArray)), (.int .i64 0), (.int .i64 0), (.int .i64 0), (.slice none 0 0)] 30) w33 fun b34 w35 =>
        stN ⟨b34, 0, none⟩ [(.string (⟨#[47, 102]⟩ : ByteArray)), (.int .i64 5), (.int .i64 1), (.int .i64 1), (.slice none 0 0)] w35 fun w36 =>
        newP (.cells #[(.string (⟨#[]⟩ : ByteArray)), (.int .i64 0), (.int .i64 0), (.int .i64 0), (.slice none 0 0)] 30) w36 fun b37 w38 =>
        stN ⟨b37, 0, none⟩ [(.string (⟨#[47, 100, 47, 103]⟩ : ByteArray)), (.int .i64 5), (.int .i64 1), (.int .i64 1), (.slice none 0 0)] w38 fun w39 =>
        newP (.cells #[(.string (⟨#[]⟩ : ByteArray)), (.int .i64 0), (.int .i64 0), (.int .i64 0), (.slice none 0 0)] 30) w39 fun b40 w41 =>
        stN ⟨b40, 0, none⟩ [(.string (⟨#[47, 100, 47, 103]⟩ : ByteArray)), (.int .i64 6), (.int .i64 1), (.int .i64 1), (.slice none 0 0)] w41 fun w42 =>
        joinP (σ := Tup [.one .ptr, .one .ptr]) (fun J43 =>
          ldA [.str, .int .i64, .int .i64, .int .i64, .slice] ⟨b34, 0, none⟩ w42.drew fun c46 =>
          ldA [.str, .int .i64, .int .i64, .int .i64, .slice] ⟨b37, 0, none⟩ w42.drew fun c47 =>
          (
            newP (.cells #[(.string (⟨#[]⟩ : ByteArray)), (.int .i64 0), (.int .i64 0), (.int .i64 0), (.slice none 0 0)] 30) w42.drew fun b48 w49 =>
            (cellsAt w49 ⟨b37, 0, none⟩ [(.string c47.1), (.int .i64 c47.2.1), (.int .i64 c47.2.2.1), (.int .i64 c47.2.2.2.1), (.slice c47.2.2.2.2.a c47.2.2.2.2.len c47.2.2.2.2.cap)]) ∧
            (cellsAt w49 ⟨b34, 0, none⟩ [(.string c46.1), (.int .i64 c46.2.1), (.int .i64 c46.2.2.1), (.int .i64 c46.2.2.2.1), (.slice c46.2.2.2.2.a c46.2.2.2.2.len c46.2.2.2.2.cap)]) ∧
            newP (.cells #[(.string (⟨#[]⟩ : ByteArray)), (.int .i64 0), (.int .i64 0), (.int .i64 0), (.slice none 0 0)] 30) w49 fun b50 w51 =>
            (cellsAt w51 ⟨b37, 0, none⟩ [(.string c47.1), (.int .i64 c47.2.1), (.int .i64 c47.2.2.1), (.int .i64 c47.2.2.2.1), (.slice c47.2.2.2.2.a c47.2.2.2.2.len c47.2.2.2.2.cap)]) ∧
            (cellsAt w51 ⟨b34, 0, none⟩ [(.string c46.1), (.int .i64 c46.2.1), (.int .i64 c46.2.2.1), (.int .i64 c46.2.2.2.1), (.slice c46.2.2.2.2.a c46.2.2.2.2.len c46.2.2.2.2.cap)]) ∧
            stN ⟨b48, 0, none⟩ [(.string c46.1), (.int .i64 c46.2.1), (.int .i64 c46.2.2.1), (.int .i64 c46.2.2.2.1), (.slice c46.2.2.2.2.a c46.2.2.2.2.len c46.2.2.2.2.cap)] w51 fun w52 =>
            (cellsAt w52 ⟨b37, 0, none⟩ [(.string c47.1), (.int .i64 c47.2.1), (.int .i64 c47.2.2.1), (.int .i64 c47.2.2.2.1), (.slice c47.2.2.2.2.a c47.2.2.2.2.len c47.2.2.2.2.cap)]) ∧
            stN ⟨b50, 0, none⟩ [(.string c47.1), (.int .i64 c47.2.1), (.int .i64 c47.2.2.1), (.int .i64 c47.2.2.2.1), (.slice c47.2.2.2.2.a c47.2.2.2.2.len c47.2.2.2.2.cap)] w52 fun w53 =>
            J43 ((some ⟨b48, 0, none⟩), (some ⟨b50, 0, none⟩)) w53) ∧
          newP (.cells #[(.string (⟨#[]⟩ : ByteArray)), (.int .i64 0), (.int .i64 0), (.int .i64 0), (.slice none 0 0)] 30) w42.drew fun b54 w55 =>
          (cellsAt w55 ⟨b37, 0, none⟩ [(.string c47.1), (.int .i64 c47.2.1), (.int .i64 c47.2.2.1), (.int .i64 c47.2.2.2.1), (.slice c47.2.2.2.2.a c47.2.2.2.2.len c47.2.2.2.2.cap)]) ∧
          (cellsAt w55 ⟨b34, 0, none⟩ [(.string c46.1), (.int .i64 c46.2.1), (.int .i64 c46.2.2.1), (.int .i64 c46.2.2.2.1), (.slice c46.2.2.2.2.a c46.2.2.2.2.len c46.2.2.2.2.cap)]) ∧
          newP (.cells #[(.string (⟨#[]⟩ : ByteArray)), (.int .i64 0), (.int .i64 0), (.int .i64 0), (.slice none 0 0)] 30) w55 fun b56 w57 =>
          (cellsAt w57 ⟨b37, 0, none⟩ [(.string c47.1), (.int .i64 c47.2.1), (.int .i64 c47.2.2.1), (.int .i64 c47.2.2.2.1), (.slice c47.2.2.2.2.a c47.2.2.2.2.len c47.2.2.2.2.cap)]) ∧
          (cellsAt w57 ⟨b34, 0, none⟩ [(.string c46.1), (.int .i64 c46.2.1), (.int .i64 c46.2.2.1), (.int .i64 c46.2.2.2.1), (.slice c46.2.2.2.2.a c46.2.2.2.2.len c46.2.2.2.2.cap)]) ∧
          stN ⟨b56, 0, none⟩ [(.string c46.1), (.int .i64 c46.2.1), (.int .i64 c46.2.2.1), (.int .i64 c46.2.2.2.1), (.slice c46.2.2.2.2.a c46.2.2.2.2.len c46.2.2.2.2.cap)] w57 fun w58 =>
          (cellsAt w58 ⟨b37, 0, none⟩ [(.string c47.1), (.int .i64 c47.2.1), (.int .i64 c47.2.2.1), (.int .i64 c47.2.2.2.1), (.slice c47.2.2.2.2.a c47.2.2.2.2.len c47.2.2.2.2.cap)]) ∧
          stN ⟨b54, 0, none⟩ [(.string c47.1), (.int .i64 c47.2.1), (.int .i64 c47.2.2.1), (.int .i64 c47.2.2.2.1), (.slice c47.2.2.2.2.a c47.2.2.2.2.len c47.2.2.2.2.cap)] w58 fun w59 =>
          J43 ((some ⟨b56, 0, none⟩), (some ⟨b54, 0, none⟩)) w59) (fun s44 w45 =>
        onSome s44.1 fun A60 =>
        stP (A60.add 3) (.int .i64 2) w45 fun w61 =>
        onSome s44.2 fun A62 =>
        stP (A62.add 3) (.int .i64 2) w61 fun w63 =>
        joinP (σ := Tup [.one .bool]) (fun J64 =>
          ldA [.str, .int .i64, .int .i64, .int .i64, .slice] ⟨b28, 0, none⟩ w63 fun c67 =>
          ldA [.str, .int .i64, .int .i64, .int .i64, .slice] ⟨b31, 0, none⟩ w63 fun c68 =>
          ldA [.str, .int .i64, .int .i64, .int .i64, .slice] ⟨b37, 0, none⟩ w63 fun c69 =>
          newP (.cells #[(.string c67.1), (.int .i64 c67.2.1), (.int .i64 c67.2.2.1), (.int .i64 c67.2.2.2.1), (.slice c67.2.2.2.2.a c67.2.2.2.2.len c67.2.2.2.2.cap), (.string c68.1), (.int .i64 c68.2.1), (.int .i64 c68.2.2.1), (.int .i64 c68.2.2.2.1), (.slice c68.2.2.2.2.a c68.2.2.2.2.len c68.2.2.2.2.cap), (.string c69.1), (.int .i64 c69.2.1), (.int .i64 c69.2.2.1), (.int .i64 c69.2.2.2.1), (.slice c69.2.2.2.2.a c69.2.2.2.2.len c69.2.2.2.2.cap)] 30) w63 fun b70 w71 =>
          may_History_Allows_13 r1 ⟨(some ⟨b70, 0, none⟩), 3, 3⟩ w71 fun r72 w73 =>
          cnd (!r72) (
            J64 true w73) (
            ldA [.str, .int .i64, .int .i64, .int .i64, .slice] ⟨b28, 0, none⟩ w73 fun c74 =>
            ldA [.str, .int .i64, .int .i64, .int .i64, .slice] ⟨b31, 0, none⟩ w73 fun c75 =>
            newP (.cells #[(.string c74.1), (.int .i64 c74.2.1), (.int .i64 c74.2.2.1), (.int .i64 c74.2.2.2.1), (.slice c74.2.2.2.2.a c74.2.2.2.2.len c74.2.2.2.2.cap), (.string c75.1), (.int .i64 c75.2.1), (.int .i64 c75.2.2.1), (.int .i64 c75.2.2.2.1), (.slice c75.2.2.2.2.a c75.2.2.2.2.len c75.2.2.2.2.cap)] 30) w73 fun b76 w77 =>
            may_History_Allows_13 r1 ⟨(some ⟨b76, 0, none⟩), 2, 2⟩ w77 fun r78 w79 =>
            cnd r78 (
              J64 true w79) (
              ldA [.str, .int .i64, .int .i64, .int .i64, .slice] ⟨b28, 0, none⟩ w79 fun c80 =>
              ldA [.str, .int .i64, .int .i64, .int .i64, .slice] ⟨b37, 0, none⟩ w79 fun c81 =>
              newP (.cells #[(.string c80.1), (.int .i64 c80.2.1), (.int .i64 c80.2.2.1), (.int .i64 c80.2.2.2.1), (.slice c80.2.2.2.2.a c80.2.2.2.2.len c80.2.2.2.2.cap), (.string c81.1), (.int .i64 c81.2.1), (.int .i64 c81.2.2.1), (.int .i64 c81.2.2.2.1), (.slice c81.2.2.2.2.a c81.2.2.2.2.len c81.2.2.2.2.cap)] 30) w79 fun b82 w83 =>
              may_History_Allows_13 r1 ⟨(some ⟨b82, 0, none⟩), 2, 2⟩ w83 fun r84 w85 =>
              cnd r84 (
                J64 true w85) (
                ldA [.str, .int .i64, .int .i64, .int .i64, .slice] ⟨b28, 0, none⟩ w85 fun c86 =>
                ldA [.str, .int .i64, .int .i64, .int .i64, .slice] ⟨b31, 0, none⟩ w85 fun c87 =>
                onSome s44.1 fun A88 =>
                ldA [.str, .int .i64, .int .i64, .int .i64, .slice] A88 w85 fun c89 =>
                onSome s44.2 fun A90 =>
                ldA [.str, .int .i64, .int .i64, .int .i64, .slice] A90 w85 fun c91 =>
                newP (.cells #[(.string c86.1), (.int .i64 c86.2.1), (.int .i64 c86.2.2.1), (.int .i64 c86.2.2.2.1), (.slice c86.2.2.2.2.a c86.2.2.2.2.len c86.2.2.2.2.cap), (.string c87.1), (.int .i64 c87.2.1), (.int .i64 c87.2.2.1), (.int .i64 c87.2.2.2.1), (.slice c87.2.2.2.2.a c87.2.2.2.2.len c87.2.2.2.2.cap), (.string c89.1), (.int .i64 c89.2.1), (.int .i64 c89.2.2.1), (.int .i64 c89.2.2.2.1), (.slice c89.2.2.2.2.a c89.2.2.2.2.len c89.2.2.2.2.cap), (.string c91.1), (.int .i64 c91.2.1), (.int .i64 c91.2.2.1), (.int .i64 c91.2.2.2.1), (.slice c91.2.2.2.2.a c91.2.2.2.2.len c91.2.2.2.2.cap)] 30) w85 fun b92 w93 =>
                may_History_Allows_13 r1 ⟨(some ⟨b92, 0, none⟩), 4, 4⟩ w93 fun r94 w95 =>
                J64 r94 w95)))) (fun s65 w66 =>
        cnd s65 (
          K false w66) (
          ldA [.str, .int .i64, .int .i64, .int .i64, .slice] ⟨b28, 0, none⟩ w66 fun c96 =>
          ldA [.str, .int .i64, .int .i64, .int .i64, .slice] ⟨b31, 0, none⟩ w66 fun c97 =>
          ldA [.str, .int .i64, .int .i64, .int .i64, .slice] ⟨b34, 0, none⟩ w66 fun c98 =>
          newP (.cells #[(.string c96.1), (.int .i64 c96.2.1), (.int .i64 c96.2.2.1), (.int .i64 c96.2.2.2.1), (.slice c96.2.2.2.2.a c96.2.2.2.2.len c96.2.2.2.2.cap), (.string c97.1), (.int .i64 c97.2.1), (.int .i64 c97.2.2.1), (.int .i64 c97.2.2.2.1), (.slice c97.2.2.2.2.a c97.2.2.2.2.len c97.2.2.2.2.cap), (.string c98.1), (.int .i64 c98.2.1), (.int .i64 c98.2.2.1), (.int .i64 c98.2.2.2.1), (.slice c98.2.2.2.2.a c98.2.2.2.2.len c98.2.2.2.2.cap)] 30) w66 fun b99 w100 =>
          may_History_Allows_13 r1 ⟨(some ⟨b99, 0, none⟩), 3, 3⟩ w100 fun r101 w102 =>
          cnd (!over) (
            cnd (r101 == (!last)) (
              ldA [.str, .int .i64, .int .i64, .int .i64, .slice] ⟨b28, 0, none⟩ w102 fun c103 =>
              ldA [.str, .int .i64, .int .i64, .int .i64, .slice] ⟨b31, 0, none⟩ w102 fun c104 =>
              ldA [.str, .int .i64, .int .i64, .int .i64, .slice] ⟨b34, 0, none⟩ w102 fun c105 =>
              ldA [.str, .int .i64, .int .i64, .int .i64, .slice] ⟨b40, 0, none⟩ w102 fun c106 =>
              newP (.cells #[(.string c103.1), (.int .i64 c103.2.1), (.int .i64 c103.2.2.1), (.int .i64 c103.2.2.2.1), (.slice c103.2.2.2.2.a c103.2.2.2.2.len c103.2.2.2.2.cap), (.string c104.1), (.int .i64 c104.2.1), (.int .i64 c104.2.2.1), (.int .i64 c104.2.2.2.1), (.slice c104.2.2.2.2.a c104.2.2.2.2.len c104.2.2.2.2.cap), (.string c105.1), (.int .i64 c105.2.1), (.int .i64 c105.2.2.1), (.int .i64 c105.2.2.2.1), (.slice c105.2.2.2.2.a c105.2.2.2.2.len c105.2.2.2.2.cap), (.string c106.1), (.int .i64 c106.2.1), (.int .i64 c106.2.2.1), (.int .i64 c106.2.2.2.1), (.slice c106.2.2.2.2.a c106.2.2.2.2.len c106.2.2.2.2.cap)] 30) w102 fun b107 w108 =>
              may_History_Allows_13 r1 ⟨(some ⟨b107, 0, none⟩), 4, 4⟩ w108 fun r109 w110 =>
              cnd over (
                cnd (r109 == (!last)) (
                  ldA [.str, .int .i64, .int .i64, .int .i64, .slice] ⟨b28, 0, none⟩ w110 fun c111 =>
                  ldA [.str, .int .i64, .int .i64, .int .i64, .slice] ⟨b31, 0, none⟩ w110 fun c112 =>
                  ldA [.str, .int .i64, .int .i64, .int .i64, .slice] ⟨b40, 0, none⟩ w110 fun c113 =>
                  newP (.cells #[(.string c111.1), (.int .i64 c111.2.1), (.int .i64 c111.2.2.1), (.int .i64 c111.2.2.2.1), (.slice c111.2.2.2.2.a c111.2.2.2.2.len c111.2.2.2.2.cap), (.string c112.1), (.int .i64 c112.2.1), (.int .i64 c112.2.2.1), (.int .i64 c112.2.2.2.1), (.slice c112.2.2.2.2.a c112.2.2.2.2.len c112.2.2.2.2.cap), (.string c113.1), (.int .i64 c113.2.1), (.int .i64 c113.2.2.1), (.int .i64 c113.2.2.2.1), (.slice c113.2.2.2.2.a c113.2.2.2.2.len c113.2.2.2.2.cap)] 30) w110 fun b114 w115 =>
                  may_History_Allows_13 r1 ⟨(some ⟨b114, 0, none⟩), 3, 3⟩ w115 fun r116 w117 =>
                  cnd (!r116) (
                    purlinlaw24_awake_10  w117 fun r118 w119 =>
                    K r118 w119) (
                    K false w117)) (
                  K false w110)) (
                cnd (r109 == false) (
                  ldA [.str, .int .i64, .int .i64, .int .i64, .slice] ⟨b28, 0, none⟩ w110 fun c120 =>
                  ldA [.str, .int .i64, .int .i64, .int .i64, .slice] ⟨b31, 0, none⟩ w110 fun c121 =>
                  ldA [.str, .int .i64, .int .i64, .int .i64, .slice] ⟨b40, 0, none⟩ w110 fun c122 =>
                  newP (.cells #[(.string c120.1), (.int .i64 c120.2.1), (.int .i64 c120.2.2.1), (.int .i64 c120.2.2.2.1), (.slice c120.2.2.2.2.a c120.2.2.2.2.len c120.2.2.2.2.cap), (.string c121.1), (.int .i64 c121.2.1), (.int .i64 c121.2.2.1), (.int .i64 c121.2.2.2.1), (.slice c121.2.2.2.2.a c121.2.2.2.2.len c121.2.2.2.2.cap), (.string c122.1), (.int .i64 c122.2.1), (.int .i64 c122.2.2.1), (.int .i64 c122.2.2.2.1), (.slice c122.2.2.2.2.a c122.2.2.2.2.len c122.2.2.2.2.cap)] 30) w110 fun b123 w124 =>
                  may_History_Allows_13 r1 ⟨(some ⟨b123, 0, none⟩), 3, 3⟩ w124 fun r125 w126 =>
                  cnd (!r125) (
                    purlinlaw24_awake_10  w126 fun r127 w128 =>
                    K r127 w128) (
                    K false w126)) (
                  K false w110))) (
              K false w102)) (
            cnd (r101 == false) (
              ldA [.str, .int .i64, .int .i64, .int .i64, .slice] ⟨b28, 0, none⟩ w102 fun c129 =>
              ldA [.str, .int .i64, .int .i64, .int .i64, .slice] ⟨b31, 0, none⟩ w102 fun c130 =>
              ldA [.str, .int .i64, .int .i64, .int .i64, .slice] ⟨b34, 0, none⟩ w102 fun c131 =>
              ldA [.str, .int .i64, .int .i64, .int .i64, .slice] ⟨b40, 0, none⟩ w102 fun c132 =>
              newP (.cells #[(.string c129.1), (.int .i64 c129.2.1), (.int .i64 c129.2.2.1), (.int .i64 c129.2.2.2.1), (.slice c129.2.2.2.2.a c129.2.2.2.2.len c129.2.2.2.2.cap), (.string c130.1), (.int .i64 c130.2.1), (.int .i64 c130.2.2.1), (.int .i64 c130.2.2.2.1), (.slice c130.2.2.2.2.a c130.2.2.2.2.len c130.2.2.2.2.cap), (.string c131.1), (.int .i64 c131.2.1), (.int .i64 c131.2.2.1), (.int .i64 c131.2.2.2.1), (.slice c131.2.2.2.2.a c131.2.2.2.2.len c131.2.2.2.2.cap), (.string c132.1), (.int .i64 c132.2.1), (.int .i64 c132.2.2.1), (.int .i64 c132.2.2.2.1), (.slice c132.2.2.2.2.a c132.2.2.2.2.len c132.2.2.2.2.cap)] 30) w102 fun b133 w134 =>
              may_History_Allows_13 r1 ⟨(some ⟨b133, 0, none⟩), 4, 4⟩ w134 fun r135 w136 =>
              cnd over (
                cnd (r135 == (!last)) (
                  ldA [.str, .int .i64, .int .i64, .int .i64, .slice] ⟨b28, 0, none⟩ w136 fun c137 =>
                  ldA [.str, .int .i64, .int .i64, .int .i64, .slice] ⟨b31, 0, none⟩ w136 fun c138 =>
                  ldA [.str, .int .i64, .int .i64, .int .i64, .slice] ⟨b40, 0, none⟩ w136 fun c139 =>
                  newP (.cells #[(.string c137.1), (.int .i64 c137.2.1), (.int .i64 c137.2.2.1), (.int .i64 c137.2.2.2.1), (.slice c137.2.2.2.2.a c137.2.2.2.2.len c137.2.2.2.2.cap), (.string c138.1), (.int .i64 c138.2.1), (.int .i64 c138.2.2.1), (.int .i64 c138.2.2.2.1), (.slice c138.2.2.2.2.a c138.2.2.2.2.len c138.2.2.2.2.cap), (.string c139.1), (.int .i64 c139.2.1), (.int .i64 c139.2.2.1), (.int .i64 c139.2.2.2.1), (.slice c139.2.2.2.2.a c139.2.2.2.2.len c139.2.2.2.2.cap)] 30) w136 fun b140 w141 =>
                  may_History_Allows_13 r1 ⟨(some ⟨b140, 0, none⟩), 3, 3⟩ w141 fun r142 w143 =>
                  cnd (!r142) (
                    purlinlaw24_awake_10  w143 fun r144 w145 =>
                    K r144 w145) (
                    K false w143)) (
                  K false w136)) (
                cnd (r135 == false) (
                  ldA [.str, .int .i64, .int .i64, .int .i64, .slice] ⟨b28, 0, none⟩ w136 fun c146 =>
                  ldA [.str, .int .i64, .int .i64, .int .i64, .slice] ⟨b31, 0, none⟩ w136 fun c147 =>
                  ldA [.str, .int .i64, .int .i64, .int .i64, .slice] ⟨b40, 0, none⟩ w136 fun c148 =>
                  newP (.cells #[(.string c146.1), (.int .i64 c146.2.1), (.int .i64 c146.2.2.1), (.int .i64 c146.2.2.2.1), (.slice c146.2.2.2.2.a c146.2.2.2.2.len c146.2.2.2.2.cap), (.string c147.1), (.int .i64 c147.2.1), (.int .i64 c147.2.2.1), (.int .i64 c147.2.2.2.1), (.slice c147.2.2.2.2.a c147.2.2.2.2.len c147.2.2.2.2.cap), (.string c148.1), (.int .i64 c148.2.1), (.int .i64 c148.2.2.1), (.int .i64 c148.2.2.2.1), (.slice c148.2.2.2.2.a c148.2.2.2.2.len c148.2.2.2.2.cap)] 30) w136 fun b149 w150 =>
                  may_History_Allows_13 r1 ⟨(some ⟨b149, 0, none⟩), 3, 3⟩ w150 fun r151 w152 =>
                  cnd (!r151) (
                    purlinlaw24_awake_10  w152 fun r153 w154 =>
                    K r153 w154) (
                    K false w152)) (
                  K false w136))) (
              K false w102)))))))))))
def an4 : List An := [
  .reg ⟨[], .done, []⟩,
  .reg ⟨[(0, [.one .ptr])], .done, []⟩,
  .join [(27, .one .bool)] [14, 15, 16, 17, 18, 19, 20, 21, 22, 23, 24, 25, 26],
  .reg ⟨[(5, [.one .bool]), (11, [.one .bool])], .done, []⟩,
  .nop,
  .reg ⟨[], .done, []⟩,
  .join [(46, .one .bool)] [28, 29, 30, 31, 32, 33, 34, 35, 36, 37, 38, 39, 40, 41, 42, 43, 44, 45],
  .reg ⟨[(4, [.one .bool]), (10, [.one .bool]), (16, [.one .bool])], .done, []⟩,
  .nop,
  .reg ⟨[], .done, []⟩,
  .join [(53, .one .bool)] [47, 48, 49, 50, 51, 52],
  .reg ⟨[(4, [.one .bool])], .done, []⟩,
  .nop,
  .reg ⟨[], .done, []⟩,
  .reg ⟨[], .done, []⟩,
  .reg ⟨[], .done, []⟩,
  .reg ⟨[], .done, []⟩,
  .reg ⟨[], .done, []⟩,
  .reg ⟨[], .done, []⟩,
  .join [(11, .one .ptr), (12, .one .ptr)] [59, 60],
  .reg ⟨[], (.nop 0 0 (.nop 1 0 (.bar 2 0 (.bar 3 0 (.bar 4 13 (.bar 5 31 .done .none) .none) .none) (.bar 3 0 (.bar 2 0 (.bar 4 13 (.bar 5 31 .done .none) .none) .none) .none)))), []⟩,
  .reg ⟨[], .done, []⟩,
  .join [(92, .one .bool)] [63, 64, 65, 66, 67, 68, 69, 70, 71, 72, 73, 74, 75, 76, 77, 78, 79, 80, 81, 82, 83, 84, 85, 86, 87, 88, 89, 90, 91],
  .reg ⟨[(5, [.one .bool]), (12, [.one .bool]), (19, [.one .bool]), (28, [.one .bool])], .done, []⟩,
  .nop,
  .reg ⟨[], .done, []⟩,
  .reg ⟨[(5, [.one .bool]), (20, [.one .bool]), (34, [.one .bool]), (38, [.one .bool])], .done, []⟩]
theorem purlinlaw24_MayRename_4_of (over : Bool) (last : Bool) (w : World) (K : Tup [.one .bool] → World → Prop) (hF_ : F4 over last w K) : purlinlaw24_MayRename_4 over last w K :=
  call_of_F (l := an4) (args := [Ty.mk (.one .bool) over, Ty.mk (.one .bool) last]) follows tabOk Tryz.func4 (by kernel_rfl) (by kernel_rfl) (by kernel_rfl) hF_

/-- purlin/purlinlaw24.MayUnlink -/
def F5 (two : Bool) (sync : Bool) (w : World) (K : Tup [.one .bool] → World → Prop) : Prop :=
  may_New_11  w fun r1 w2 =>
  joinP (σ := Tup [.one .bool]) (fun J3 =>
    cnd (Option.isNone r1) (
      J3 true w2) (
      purlinlaw24_one_12 r1 (1, 0, 0, 0, 1, (⟨#[47, 102]⟩ : ByteArray), (⟨#[]⟩ : ByteArray), ⟨none, 0, 0⟩) 5 w2 fun r6 w7 =>
      cnd (!r6) (
        J3 true w7) (
        purlinlaw24_one_12 r1 (9, 0, 0, 0, 0, (⟨#[47, 103]⟩ : ByteArray), (⟨#[]⟩ : ByteArray), ⟨none, 0, 0⟩) 6 w7 fun r8 w9 =>
        cnd (!r8) (
          J3 true w9) (
          cnd two (
            purlinlaw24_one_12 r1 (12, 0, 0, 0, 0, (⟨#[47, 102]⟩ : ByteArray), (⟨#[47, 104]⟩ : ByteArray), ⟨none, 0, 0⟩) 0 w9 fun r10 w11 =>
            cnd (!r10) (
              J3 true w11) (
              purlinlaw24_one_12 r1 (21, 0, 0, 0, 0, (⟨#[]⟩ : ByteArray), (⟨#[]⟩ : ByteArray), ⟨none, 0, 0⟩) 0 w11 fun r12 w13 =>
              cnd (!r12) (
                J3 true w13) (
                purlinlaw24_one_12 r1 (11, 0, 0, 0, 0, (⟨#[47, 102]⟩ : ByteArray), (⟨#[]⟩ : ByteArray), ⟨none, 0, 0⟩) 0 w13 fun r14 w15 =>
                J3 (!r14) w15))) (
            purlinlaw24_one_12 r1 (21, 0, 0, 0, 0, (⟨#[]⟩ : ByteArray), (⟨#[]⟩ : ByteArray), ⟨none, 0, 0⟩) 0 w9 fun r16 w17 =>
            cnd (!r16) (
              J3 true w17) (
              purlinlaw24_one_12 r1 (11, 0, 0, 0, 0, (⟨#[47, 102]⟩ : ByteArray), (⟨#[]⟩ : ByteArray), ⟨none, 0, 0⟩) 0 w17 fun r18 w19 =>
              J3 (!r18) w19)))))) (fun s4 w5 =>
  cnd s4 (
    K false w5) (
    joinP (σ := Tup [.one .bool]) (fun J20 =>
      cnd sync (
        purlinlaw24_one_12 r1 (21, 0, 0, 0, 0, (⟨#[]⟩ : ByteArray), (⟨#[]⟩ : ByteArray), ⟨none, 0, 0⟩) 0 w5 fun r23 w24 =>
        J20 (!r23) w24) (
        J20 false w5)) (fun s21 w22 =>
    cnd s21 (
      K false w22) (
      newP (.cells #[(.string (⟨#[]⟩ : ByteArray)), (.int .i64 0), (.int .i64 0), (.int .i64 0), (.slice none 0 0)] 30) w22 fun b25 w26 =>
      stN ⟨b25, 0, none⟩ [(.string (⟨#[47]⟩ : ByteArray)), (.int .i64 1), (.int .i64 2), (.int .i64 1), (.slice none 0 0)] w26 fun w27 =>
      newP (.cells #[(.string (⟨#[]⟩ : ByteArray)), (.int .i64 0), (.int .i64 0), (.int .i64 0), (.slice none 0 0)] 30) w27 fun b28 w29 =>
      stN ⟨b28, 0, none⟩ [(.string (⟨#[47, 103]⟩ : ByteArray)), (.int .i64 6), (.int .i64 2), (.int .i64 1), (.slice none 0 0)] w29 fun w30 =>
      newP (.cells #[(.string (⟨#[]⟩ : ByteArray)), (.int .i64 0), (.int .i64 0), (.int .i64 0), (.slice none 0 0)] 30) w30 fun b31 w32 =>
      stN ⟨b31, 0, none⟩ [(.string (⟨#[47, 102]⟩ : ByteArray)), (.int .i64 5), (.int .i64 1), (.int .i64 1), (.slice none 0 0)] w32 fun w33 =>
      newP (.cells #[(.string (⟨#[]⟩ : ByteArray)), (.int .i64 0), (.int .i64 0), (.int .i64 0), (.slice none 0 0)] 30) w33 fun b34 w35 =>
      stN ⟨b34, 0, none⟩ [(.string (⟨#[47, 104]⟩ : ByteArray)), (.int .i64 5), (.int .i64 1), (.int .i64 1), (.slice none 0 0)] w35 fun w36 =>
      cnd two (
        stP ⟨b31, 3, none⟩ (.int .i64 2) w36 fun w37 =>
        ldA [.str, .int .i64, .int .i64, .int .i64, .slice] ⟨b34, 0, none⟩ w37 fun c38 =>
        newP (.cells #[(.string (⟨#[]⟩ : ByteArray)), (.int .i64 0), (.int .i64 0), (.int .i64 0), (.slice none 0 0)] 30) w37 fun b39 w40 =>
        stN ⟨b39, 0, none⟩ [(.string c38.1), (.int .i64 c38.2.1), (.int .i64 c38.2.2.1), (.int .i64 c38.2.2.2.1), (.slice c38.2.2.2.2.a c38.2.2.2.2.len c38.2.2.2.2.cap)] w40 fun w41 =>
        stP ⟨b39, 3, none⟩ (.int .i64 2) w41 fun w42 =>
        ldA [.str, .int .i64, .int .i64, .int .i64, .slice] ⟨b25, 0, none⟩ w42 fun c43 =>
        ldA [.str, .int .i64, .int .i64, .int .i64, .slice] ⟨b28, 0, none⟩ w42 fun c44 =>
        ldA [.str, .int .i64, .int .i64, .int .i64, .slice] ⟨b34, 0, none⟩ w42 fun c45 =>
        newP (.cells #[(.string c43.1), (.int .i64 c43.2.1), (.int .i64 c43.2.2.1), (.int .i64 c43.2.2.2.1), (.slice c43.2.2.2.2.a c43.2.2.2.2.len c43.2.2.2.2.cap), (.string c44.1), (.int .i64 c44.2.1), (.int .i64 c44.2.2.1), (.int .i64 c44.2.2.2.1), (.slice c44.2.2.2.2.a c44.2.2.2.2.len c44.2.2.2.2.cap), (.string c45.1), (.int .i64 c45.2.1), (.int .i64 c45.2.2.1), (.int .i64 c45.2.2.2.1), (.slice c45.2.2.2.2.a c45.2.2.2.2.len c45.2.2.2.2.cap)] 30) w42 fun b46 w47 =>
        may_History_Allows_13 r1 ⟨(some ⟨b46, 0, none⟩), 3, 3⟩ w47 fun r48 w49 =>
        cnd r48 (
          ldA [.str, .int .i64, .int .i64, .int .i64, .slice] ⟨b25, 0, none⟩ w49 fun c50 =>
          ldA [.str, .int .i64, .int .i64, .int .i64, .slice] ⟨b28, 0, none⟩ w49 fun c51 =>
          ldA [.str, .int .i64, .int .i64, .int .i64, .slice] ⟨b31, 0, none⟩ w49 fun c52 =>
          ldA [.str, .int .i64, .int .i64, .int .i64, .slice] ⟨b39, 0, none⟩ w49 fun c53 =>
          newP (.cells #[(.string c50.1), (.int .i64 c50.2.1), (.int .i64 c50.2.2.1), (.int .i64 c50.2.2.2.1), (.slice c50.2.2.2.2.a c50.2.2.2.2.len c50.2.2.2.2.cap), (.string c51.1), (.int .i64 c51.2.1), (.int .i64 c51.2.2.1), (.int .i64 c51.2.2.2.1), (.slice c51.2.2.2.2.a c51.2.2.2.2.len c51.2.2.2.2.cap), (.string c52.1), (.int .i64 c52.2.1), (.int .i64 c52.2.2.1), (.int .i64 c52.2.2.2.1), (.slice c52.2.2.2.2.a c52.2.2.2.2.len c52.2.2.2.2.cap), (.string c53.1), (.int .i64 c53.2.1), (.int .i64 c53.2.2.1), (.int .i64 c53.2.2.2.1), (.slice c53.2.2.2.2.a c53.2.2.2.2.len c53.2.2.2.2.cap)] 30) w49 fun b54 w55 =>
          may_History_Allows_13 r1 ⟨(some ⟨b54, 0, none⟩), 4, 4⟩ w55 fun r56 w57 =>
          cnd (r56 == (!sync)) (
            ldA [.str, .int .i64, .int .i64, .int .i64, .slice] ⟨b25, 0, none⟩ w57 fun c58 =>
            ldA [.str, .int .i64, .int .i64, .int .i64, .slice] ⟨b28, 0, none⟩ w57 fun c59 =>
            newP (.cells #[(.string c58.1), (.int .i64 c58.2.1), (.int .i64 c58.2.2.1), (.int .i64 c58.2.2.2.1), (.slice c58.2.2.2.2.a c58.2.2.2.2.len c58.2.2.2.2.cap), (.string c59.1), (.int .i64 c59.2.1), (.int .i64 c59.2.2.1), (.int .i64 c59.2.2.2.1), (.slice c59.2.2.2.2.a c59.2.2.2.2.len c59.2.2.2.2.cap)] 30) w57 fun b60 w61 =>
            may_History_Allows_13 r1 ⟨(some ⟨b60, 0, none⟩), 2, 2⟩ w61 fun r62 w63 =>
            cnd (!r62) (
              ldA [.str, .int .i64, .int .i64, .int .i64, .slice] ⟨b25, 0, none⟩ w63 fun c64 =>
              ldA [.str, .int .i64, .int .i64, .int .i64, .slice] ⟨b34, 0, none⟩ w63 fun c65 =>
              newP (.cells #[(.string c64.1), (.int .i64 c64.2.1), (.int .i64 c64.2.2.1), (.int .i64 c64.2.2.2.1), (.slice c64.2.2.2.2.a c64.2.2.2.2.len c64.2.2.2.2.cap), (.string c65.1), (.int .i64 c65.2.1), (.int .i64 c65.2.2.1), (.int .i64 c65.2.2.2.1), (.slice c65.2.2.2.2.a c65.2.2.2.2.len c65.2.2.2.2.cap)] 30) w63 fun b66 w67 =>
              may_History_Allows_13 r1 ⟨(some ⟨b66, 0, none⟩), 2, 2⟩ w67 fun r68 w69 =>
              cnd (!r68) (
                purlinlaw24_awake_10  w69 fun r70 w71 =>
                K r70 w71) (
                K false w69)) (
              K false w63)) (
            K false w57)) (
          K false w49)) (
        ldA [.str, .int .i64, .int .i64, .int .i64, .slice] ⟨b25, 0, none⟩ w36 fun c72 =>
        ldA [.str, .int .i64, .int .i64, .int .i64, .slice] ⟨b28, 0, none⟩ w36 fun c73 =>
        newP (.cells #[(.string c72.1), (.int .i64 c72.2.1), (.int .i64 c72.2.2.1), (.int .i64 c72.2.2.2.1), (.slice c72.2.2.2.2.a c72.2.2.2.2.len c72.2.2.2.2.cap), (.string c73.1), (.int .i64 c73.2.1), (.int .i64 c73.2.2.1), (.int .i64 c73.2.2.2.1), (.slice c73.2.2.2.2.a c73.2.2.2.2.len c73.2.2.2.2.cap)] 30) w36 fun b74 w75 =>
        may_History_Allows_13 r1 ⟨(some ⟨b74, 0, none⟩), 2, 2⟩ w75 fun r76 w77 =>
        cnd r76 (
          ldA [.str, .int .i64, .int .i64, .int .i64, .slice] ⟨b25, 0, none⟩ w77 fun c78 =>
          ldA [.str, .int .i64, .int .i64, .int .i64, .slice] ⟨b28, 0, none⟩ w77 fun c79 =>
          ldA [.str, .int .i64, .int .i64, .int .i64, .slice] ⟨b31, 0, none⟩ w77 fun c80 =>
          newP (.cells #[(.string c78.1), (.int .i64 c78.2.1), (.int .i64 c78.2.2.1), (.int .i64 c78.2.2.2.1), (.slice c78.2.2.2.2.a c78.2.2.2.2.len c78.2.2.2.2.cap), (.string c79.1), (.int .i64 c79.2.1), (.int .i64 c79.2.2.1), (.int .i64 c79.2.2.2.1), (.slice c79.2.2.2.2.a c79.2.2.2.2.len c79.2.2.2.2.cap), (.string c80.1), (.int .i64 c80.2.1), (.int .i64 c80.2.2.1), (.int .i64 c80.2.2.2.1), (.slice c80.2.2.2.2.a c80.2.2.2.2.len c80.2.2.2.2.cap)] 30) w77 fun b81 w82 =>
          may_History_Allows_13 r1 ⟨(some ⟨b81, 0, none⟩), 3, 3⟩ w82 fun r83 w84 =>
          cnd (r83 == (!sync)) (
            ldA [.str, .int .i64, .int .i64, .int .i64, .slice] ⟨b25, 0, none⟩ w84 fun c85 =>
            ldA [.str, .int .i64, .int .i64, .int .i64, .slice] ⟨b31, 0, none⟩ w84 fun c86 =>
            newP (.cells #[(.string c85.1), (.int .i64 c85.2.1), (.int .i64 c85.2.2.1), (.int .i64 c85.2.2.2.1), (.slice c85.2.2.2.2.a c85.2.2.2.2.len c85.2.2.2.2.cap), (.string c86.1), (.int .i64 c86.2.1), (.int .i64 c86.2.2.1), (.int .i64 c86.2.2.2.1), (.slice c86.2.2.2.2.a c86.2.2.2.2.len c86.2.2.2.2.cap)] 30) w84 fun b87 w88 =>
            may_History_Allows_13 r1 ⟨(some ⟨b87, 0, none⟩), 2, 2⟩ w88 fun r89 w90 =>
            cnd (!r89) (
              ldA [.str, .int .i64, .int .i64, .int .i64, .slice] ⟨b25, 0, none⟩ w90 fun c91 =>
              ldA [.str, .int .i64, .int .i64, .int .i64, .slice] ⟨b28, 0, none⟩ w90 fun c92 =>
              ldA [.str, .int .i64, .int .i64, .int .i64, .slice] ⟨b34, 0, none⟩ w90 fun c93 =>
              newP (.cells #[(.string c91.1), (.int .i64 c91.2.1), (.int .i64 c91.2.2.1), (.int .i64 c91.2.2.2.1), (.slice c91.2.2.2.2.a c91.2.2.2.2.len c91.2.2.2.2.cap), (.string c92.1), (.int .i64 c92.2.1), (.int .i64 c92.2.2.1), (.int .i64 c92.2.2.2.1), (.slice c92.2.2.2.2.a c92.2.2.2.2.len c92.2.2.2.2.cap), (.string c93.1), (.int .i64 c93.2.1), (.int .i64 c93.2.2.1), (.int .i64 c93.2.2.2.1), (.slice c93.2.2.2.2.a c93.2.2.2.2.len c93.2.2.2.2.cap)] 30) w90 fun b94 w95 =>
              may_History_Allows_13 r1 ⟨(some ⟨b94, 0, none⟩), 3, 3⟩ w95 fun r96 w97 =>
              cnd (!r96) (
                purlinlaw24_awake_10  w97 fun r98 w99 =>
                K r98 w99) (
                K false w97)) (
              K false w90)) (
            K false w84)) (
          K false w77))))))
def an5 : List An := [
  .reg ⟨[], .done, []⟩,
  .reg ⟨[(0, [.one .ptr])], .done, []⟩,
  .join [(46, .one .bool)] [12, 13, 14, 15, 16, 17, 18, 19, 20, 21, 22, 23, 24, 25, 26, 27, 28, 29, 30, 31, 32, 33, 34, 35, 36, 37, 38, 39, 40, 41, 42, 43, 44, 45],
  .reg ⟨[(5, [.one .bool]), (11, [.one .bool]), (19, [.one .bool]), (26, [.one .bool]), (32, [.one .bool])], .done, []⟩,
  .nop,
  .reg ⟨[], .done, []⟩,
  .join [(53, .one .bool)] [47, 48, 49, 50, 51, 52],
  .reg ⟨[(4, [.one .bool])], .done, []⟩,
  .nop,
  .reg ⟨[], .done, []⟩,
  .reg ⟨[], .done, []⟩,
  .reg ⟨[], .done, []⟩,
  .reg ⟨[], .done, []⟩,
  .reg ⟨[], .done, []⟩,
  .reg ⟨[], .done, []⟩,
  .nop,
  .reg ⟨[], .done, []⟩,
  .reg ⟨[], .done, []⟩,
  .reg ⟨[], .done, []⟩,
  .reg ⟨[(5, [.one .bool]), (13, [.one .bool]), (23, [.one .bool]), (31, [.one .bool]), (35, [.one .bool])], .done, []⟩,
  .reg ⟨[(4, [.one .bool]), (11, [.one .bool]), (21, [.one .bool]), (30, [.one .bool]), (34, [.one .bool])], .done, []⟩]
theorem purlinlaw24_MayUnlink_5_of (two : Bool) (sync : Bool) (w : World) (K : Tup [.one .bool] → World → Prop) (hF_ : F5 two sync w K) : purlinlaw24_MayUnlink_5 two sync w K :=
  call_of_F (l := an5) (args := [Ty.mk (.one .bool) two, Ty.mk (.one .bool) sync]) follows tabOk Tryz.func5 (by kernel_rfl) (by kernel_rfl) (by kernel_rfl) hF_

/-- purlin/purlinlaw24.MayGrows -/
def F6 (os : Sl) (w : World) (K : Tup [.one .bool] → World → Prop) : Prop :=
  purlinlaw0_GreatOps_14 os 25 w fun r1 w2 =>
  cnd r1 (
    purlinlaw24_awake_10  w2 fun r3 w4 =>
    K r3 w4) (
    may_New_11  w2 fun r5 w6 =>
    purlinref14_New_15  w6 fun r7 w8 =>
    cnd (Option.isNone r5) (
      K false w8) (
      loopP (σ := Tup [.one .slice, .one (.int .i64)]) (fun again9 s10 w11 =>
        cnd (decide (s10.2 < (os.len : Int))) (
          idxP s10.2 os.len (
            onSome os.a fun A12 =>
            ldA [.int .i64, .int .i64, .int .i64, .int .i64, .int .i64, .str, .str, .slice] (A12.add (Int.toNat s10.2 * 8)) w11 fun c13 =>
            newP (.cells #[(.int .i64 0), (.int .i64 0), (.int .i64 0), (.int .i64 0), (.int .i64 0), (.string (⟨#[]⟩ : ByteArray)), (.string (⟨#[]⟩ : ByteArray)), (.slice none 0 0)] 28) w11 fun b14 w15 =>
            stN ⟨b14, 0, none⟩ [(.int .i64 c13.1), (.int .i64 c13.2.1), (.int .i64 c13.2.2.1), (.int .i64 c13.2.2.2.1), (.int .i64 c13.2.2.2.2.1), (.string c13.2.2.2.2.2.1), (.string c13.2.2.2.2.2.2.1), (.slice c13.2.2.2.2.2.2.2.a c13.2.2.2.2.2.2.2.len c13.2.2.2.2.2.2.2.cap)] w15 fun w16 =>
            ldP (.int .i64) ⟨b14, 0, none⟩ w16 fun x17 =>
            joinP (σ := Tup []) (fun J18 =>
              joinP (σ := Tup [.one .bool]) (fun J21 =>
                cnd (x17 == 19) (
                  J21 (x17 == 19) w16) (
                  joinP (σ := Tup [.one .bool]) (fun J24 =>
                    cnd (x17 == 20) (
                      J24 (x17 == 20) w16) (
                      J24 (x17 == 21) w16)) (fun s25 w26 =>
                  J21 s25 w26))) (fun s22 w23 =>
              cnd s22 (
                again9 (s10.1, (w64 (s10.2 + 1))) w23) (
                joinP (σ := Tup []) (fun J27 =>
                  cnd (x17 == 1) (
                    ldP (.int .i64) ⟨b14, 4, none⟩ w23 fun x30 =>
                    stP ⟨b14, 4, none⟩ (.int .i64 (andNotI .i64 x30 16)) w23 fun w31 =>
                    J27 () w31) (
                    J27 () w23)) (fun _s28 w29 =>
                J18 () w29)))) (fun _s19 w20 =>
            ldA [.int .i64, .int .i64, .int .i64, .int .i64, .int .i64, .str, .str, .slice] ⟨b14, 0, none⟩ w20.drew fun c32 =>
            ldA [.int .i64, .int .i64, .int .i64, .int .i64, .int .i64, .str, .str, .slice] ⟨b14, 0, none⟩ w20.drew fun c33 =>
            purlinref14_Tree_Do_17 r7 (c33.1, c33.2.1, c33.2.2.1, c33.2.2.2.1, c33.2.2.2.2.1, c33.2.2.2.2.2.1, c33.2.2.2.2.2.2.1, c33.2.2.2.2.2.2.2) w20.drew fun r34 w35 =>
            (cellsAt w35 ⟨b14, 0, none⟩ [(.int .i64 c32.1), (.int .i64 c32.2.1), (.int .i64 c32.2.2.1), (.int .i64 c32.2.2.2.1), (.int .i64 c32.2.2.2.2.1), (.string c32.2.2.2.2.2.1), (.string c32.2.2.2.2.2.2.1), (.slice c32.2.2.2.2.2.2.2.a c32.2.2.2.2.2.2.2.len c32.2.2.2.2.2.2.2.cap)]) ∧
            may_History_Did_16 r5 (c32.1, c32.2.1, c32.2.2.1, c32.2.2.2.1, c32.2.2.2.2.1, c32.2.2.2.2.2.1, c32.2.2.2.2.2.2.1, c32.2.2.2.2.2.2.2) r34.1 (w64 (10 + s10.2)) w35 fun r36 w37 =>
            cnd (!r36) (
              K false w37) (
              may_History_Nodes_18 r5 w37 fun r38 w39 =>
              newP (.cells #[(.slice r38.a r38.len r38.cap)] 45) w39 fun b40 w41 =>
              runP Tryz.prog (Builtin.append_ #[38, 38] 38 #[(.slice s10.1.a s10.1.len s10.1.cap), (.slice (some ⟨b40, 0, none⟩) 1 1)]) [.one .slice] w41 fun c42 w43 =>
              loopP (σ := Tup [.one (.int .i64)]) (fun again44 s45 w46 =>
                cnd (decide (s45 < (c42.len : Int))) (
                  idxP s45 c42.len (
                    onSome c42.a fun A47 =>
                    ldP (.slice) (A47.add (Int.toNat s45 * 1)) w46 fun x48 =>
                    may_History_Allows_13 r5 x48 w46 fun r49 w50 =>
                    cnd (!r49) (
                      K false w50) (
                      again44 (w64 (s45 + 1)) w50))) (
                  again9 (c42, (w64 (s10.2 + 1))) w46)) 0 w43)))) (
          cnd (decide ((s10.1.len : Int) ≤ (os.len : Int))) (
            purlinlaw24_awake_10  w11 fun r51 w52 =>
            K r51 w52) (
            K false w11))) (⟨none, 0, 0⟩, 0) w8))
def an6 : List An := [
  .reg ⟨[], .done, []⟩,
  .reg ⟨[(1, [.one .bool])], .done, []⟩,
  .nop,
  .reg ⟨[(0, [.one .bool])], .done, []⟩,
  .reg ⟨[(0, [.one .ptr]), (1, [.one .ptr])], .done, []⟩,
  .reg ⟨[], .done, []⟩,
  .nop,
  .reg ⟨[], .done, []⟩,
  .reg ⟨[], .done, []⟩,
  .reg ⟨[], .done, []⟩,
  .nop,
  .nop,
  .loop [(5, .one .slice), (6, .one (.int .i64))] [2, 7, 8, 16, 17, 18, 19, 20, 21, 22, 23, 24, 25, 26, 27, 28, 29, 30, 31, 32, 33, 34, 35, 36, 37, 38, 39, 40, 41, 42, 43, 44, 45, 46, 47, 48, 49, 50, 51, 52, 53, 54, 55, 56, 57, 58, 59, 60, 61, 62, 63, 64, 65],
  .reg ⟨[], .done, []⟩,
  .nop,
  .nop,
  .reg ⟨[], .done, []⟩,
  .reg ⟨[], .done, []⟩,
  .join [] [28, 29, 30, 31, 32, 33, 34, 35, 36, 37],
  .reg ⟨[], .done, []⟩,
  .join [(28, .one .bool)] [30, 31],
  .reg ⟨[], .done, []⟩,
  .join [(28, .one .bool)] [31],
  .reg ⟨[], .done, []⟩,
  .nop,
  .reg ⟨[], .done, []⟩,
  .join [] [34, 35, 36, 37],
  .reg ⟨[], .done, []⟩,
  .reg ⟨[(4, [.agg [.int .i64, .int .i64, .int .i64, .int .i64, .slice, .slice]]), (8, [.one .bool])], (.nop 0 0 (.nop 1 0 (.nop 2 0 (.nop 3 0 (.nop 6 0 (.nop 7 64 (.bar 4 12 (.nop 5 28 (.bar 8 255 (.nop 9 511 .done) .none)) .none))))))), []⟩,
  .nop,
  .reg ⟨[], .done, []⟩,
  .reg ⟨[(2, [.one .slice]), (4, [.one .slice])], .done, []⟩,
  .reg ⟨[], .done, []⟩,
  .nop,
  .nop,
  .loop [(8, .one (.int .i64))] [2, 53, 54, 55, 56, 57, 58, 59, 60, 61, 62, 63, 64, 65],
  .reg ⟨[], .done, []⟩,
  .nop,
  .nop,
  .reg ⟨[(5, [.one .bool])], .done, []⟩,
  .nop,
  .reg ⟨[], .done, []⟩,
  .reg ⟨[], .done, []⟩,
  .reg ⟨[], .done, []⟩,
  .reg ⟨[(6, [.one .bool])], .done, []⟩]
theorem purlinlaw24_MayGrows_6_of (os : Sl) (w : World) (K : Tup [.one .bool] → World → Prop) (hF_ : F6 os w K) : purlinlaw24_MayGrows_6 os w K :=
  call_of_F (l := an6) (args := [Ty.mk (.one .slice) os]) follows tabOk Tryz.func6 (by kernel_rfl) (by kernel_rfl) (by kernel_rfl) hF_

/-- purlin/purlinlaw24.MayNone -/
def F7 (o : Carr [.int .i64, .int .i64, .int .i64, .int .i64, .int .i64, .str, .str, .slice]) (n : Carr [.str, .int .i64, .int .i64, .int .i64, .slice]) (w : World) (K : Tup [.one .bool] → World → Prop) : Prop :=
  newP (.cells #[(.int .i64 o.1), (.int .i64 o.2.1), (.int .i64 o.2.2.1), (.int .i64 o.2.2.2.1), (.int .i64 o.2.2.2.2.1), (.string o.2.2.2.2.2.1), (.string o.2.2.2.2.2.2.1), (.slice o.2.2.2.2.2.2.2.a o.2.2.2.2.2.2.2.len o.2.2.2.2.2.2.2.cap)] 28) w fun b1 w2 =>
  newP (.cells #[(.string n.1), (.int .i64 n.2.1), (.int .i64 n.2.2.1), (.int .i64 n.2.2.2.1), (.slice n.2.2.2.2.a n.2.2.2.2.len n.2.2.2.2.cap)] 30) w2 fun b3 w4 =>
  joinP (σ := Tup [.one .bool]) (fun J5 =>
    ldA [.int .i64, .int .i64, .int .i64, .int .i64, .int .i64, .str, .str, .slice] ⟨b1, 0, none⟩ w4 fun c8 =>
    purlinlaw0_Great_19 (c8.1, c8.2.1, c8.2.2.1, c8.2.2.2.1, c8.2.2.2.2.1, c8.2.2.2.2.2.1, c8.2.2.2.2.2.2.1, c8.2.2.2.2.2.2.2) w4 fun r9 w10 =>
    cnd r9 (
      J5 true w10) (
      ldP (.str) ⟨b3, 0, none⟩ w10 fun x11 =>
      cnd (decide ((x11.size : Int) > 300)) (
        J5 true w10) (
        ldP (.slice) ⟨b3, 4, none⟩ w10 fun x12 =>
        J5 (decide ((x12.len : Int) > 300)) w10))) (fun s6 w7 =>
  cnd s6 (
    purlinlaw24_awake_10  w7 fun r13 w14 =>
    K r13 w14) (
    ldA [.int .i64, .int .i64, .int .i64, .int .i64, .int .i64, .str, .str, .slice] ⟨b1, 0, none⟩ w7 fun c15 =>
    may_History_Did_16 none (c15.1, c15.2.1, c15.2.2.1, c15.2.2.2.1, c15.2.2.2.2.1, c15.2.2.2.2.2.1, c15.2.2.2.2.2.2.1, c15.2.2.2.2.2.2.2) 0 1 w7 fun r16 w17 =>
    cnd (!r16) (
      ldA [.str, .int .i64, .int .i64, .int .i64, .slice] ⟨b3, 0, none⟩ w17 fun c18 =>
      newP (.cells #[(.string c18.1), (.int .i64 c18.2.1), (.int .i64 c18.2.2.1), (.int .i64 c18.2.2.2.1), (.slice c18.2.2.2.2.a c18.2.2.2.2.len c18.2.2.2.2.cap)] 30) w17 fun b19 w20 =>
      may_History_Allows_13 none ⟨(some ⟨b19, 0, none⟩), 1, 1⟩ w20 fun r21 w22 =>
      cnd (!r21) (
        ldA [.str, .int .i64, .int .i64, .int .i64, .slice] ⟨b3, 0, none⟩ w22 fun c23 =>
        newP (.cells #[(.string c23.1), (.int .i64 c23.2.1), (.int .i64 c23.2.2.1), (.int .i64 c23.2.2.2.1), (.slice c23.2.2.2.2.a c23.2.2.2.2.len c23.2.2.2.2.cap)] 30) w22 fun b24 w25 =>
        may_History_Crashed_20 none ⟨(some ⟨b24, 0, none⟩), 1, 1⟩ w25 fun r26 w27 =>
        cnd (!r26) (
          may_History_Nodes_18 none w27 fun r28 w29 =>
          cnd ((r28.len : Int) == 0) (
            purlinlaw24_awake_10  w29 fun r30 w31 =>
            K r30 w31) (
            K false w29)) (
          K false w27)) (
        K false w22)) (
      K false w17)))
def an7 : List An := [
  .reg ⟨[], .done, []⟩,
  .join [(19, .one .bool)] [6, 7, 8, 9, 10, 11, 12, 13, 14, 15, 16, 17, 18],
  .reg ⟨[(1, [.one .bool])], .done, []⟩,
  .nop,
  .reg ⟨[(0, [.one .bool])], .done, []⟩,
  .reg ⟨[], .done, []⟩,
  .reg ⟨[(2, [.one .bool]), (8, [.one .bool]), (15, [.one .bool]), (20, [.one .slice]), (25, [.one .bool])], .done, []⟩]
theorem purlinlaw24_MayNone_7_of (o : Carr [.int .i64, .int .i64, .int .i64, .int .i64, .int .i64, .str, .str, .slice]) (n : Carr [.str, .int .i64, .int .i64, .int .i64, .slice]) (w : World) (K : Tup [.one .bool] → World → Prop) (hF_ : F7 o n w K) : purlinlaw24_MayNone_7 o n w K :=
  call_of_F (l := an7) (args := [Ty.mk (.agg [.int .i64, .int .i64, .int .i64, .int .i64, .int .i64, .str, .str, .slice]) o, Ty.mk (.agg [.str, .int .i64, .int .i64, .int .i64, .slice]) n]) follows tabOk Tryz.func7 (by kernel_rfl) (by kernel_rfl) (by kernel_rfl) hF_

end Go.Proofs.YtcpoglgnkedpaaaGreatDoor
