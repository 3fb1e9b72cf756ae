/-
  The table of the program's types (printed by vcgen.py).
-/
import Derived.Test.YtcpoglgnkedpaaaGreatDoorVY
import Derived.Test.YtcpoglgnkedpaaaGreatDoorProg
namespace Go.Proofs.YtcpoglgnkedpaaaGreatDoor
open Go Go.Vc Go.Proofs

def ti3 : TI := { ty := .one (.int .i64), size := 1, bytes := 8, zero := (.int .i64 0), sh := .int .i64 }
def ti4 : TI := { ty := .one .bool, size := 1, bytes := 1, zero := (.bool false), sh := .bool }
def ti5 : TI := { ty := .one (.int .u8), size := 1, bytes := 1, zero := (.int .u8 0), sh := .int .u8 }
def ti9 : TI := { ty := .one .str, size := 1, bytes := 16, zero := (.string (⟨#[]⟩ : ByteArray)), sh := .str }
def ti20 : TI := { ty := .one .any, size := 1, bytes := 16, zero := Value.nilIface, sh := .other }
def ti21 : TI := { ty := .one (.int .i32), size := 1, bytes := 4, zero := (.int .i32 0), sh := .int .i32 }
def ti22 : TI := { ty := .one .slice, size := 1, bytes := 24, zero := (.slice none 0 0), sh := .slice 5 }
def ti24 : TI := { ty := .one .ptr, size := 1, bytes := 8, zero := (.pointer none), sh := .ptr 75 }
def ti27 : TI := { ty := .agg [.int .i64, .int .i64, .int .i64, .int .i64, .int .i64, .str, .str, .slice], size := 8, bytes := 96, zero := .agg #[(.int .i64 0), (.int .i64 0), (.int .i64 0), (.int .i64 0), (.int .i64 0), (.string (⟨#[]⟩ : ByteArray)), (.string (⟨#[]⟩ : ByteArray)), (.slice none 0 0)], sh := .struct [(0, 3), (1, 3), (2, 3), (3, 3), (4, 3), (5, 9), (6, 9), (7, 22)] }
def ti28 : TI := { ty := .agg [.int .i64, .int .i64, .int .i64, .int .i64, .int .i64, .str, .str, .slice], size := 8, bytes := 96, zero := .agg #[(.int .i64 0), (.int .i64 0), (.int .i64 0), (.int .i64 0), (.int .i64 0), (.string (⟨#[]⟩ : ByteArray)), (.string (⟨#[]⟩ : ByteArray)), (.slice none 0 0)], sh := .struct [(0, 3), (1, 3), (2, 3), (3, 3), (4, 3), (5, 9), (6, 9), (7, 22)] }
def ti29 : TI := { ty := .agg [.str, .int .i64, .int .i64, .int .i64, .slice], size := 5, bytes := 64, zero := .agg #[(.string (⟨#[]⟩ : ByteArray)), (.int .i64 0), (.int .i64 0), (.int .i64 0), (.slice none 0 0)], sh := .struct [(0, 9), (1, 3), (2, 3), (3, 3), (4, 22)] }
def ti30 : TI := { ty := .agg [.str, .int .i64, .int .i64, .int .i64, .slice], size := 5, bytes := 64, zero := .agg #[(.string (⟨#[]⟩ : ByteArray)), (.int .i64 0), (.int .i64 0), (.int .i64 0), (.slice none 0 0)], sh := .struct [(0, 9), (1, 3), (2, 3), (3, 3), (4, 22)] }
def ti34 : TI := { ty := .one .slice, size := 1, bytes := 24, zero := (.slice none 0 0), sh := .slice 28 }
def ti36 : TI := { ty := .one .ptr, size := 1, bytes := 8, zero := (.pointer none), sh := .ptr 94 }
def ti38 : TI := { ty := .one .slice, size := 1, bytes := 24, zero := (.slice none 0 0), sh := .slice 45 }
def ti40 : TI := { ty := .one (.int .i64), size := 1, bytes := 8, zero := (.int .i64 0), sh := .int .i64 }
def ti41 : TI := { ty := .one .slice, size := 1, bytes := 24, zero := (.slice none 0 0), sh := .slice 9 }
def ti42 : TI := { ty := .agg [.int .i64, .int .i64, .int .i64, .int .i64, .slice, .slice], size := 6, bytes := 80, zero := .agg #[(.int .i64 0), (.int .i64 0), (.int .i64 0), (.int .i64 0), (.slice none 0 0), (.slice none 0 0)], sh := .struct [(0, 40), (1, 3), (2, 3), (3, 3), (4, 22), (5, 41)] }
def ti43 : TI := { ty := .agg [.int .i64, .int .i64, .int .i64, .int .i64, .slice, .slice], size := 6, bytes := 80, zero := .agg #[(.int .i64 0), (.int .i64 0), (.int .i64 0), (.int .i64 0), (.slice none 0 0), (.slice none 0 0)], sh := .struct [(0, 40), (1, 3), (2, 3), (3, 3), (4, 22), (5, 41)] }
def ti45 : TI := { ty := .one .slice, size := 1, bytes := 24, zero := (.slice none 0 0), sh := .slice 30 }
def ti50 : TI := { ty := .one .ptr, size := 1, bytes := 8, zero := (.pointer none), sh := .ptr 59 }
def ti52 : TI := { ty := .one .slice, size := 1, bytes := 24, zero := (.slice none 0 0), sh := .slice 36 }
def ti53 : TI := { ty := .one .slice, size := 1, bytes := 24, zero := (.slice none 0 0), sh := .slice 3 }
def ti54 : TI := { ty := .one .slice, size := 1, bytes := 24, zero := (.slice none 0 0), sh := .slice 257 }
def ti55 : TI := { ty := .agg [.int .i64, .str, .int .i64], size := 3, bytes := 32, zero := .agg #[(.int .i64 0), (.string (⟨#[]⟩ : ByteArray)), (.int .i64 0)], sh := .struct [(0, 3), (1, 9), (2, 3)] }
def ti56 : TI := { ty := .agg [.int .i64, .str, .int .i64], size := 3, bytes := 32, zero := .agg #[(.int .i64 0), (.string (⟨#[]⟩ : ByteArray)), (.int .i64 0)], sh := .struct [(0, 3), (1, 9), (2, 3)] }
def ti57 : TI := { ty := .big, size := 48, bytes := 512, zero := .agg #[(.int .i64 0), (.string (⟨#[]⟩ : ByteArray)), (.int .i64 0), (.int .i64 0), (.string (⟨#[]⟩ : ByteArray)), (.int .i64 0), (.int .i64 0), (.string (⟨#[]⟩ : ByteArray)), (.int .i64 0), (.int .i64 0), (.string (⟨#[]⟩ : ByteArray)), (.int .i64 0), (.int .i64 0), (.string (⟨#[]⟩ : ByteArray)), (.int .i64 0), (.int .i64 0), (.string (⟨#[]⟩ : ByteArray)), (.int .i64 0), (.int .i64 0), (.string (⟨#[]⟩ : ByteArray)), (.int .i64 0), (.int .i64 0), (.string (⟨#[]⟩ : ByteArray)), (.int .i64 0), (.int .i64 0), (.string (⟨#[]⟩ : ByteArray)), (.int .i64 0), (.int .i64 0), (.string (⟨#[]⟩ : ByteArray)), (.int .i64 0), (.int .i64 0), (.string (⟨#[]⟩ : ByteArray)), (.int .i64 0), (.int .i64 0), (.string (⟨#[]⟩ : ByteArray)), (.int .i64 0), (.int .i64 0), (.string (⟨#[]⟩ : ByteArray)), (.int .i64 0), (.int .i64 0), (.string (⟨#[]⟩ : ByteArray)), (.int .i64 0), (.int .i64 0), (.string (⟨#[]⟩ : ByteArray)), (.int .i64 0), (.int .i64 0), (.string (⟨#[]⟩ : ByteArray)), (.int .i64 0)], sh := .array 16 56 }
def ti58 : TI := { ty := .big, size := 55, bytes := 664, zero := .agg #[(.slice none 0 0), (.slice none 0 0), (.int .i64 0), (.slice none 0 0), (.slice none 0 0), (.slice none 0 0), (.slice none 0 0), (.int .i64 0), (.string (⟨#[]⟩ : ByteArray)), (.int .i64 0), (.int .i64 0), (.string (⟨#[]⟩ : ByteArray)), (.int .i64 0), (.int .i64 0), (.string (⟨#[]⟩ : ByteArray)), (.int .i64 0), (.int .i64 0), (.string (⟨#[]⟩ : ByteArray)), (.int .i64 0), (.int .i64 0), (.string (⟨#[]⟩ : ByteArray)), (.int .i64 0), (.int .i64 0), (.string (⟨#[]⟩ : ByteArray)), (.int .i64 0), (.int .i64 0), (.string (⟨#[]⟩ : ByteArray)), (.int .i64 0), (.int .i64 0), (.string (⟨#[]⟩ : ByteArray)), (.int .i64 0), (.int .i64 0), (.string (⟨#[]⟩ : ByteArray)), (.int .i64 0), (.int .i64 0), (.string (⟨#[]⟩ : ByteArray)), (.int .i64 0), (.int .i64 0), (.string (⟨#[]⟩ : ByteArray)), (.int .i64 0), (.int .i64 0), (.string (⟨#[]⟩ : ByteArray)), (.int .i64 0), (.int .i64 0), (.string (⟨#[]⟩ : ByteArray)), (.int .i64 0), (.int .i64 0), (.string (⟨#[]⟩ : ByteArray)), (.int .i64 0), (.int .i64 0), (.string (⟨#[]⟩ : ByteArray)), (.int .i64 0), (.int .i64 0), (.string (⟨#[]⟩ : ByteArray)), (.int .i64 0)], sh := .struct [(0, 52), (1, 53), (2, 3), (3, 53), (4, 54), (5, 53), (6, 53), (7, 57)] }
def ti59 : TI := { ty := .big, size := 55, bytes := 664, zero := .agg #[(.slice none 0 0), (.slice none 0 0), (.int .i64 0), (.slice none 0 0), (.slice none 0 0), (.slice none 0 0), (.slice none 0 0), (.int .i64 0), (.string (⟨#[]⟩ : ByteArray)), (.int .i64 0), (.int .i64 0), (.string (⟨#[]⟩ : ByteArray)), (.int .i64 0), (.int .i64 0), (.string (⟨#[]⟩ : ByteArray)), (.int .i64 0), (.int .i64 0), (.string (⟨#[]⟩ : ByteArray)), (.int .i64 0), (.int .i64 0), (.string (⟨#[]⟩ : ByteArray)), (.int .i64 0), (.int .i64 0), (.string (⟨#[]⟩ : ByteArray)), (.int .i64 0), (.int .i64 0), (.string (⟨#[]⟩ : ByteArray)), (.int .i64 0), (.int .i64 0), (.string (⟨#[]⟩ : ByteArray)), (.int .i64 0), (.int .i64 0), (.string (⟨#[]⟩ : ByteArray)), (.int .i64 0), (.int .i64 0), (.string (⟨#[]⟩ : ByteArray)), (.int .i64 0), (.int .i64 0), (.string (⟨#[]⟩ : ByteArray)), (.int .i64 0), (.int .i64 0), (.string (⟨#[]⟩ : ByteArray)), (.int .i64 0), (.int .i64 0), (.string (⟨#[]⟩ : ByteArray)), (.int .i64 0), (.int .i64 0), (.string (⟨#[]⟩ : ByteArray)), (.int .i64 0), (.int .i64 0), (.string (⟨#[]⟩ : ByteArray)), (.int .i64 0), (.int .i64 0), (.string (⟨#[]⟩ : ByteArray)), (.int .i64 0)], sh := .struct [(0, 52), (1, 53), (2, 3), (3, 53), (4, 54), (5, 53), (6, 53), (7, 57)] }
def ti63 : TI := { ty := .one .ptr, size := 1, bytes := 8, zero := (.pointer none), sh := .ptr 131 }
def ti65 : TI := { ty := .one .map, size := 1, bytes := 8, zero := (.map none), sh := .map 3 3 }
def ti66 : TI := { ty := .one .map, size := 1, bytes := 8, zero := (.map none), sh := .map 9 3 }
def ti70 : TI := { ty := .one .map, size := 1, bytes := 8, zero := (.map none), sh := .map 3 132 }
def ti71 : TI := { ty := .one .map, size := 1, bytes := 8, zero := (.map none), sh := .map 3 82 }
def ti72 : TI := { ty := .one .map, size := 1, bytes := 8, zero := (.map none), sh := .map 77 53 }
def ti73 : TI := { ty := .one .map, size := 1, bytes := 8, zero := (.map none), sh := .map 3 77 }
def ti74 : TI := { ty := .agg [.ptr, .map, .map, .map, .map, .map], size := 6, bytes := 48, zero := .agg #[(.pointer none), (.map none), (.map none), (.map none), (.map none), (.map none)], sh := .struct [(0, 63), (1, 65), (2, 70), (3, 71), (4, 72), (5, 73)] }
def ti75 : TI := { ty := .agg [.ptr, .map, .map, .map, .map, .map], size := 6, bytes := 48, zero := .agg #[(.pointer none), (.map none), (.map none), (.map none), (.map none), (.map none)], sh := .struct [(0, 63), (1, 65), (2, 70), (3, 71), (4, 72), (5, 73)] }
def ti76 : TI := { ty := .agg [.int .i64, .str], size := 2, bytes := 24, zero := .agg #[(.int .i64 0), (.string (⟨#[]⟩ : ByteArray))], sh := .struct [(0, 3), (1, 9)] }
def ti77 : TI := { ty := .agg [.int .i64, .str], size := 2, bytes := 24, zero := .agg #[(.int .i64 0), (.string (⟨#[]⟩ : ByteArray))], sh := .struct [(0, 3), (1, 9)] }
def ti81 : TI := { ty := .agg [.bool, .bool, .bool], size := 3, bytes := 3, zero := .agg #[(.bool false), (.bool false), (.bool false)], sh := .struct [(0, 4), (1, 4), (2, 4)] }
def ti82 : TI := { ty := .agg [.bool, .bool, .bool], size := 3, bytes := 3, zero := .agg #[(.bool false), (.bool false), (.bool false)], sh := .struct [(0, 4), (1, 4), (2, 4)] }
def ti83 : TI := { ty := .one .slice, size := 1, bytes := 24, zero := (.slice none 0 0), sh := .slice 184 }
def ti84 : TI := { ty := .one .slice, size := 1, bytes := 24, zero := (.slice none 0 0), sh := .slice 4 }
def ti85 : TI := { ty := .agg [.int .i64, .int .i64, .int .i64, .int .i64, .slice, .slice, .slice], size := 7, bytes := 104, zero := .agg #[(.int .i64 0), (.int .i64 0), (.int .i64 0), (.int .i64 0), (.slice none 0 0), (.slice none 0 0), (.slice none 0 0)], sh := .struct [(0, 3), (1, 3), (2, 3), (3, 3), (4, 83), (5, 22), (6, 84)] }
def ti86 : TI := { ty := .agg [.int .i64, .int .i64, .int .i64, .int .i64, .slice, .slice, .slice], size := 7, bytes := 104, zero := .agg #[(.int .i64 0), (.int .i64 0), (.int .i64 0), (.int .i64 0), (.slice none 0 0), (.slice none 0 0), (.slice none 0 0)], sh := .struct [(0, 3), (1, 3), (2, 3), (3, 3), (4, 83), (5, 22), (6, 84)] }
def ti87 : TI := { ty := .one .slice, size := 1, bytes := 24, zero := (.slice none 0 0), sh := .slice 86 }
def ti88 : TI := { ty := .agg [.int .i64, .int .i64, .int .i64, .bool], size := 4, bytes := 32, zero := .agg #[(.int .i64 0), (.int .i64 0), (.int .i64 0), (.bool false)], sh := .struct [(0, 3), (1, 3), (2, 3), (3, 4)] }
def ti89 : TI := { ty := .agg [.int .i64, .int .i64, .int .i64, .bool], size := 4, bytes := 32, zero := .agg #[(.int .i64 0), (.int .i64 0), (.int .i64 0), (.bool false)], sh := .struct [(0, 3), (1, 3), (2, 3), (3, 4)] }
def ti90 : TI := { ty := .big, size := 64, bytes := 512, zero := .agg #[(.int .i64 0), (.int .i64 0), (.int .i64 0), (.bool false), (.int .i64 0), (.int .i64 0), (.int .i64 0), (.bool false), (.int .i64 0), (.int .i64 0), (.int .i64 0), (.bool false), (.int .i64 0), (.int .i64 0), (.int .i64 0), (.bool false), (.int .i64 0), (.int .i64 0), (.int .i64 0), (.bool false), (.int .i64 0), (.int .i64 0), (.int .i64 0), (.bool false), (.int .i64 0), (.int .i64 0), (.int .i64 0), (.bool false), (.int .i64 0), (.int .i64 0), (.int .i64 0), (.bool false), (.int .i64 0), (.int .i64 0), (.int .i64 0), (.bool false), (.int .i64 0), (.int .i64 0), (.int .i64 0), (.bool false), (.int .i64 0), (.int .i64 0), (.int .i64 0), (.bool false), (.int .i64 0), (.int .i64 0), (.int .i64 0), (.bool false), (.int .i64 0), (.int .i64 0), (.int .i64 0), (.bool false), (.int .i64 0), (.int .i64 0), (.int .i64 0), (.bool false), (.int .i64 0), (.int .i64 0), (.int .i64 0), (.bool false), (.int .i64 0), (.int .i64 0), (.int .i64 0), (.bool false)], sh := .array 16 89 }
def ti91 : TI := { ty := .big, size := 64, bytes := 512, zero := .agg #[(.int .i64 0), (.int .i64 0), (.int .i64 0), (.bool false), (.int .i64 0), (.int .i64 0), (.int .i64 0), (.bool false), (.int .i64 0), (.int .i64 0), (.int .i64 0), (.bool false), (.int .i64 0), (.int .i64 0), (.int .i64 0), (.bool false), (.int .i64 0), (.int .i64 0), (.int .i64 0), (.bool false), (.int .i64 0), (.int .i64 0), (.int .i64 0), (.bool false), (.int .i64 0), (.int .i64 0), (.int .i64 0), (.bool false), (.int .i64 0), (.int .i64 0), (.int .i64 0), (.bool false), (.int .i64 0), (.int .i64 0), (.int .i64 0), (.bool false), (.int .i64 0), (.int .i64 0), (.int .i64 0), (.bool false), (.int .i64 0), (.int .i64 0), (.int .i64 0), (.bool false), (.int .i64 0), (.int .i64 0), (.int .i64 0), (.bool false), (.int .i64 0), (.int .i64 0), (.int .i64 0), (.bool false), (.int .i64 0), (.int .i64 0), (.int .i64 0), (.bool false), (.int .i64 0), (.int .i64 0), (.int .i64 0), (.bool false), (.int .i64 0), (.int .i64 0), (.int .i64 0), (.bool false)], sh := .struct [(0, 90)] }
def ti92 : TI := { ty := .big, size := 64, bytes := 512, zero := .agg #[(.int .i64 0), (.int .i64 0), (.int .i64 0), (.bool false), (.int .i64 0), (.int .i64 0), (.int .i64 0), (.bool false), (.int .i64 0), (.int .i64 0), (.int .i64 0), (.bool false), (.int .i64 0), (.int .i64 0), (.int .i64 0), (.bool false), (.int .i64 0), (.int .i64 0), (.int .i64 0), (.bool false), (.int .i64 0), (.int .i64 0), (.int .i64 0), (.bool false), (.int .i64 0), (.int .i64 0), (.int .i64 0), (.bool false), (.int .i64 0), (.int .i64 0), (.int .i64 0), (.bool false), (.int .i64 0), (.int .i64 0), (.int .i64 0), (.bool false), (.int .i64 0), (.int .i64 0), (.int .i64 0), (.bool false), (.int .i64 0), (.int .i64 0), (.int .i64 0), (.bool false), (.int .i64 0), (.int .i64 0), (.int .i64 0), (.bool false), (.int .i64 0), (.int .i64 0), (.int .i64 0), (.bool false), (.int .i64 0), (.int .i64 0), (.int .i64 0), (.bool false), (.int .i64 0), (.int .i64 0), (.int .i64 0), (.bool false), (.int .i64 0), (.int .i64 0), (.int .i64 0), (.bool false)], sh := .struct [(0, 90)] }
def ti93 : TI := { ty := .big, size := 65, bytes := 536, zero := .agg #[(.slice none 0 0), (.int .i64 0), (.int .i64 0), (.int .i64 0), (.bool false), (.int .i64 0), (.int .i64 0), (.int .i64 0), (.bool false), (.int .i64 0), (.int .i64 0), (.int .i64 0), (.bool false), (.int .i64 0), (.int .i64 0), (.int .i64 0), (.bool false), (.int .i64 0), (.int .i64 0), (.int .i64 0), (.bool false), (.int .i64 0), (.int .i64 0), (.int .i64 0), (.bool false), (.int .i64 0), (.int .i64 0), (.int .i64 0), (.bool false), (.int .i64 0), (.int .i64 0), (.int .i64 0), (.bool false), (.int .i64 0), (.int .i64 0), (.int .i64 0), (.bool false), (.int .i64 0), (.int .i64 0), (.int .i64 0), (.bool false), (.int .i64 0), (.int .i64 0), (.int .i64 0), (.bool false), (.int .i64 0), (.int .i64 0), (.int .i64 0), (.bool false), (.int .i64 0), (.int .i64 0), (.int .i64 0), (.bool false), (.int .i64 0), (.int .i64 0), (.int .i64 0), (.bool false), (.int .i64 0), (.int .i64 0), (.int .i64 0), (.bool false), (.int .i64 0), (.int .i64 0), (.int .i64 0), (.bool false)], sh := .struct [(0, 87), (1, 92)] }
def ti94 : TI := { ty := .big, size := 65, bytes := 536, zero := .agg #[(.slice none 0 0), (.int .i64 0), (.int .i64 0), (.int .i64 0), (.bool false), (.int .i64 0), (.int .i64 0), (.int .i64 0), (.bool false), (.int .i64 0), (.int .i64 0), (.int .i64 0), (.bool false), (.int .i64 0), (.int .i64 0), (.int .i64 0), (.bool false), (.int .i64 0), (.int .i64 0), (.int .i64 0), (.bool false), (.int .i64 0), (.int .i64 0), (.int .i64 0), (.bool false), (.int .i64 0), (.int .i64 0), (.int .i64 0), (.bool false), (.int .i64 0), (.int .i64 0), (.int .i64 0), (.bool false), (.int .i64 0), (.int .i64 0), (.int .i64 0), (.bool false), (.int .i64 0), (.int .i64 0), (.int .i64 0), (.bool false), (.int .i64 0), (.int .i64 0), (.int .i64 0), (.bool false), (.int .i64 0), (.int .i64 0), (.int .i64 0), (.bool false), (.int .i64 0), (.int .i64 0), (.int .i64 0), (.bool false), (.int .i64 0), (.int .i64 0), (.int .i64 0), (.bool false), (.int .i64 0), (.int .i64 0), (.int .i64 0), (.bool false), (.int .i64 0), (.int .i64 0), (.int .i64 0), (.bool false)], sh := .struct [(0, 87), (1, 92)] }
def ti103 : TI := { ty := .one .any, size := 1, bytes := 8, zero := Value.nilFunc, sh := .other }
def ti104 : TI := { ty := .one .map, size := 1, bytes := 8, zero := (.map none), sh := .map 3 106 }
def ti106 : TI := { ty := .one .ptr, size := 1, bytes := 8, zero := (.pointer none), sh := .ptr 108 }
def ti107 : TI := { ty := .agg [.int .i64, .int .i64, .int .i64, .slice, .slice, .map], size := 6, bytes := 80, zero := .agg #[(.int .i64 0), (.int .i64 0), (.int .i64 0), (.slice none 0 0), (.slice none 0 0), (.map none)], sh := .struct [(0, 3), (1, 3), (2, 3), (3, 22), (4, 84), (5, 66)] }
def ti108 : TI := { ty := .agg [.int .i64, .int .i64, .int .i64, .slice, .slice, .map], size := 6, bytes := 80, zero := .agg #[(.int .i64 0), (.int .i64 0), (.int .i64 0), (.slice none 0 0), (.slice none 0 0), (.map none)], sh := .struct [(0, 3), (1, 3), (2, 3), (3, 22), (4, 84), (5, 66)] }
def ti111 : TI := { ty := .one .slice, size := 1, bytes := 24, zero := (.slice none 0 0), sh := .slice 108 }
def ti113 : TI := { ty := .one .any, size := 1, bytes := 8, zero := Value.nilFunc, sh := .other }
def ti114 : TI := { ty := .one .any, size := 1, bytes := 8, zero := Value.nilFunc, sh := .other }
def ti122 : TI := { ty := .one (.int .u64), size := 1, bytes := 8, zero := (.int .u64 0), sh := .int .u64 }
def ti124 : TI := { ty := .one .ptr, size := 1, bytes := 8, zero := (.pointer none), sh := .ptr 126 }
def ti125 : TI := { ty := .agg [.int .i64, .slice, .slice, .map, .int .i64, .int .i64, .int .i64], size := 7, bytes := 88, zero := .agg #[(.int .i64 0), (.slice none 0 0), (.slice none 0 0), (.map none), (.int .i64 0), (.int .i64 0), (.int .i64 0)], sh := .struct [(0, 3), (1, 22), (2, 84), (3, 66), (4, 3), (5, 3), (6, 3)] }
def ti126 : TI := { ty := .agg [.int .i64, .slice, .slice, .map, .int .i64, .int .i64, .int .i64], size := 7, bytes := 88, zero := .agg #[(.int .i64 0), (.slice none 0 0), (.slice none 0 0), (.map none), (.int .i64 0), (.int .i64 0), (.int .i64 0)], sh := .struct [(0, 3), (1, 22), (2, 84), (3, 66), (4, 3), (5, 3), (6, 3)] }
def ti127 : TI := { ty := .one .map, size := 1, bytes := 8, zero := (.map none), sh := .map 3 124 }
def ti128 : TI := { ty := .one .ptr, size := 1, bytes := 8, zero := (.pointer none), sh := .ptr 145 }
def ti130 : TI := { ty := .agg [.map, .int .i64, .ptr], size := 3, bytes := 24, zero := .agg #[(.map none), (.int .i64 0), (.pointer none)], sh := .struct [(0, 127), (1, 3), (2, 128)] }
def ti131 : TI := { ty := .agg [.map, .int .i64, .ptr], size := 3, bytes := 24, zero := .agg #[(.map none), (.int .i64 0), (.pointer none)], sh := .struct [(0, 127), (1, 3), (2, 128)] }
def ti132 : TI := { ty := .one .ptr, size := 1, bytes := 8, zero := (.pointer none), sh := .ptr 135 }
def ti133 : TI := { ty := .one .map, size := 1, bytes := 8, zero := (.map none), sh := .map 3 194 }
def ti134 : TI := { ty := .agg [.int .i64, .str, .slice, .map], size := 4, bytes := 56, zero := .agg #[(.int .i64 0), (.string (⟨#[]⟩ : ByteArray)), (.slice none 0 0), (.map none)], sh := .struct [(0, 3), (1, 9), (2, 53), (3, 133)] }
def ti135 : TI := { ty := .agg [.int .i64, .str, .slice, .map], size := 4, bytes := 56, zero := .agg #[(.int .i64 0), (.string (⟨#[]⟩ : ByteArray)), (.slice none 0 0), (.map none)], sh := .struct [(0, 3), (1, 9), (2, 53), (3, 133)] }
def ti137 : TI := { ty := .one .any, size := 1, bytes := 8, zero := Value.nilFunc, sh := .other }
def ti139 : TI := { ty := .agg [.int .i64, .int .i64, .int .i64], size := 3, bytes := 24, zero := .agg #[(.int .i64 0), (.int .i64 0), (.int .i64 0)], sh := .struct [(0, 3), (1, 3), (2, 3)] }
def ti140 : TI := { ty := .agg [.int .i64, .int .i64, .int .i64], size := 3, bytes := 24, zero := .agg #[(.int .i64 0), (.int .i64 0), (.int .i64 0)], sh := .struct [(0, 3), (1, 3), (2, 3)] }
def ti141 : TI := { ty := .agg [.int .i64, .int .i64, .int .i64, .bool], size := 4, bytes := 32, zero := .agg #[(.int .i64 0), (.int .i64 0), (.int .i64 0), (.bool false)], sh := .struct [(0, 140), (3, 4)] }
def ti142 : TI := { ty := .agg [.int .i64, .int .i64, .int .i64, .bool], size := 4, bytes := 32, zero := .agg #[(.int .i64 0), (.int .i64 0), (.int .i64 0), (.bool false)], sh := .struct [(0, 140), (3, 4)] }
def ti143 : TI := { ty := .big, size := 64, bytes := 512, zero := .agg #[(.int .i64 0), (.int .i64 0), (.int .i64 0), (.bool false), (.int .i64 0), (.int .i64 0), (.int .i64 0), (.bool false), (.int .i64 0), (.int .i64 0), (.int .i64 0), (.bool false), (.int .i64 0), (.int .i64 0), (.int .i64 0), (.bool false), (.int .i64 0), (.int .i64 0), (.int .i64 0), (.bool false), (.int .i64 0), (.int .i64 0), (.int .i64 0), (.bool false), (.int .i64 0), (.int .i64 0), (.int .i64 0), (.bool false), (.int .i64 0), (.int .i64 0), (.int .i64 0), (.bool false), (.int .i64 0), (.int .i64 0), (.int .i64 0), (.bool false), (.int .i64 0), (.int .i64 0), (.int .i64 0), (.bool false), (.int .i64 0), (.int .i64 0), (.int .i64 0), (.bool false), (.int .i64 0), (.int .i64 0), (.int .i64 0), (.bool false), (.int .i64 0), (.int .i64 0), (.int .i64 0), (.bool false), (.int .i64 0), (.int .i64 0), (.int .i64 0), (.bool false), (.int .i64 0), (.int .i64 0), (.int .i64 0), (.bool false), (.int .i64 0), (.int .i64 0), (.int .i64 0), (.bool false)], sh := .array 16 142 }
def ti144 : TI := { ty := .big, size := 64, bytes := 512, zero := .agg #[(.int .i64 0), (.int .i64 0), (.int .i64 0), (.bool false), (.int .i64 0), (.int .i64 0), (.int .i64 0), (.bool false), (.int .i64 0), (.int .i64 0), (.int .i64 0), (.bool false), (.int .i64 0), (.int .i64 0), (.int .i64 0), (.bool false), (.int .i64 0), (.int .i64 0), (.int .i64 0), (.bool false), (.int .i64 0), (.int .i64 0), (.int .i64 0), (.bool false), (.int .i64 0), (.int .i64 0), (.int .i64 0), (.bool false), (.int .i64 0), (.int .i64 0), (.int .i64 0), (.bool false), (.int .i64 0), (.int .i64 0), (.int .i64 0), (.bool false), (.int .i64 0), (.int .i64 0), (.int .i64 0), (.bool false), (.int .i64 0), (.int .i64 0), (.int .i64 0), (.bool false), (.int .i64 0), (.int .i64 0), (.int .i64 0), (.bool false), (.int .i64 0), (.int .i64 0), (.int .i64 0), (.bool false), (.int .i64 0), (.int .i64 0), (.int .i64 0), (.bool false), (.int .i64 0), (.int .i64 0), (.int .i64 0), (.bool false), (.int .i64 0), (.int .i64 0), (.int .i64 0), (.bool false)], sh := .struct [(0, 143)] }
def ti145 : TI := { ty := .big, size := 64, bytes := 512, zero := .agg #[(.int .i64 0), (.int .i64 0), (.int .i64 0), (.bool false), (.int .i64 0), (.int .i64 0), (.int .i64 0), (.bool false), (.int .i64 0), (.int .i64 0), (.int .i64 0), (.bool false), (.int .i64 0), (.int .i64 0), (.int .i64 0), (.bool false), (.int .i64 0), (.int .i64 0), (.int .i64 0), (.bool false), (.int .i64 0), (.int .i64 0), (.int .i64 0), (.bool false), (.int .i64 0), (.int .i64 0), (.int .i64 0), (.bool false), (.int .i64 0), (.int .i64 0), (.int .i64 0), (.bool false), (.int .i64 0), (.int .i64 0), (.int .i64 0), (.bool false), (.int .i64 0), (.int .i64 0), (.int .i64 0), (.bool false), (.int .i64 0), (.int .i64 0), (.int .i64 0), (.bool false), (.int .i64 0), (.int .i64 0), (.int .i64 0), (.bool false), (.int .i64 0), (.int .i64 0), (.int .i64 0), (.bool false), (.int .i64 0), (.int .i64 0), (.int .i64 0), (.bool false), (.int .i64 0), (.int .i64 0), (.int .i64 0), (.bool false), (.int .i64 0), (.int .i64 0), (.int .i64 0), (.bool false)], sh := .struct [(0, 143)] }
def ti150 : TI := { ty := .agg [.int .i64, .int .i64, .str], size := 3, bytes := 32, zero := .agg #[(.int .i64 0), (.int .i64 0), (.string (⟨#[]⟩ : ByteArray))], sh := .struct [(0, 3), (1, 3), (2, 9)] }
def ti151 : TI := { ty := .agg [.int .i64, .int .i64, .str], size := 3, bytes := 32, zero := .agg #[(.int .i64 0), (.int .i64 0), (.string (⟨#[]⟩ : ByteArray))], sh := .struct [(0, 3), (1, 3), (2, 9)] }
def ti157 : TI := { ty := .one .any, size := 1, bytes := 8, zero := Value.nilFunc, sh := .other }
def ti158 : TI := { ty := .one .map, size := 1, bytes := 8, zero := (.map none), sh := .map 77 3 }
def ti171 : TI := { ty := .one .ptr, size := 1, bytes := 8, zero := (.pointer none), sh := .ptr 92 }
def ti173 : TI := { ty := .one .any, size := 1, bytes := 8, zero := Value.nilFunc, sh := .other }
def ti183 : TI := { ty := .agg [.str, .int .i64], size := 2, bytes := 24, zero := .agg #[(.string (⟨#[]⟩ : ByteArray)), (.int .i64 0)], sh := .struct [(0, 9), (1, 3)] }
def ti184 : TI := { ty := .agg [.str, .int .i64], size := 2, bytes := 24, zero := .agg #[(.string (⟨#[]⟩ : ByteArray)), (.int .i64 0)], sh := .struct [(0, 9), (1, 3)] }
def ti188 : TI := { ty := .one .any, size := 1, bytes := 8, zero := Value.nilFunc, sh := .other }
def ti194 : TI := { ty := .one .slice, size := 1, bytes := 24, zero := (.slice none 0 0), sh := .slice 22 }
def ti206 : TI := { ty := .one .any, size := 1, bytes := 8, zero := Value.nilFunc, sh := .other }
def ti207 : TI := { ty := .one .any, size := 1, bytes := 8, zero := Value.nilFunc, sh := .other }
def ti220 : TI := { ty := .one .any, size := 1, bytes := 8, zero := Value.nilFunc, sh := .other }
def ti230 : TI := { ty := .one .slice, size := 1, bytes := 24, zero := (.slice none 0 0), sh := .slice 142 }
def ti231 : TI := { ty := .one .any, size := 1, bytes := 8, zero := Value.nilFunc, sh := .other }
def ti232 : TI := { ty := .one .ptr, size := 1, bytes := 8, zero := (.pointer none), sh := .ptr 142 }
def ti241 : TI := { ty := .one (.int .i64), size := 1, bytes := 8, zero := (.int .i64 0), sh := .int .i64 }
def ti248 : TI := { ty := .one (.int .u32), size := 1, bytes := 4, zero := (.int .u32 0), sh := .int .u32 }
def ti250 : TI := { ty := .one (.int .u64), size := 1, bytes := 8, zero := (.int .u64 0), sh := .int .u64 }
def ti256 : TI := { ty := .agg [.int .i64, .str, .int .i64], size := 3, bytes := 32, zero := .agg #[(.int .i64 0), (.string (⟨#[]⟩ : ByteArray)), (.int .i64 0)], sh := .struct [(0, 3), (1, 9), (2, 3)] }
def ti257 : TI := { ty := .agg [.int .i64, .str, .int .i64], size := 3, bytes := 32, zero := .agg #[(.int .i64 0), (.string (⟨#[]⟩ : ByteArray)), (.int .i64 0)], sh := .struct [(0, 3), (1, 9), (2, 3)] }
def ti264 : TI := { ty := .one .slice, size := 1, bytes := 24, zero := (.slice none 0 0), sh := .slice 41 }
def ti266 : TI := { ty := .one (.int .u64), size := 1, bytes := 8, zero := (.int .u64 0), sh := .int .u64 }
def ti270 : TI := { ty := .one .ptr, size := 1, bytes := 8, zero := (.pointer none), sh := .ptr 3 }
def ti280 : TI := { ty := .one .ptr, size := 1, bytes := 8, zero := (.pointer none), sh := .ptr 282 }
def ti281 : TI := { ty := .agg [.ptr, .slice], size := 2, bytes := 32, zero := .agg #[(.pointer none), (.slice none 0 0)], sh := .struct [(0, 280), (1, 22)] }
def ti282 : TI := { ty := .agg [.ptr, .slice], size := 2, bytes := 32, zero := .agg #[(.pointer none), (.slice none 0 0)], sh := .struct [(0, 280), (1, 22)] }
def ti283 : TI := { ty := .one .any, size := 1, bytes := 16, zero := Value.nilIface, sh := .other }
def ti284 : TI := { ty := .one .any, size := 1, bytes := 16, zero := Value.nilIface, sh := .other }
def ti288 : TI := { ty := .one .ptr, size := 1, bytes := 8, zero := (.pointer none), sh := .ptr 266 }
def ti293 : TI := { ty := .one .ptr, size := 1, bytes := 8, zero := (.pointer none), sh := .ptr 5 }
def ti302 : TI := { ty := .one .ptr, size := 1, bytes := 8, zero := (.pointer none), sh := .other }
def ti305 : TI := { ty := .big, size := 256, bytes := 256, zero := .agg #[(.int .u8 0), (.int .u8 0), (.int .u8 0), (.int .u8 0), (.int .u8 0), (.int .u8 0), (.int .u8 0), (.int .u8 0), (.int .u8 0), (.int .u8 0), (.int .u8 0), (.int .u8 0), (.int .u8 0), (.int .u8 0), (.int .u8 0), (.int .u8 0), (.int .u8 0), (.int .u8 0), (.int .u8 0), (.int .u8 0), (.int .u8 0), (.int .u8 0), (.int .u8 0), (.int .u8 0), (.int .u8 0), (.int .u8 0), (.int .u8 0), (.int .u8 0), (.int .u8 0), (.int .u8 0), (.int .u8 0), (.int .u8 0), (.int .u8 0), (.int .u8 0), (.int .u8 0), (.int .u8 0), (.int .u8 0), (.int .u8 0), (.int .u8 0), (.int .u8 0), (.int .u8 0), (.int .u8 0), (.int .u8 0), (.int .u8 0), (.int .u8 0), (.int .u8 0), (.int .u8 0), (.int .u8 0), (.int .u8 0), (.int .u8 0), (.int .u8 0), (.int .u8 0), (.int .u8 0), (.int .u8 0), (.int .u8 0), (.int .u8 0), (.int .u8 0), (.int .u8 0), (.int .u8 0), (.int .u8 0), (.int .u8 0), (.int .u8 0), (.int .u8 0), (.int .u8 0), (.int .u8 0), (.int .u8 0), (.int .u8 0), (.int .u8 0), (.int .u8 0), (.int .u8 0), (.int .u8 0), (.int .u8 0), (.int .u8 0), (.int .u8 0), (.int .u8 0), (.int .u8 0), (.int .u8 0), (.int .u8 0), (.int .u8 0), (.int .u8 0), (.int .u8 0), (.int .u8 0), (.int .u8 0), (.int .u8 0), (.int .u8 0), (.int .u8 0), (.int .u8 0), (.int .u8 0), (.int .u8 0), (.int .u8 0), (.int .u8 0), (.int .u8 0), (.int .u8 0), (.int .u8 0), (.int .u8 0), (.int .u8 0), (.int .u8 0), (.int .u8 0), (.int .u8 0), (.int .u8 0), (.int .u8 0), (.int .u8 0), (.int .u8 0), (.int .u8 0), (.int .u8 0), (.int .u8 0), (.int .u8 0), (.int .u8 0), (.int .u8 0), (.int .u8 0), (.int .u8 0), (.int .u8 0), (.int .u8 0), (.int .u8 0), (.int .u8 0), (.int .u8 0), (.int .u8 0), (.int .u8 0), (.int .u8 0), (.int .u8 0), (.int .u8 0), (.int .u8 0), (.int .u8 0), (.int .u8 0), (.int .u8 0), (.int .u8 0), (.int .u8 0), (.int .u8 0), (.int .u8 0), (.int .u8 0), (.int .u8 0), (.int .u8 0), (.int .u8 0), (.int .u8 0), (.int .u8 0), (.int .u8 0), (.int .u8 0), (.int .u8 0), (.int .u8 0), (.int .u8 0), (.int .u8 0), (.int .u8 0), (.int .u8 0), (.int .u8 0), (.int .u8 0), (.int .u8 0), (.int .u8 0), (.int .u8 0), (.int .u8 0), (.int .u8 0), (.int .u8 0), (.int .u8 0), (.int .u8 0), (.int .u8 0), (.int .u8 0), (.int .u8 0), (.int .u8 0), (.int .u8 0), (.int .u8 0), (.int .u8 0), (.int .u8 0), (.int .u8 0), (.int .u8 0), (.int .u8 0), (.int .u8 0), (.int .u8 0), (.int .u8 0), (.int .u8 0), (.int .u8 0), (.int .u8 0), (.int .u8 0), (.int .u8 0), (.int .u8 0), (.int .u8 0), (.int .u8 0), (.int .u8 0), (.int .u8 0), (.int .u8 0), (.int .u8 0), (.int .u8 0), (.int .u8 0), (.int .u8 0), (.int .u8 0), (.int .u8 0), (.int .u8 0), (.int .u8 0), (.int .u8 0), (.int .u8 0), (.int .u8 0), (.int .u8 0), (.int .u8 0), (.int .u8 0), (.int .u8 0), (.int .u8 0), (.int .u8 0), (.int .u8 0), (.int .u8 0), (.int .u8 0), (.int .u8 0), (.int .u8 0), (.int .u8 0), (.int .u8 0), (.int .u8 0), (.int .u8 0), (.int .u8 0), (.int .u8 0), (.int .u8 0), (.int .u8 0), (.int .u8 0), (.int .u8 0), (.int .u8 0), (.int .u8 0), (.int .u8 0), (.int .u8 0), (.int .u8 0), (.int .u8 0), (.int .u8 0), (.int .u8 0), (.int .u8 0), (.int .u8 0), (.int .u8 0), (.int .u8 0), (.int .u8 0), (.int .u8 0), (.int .u8 0), (.int .u8 0), (.int .u8 0), (.int .u8 0), (.int .u8 0), (.int .u8 0), (.int .u8 0), (.int .u8 0), (.int .u8 0), (.int .u8 0), (.int .u8 0), (.int .u8 0), (.int .u8 0), (.int .u8 0), (.int .u8 0), (.int .u8 0), (.int .u8 0), (.int .u8 0), (.int .u8 0), (.int .u8 0), (.int .u8 0), (.int .u8 0), (.int .u8 0), (.int .u8 0), (.int .u8 0), (.int .u8 0), (.int .u8 0), (.int .u8 0), (.int .u8 0), (.int .u8 0), (.int .u8 0), (.int .u8 0)], sh := .array 256 5 }
def ti306 : TI := { ty := .agg [.int .u8, .int .u8], size := 2, bytes := 2, zero := .agg #[(.int .u8 0), (.int .u8 0)], sh := .struct [(0, 5), (1, 5)] }
def ti307 : TI := { ty := .agg [.int .u8, .int .u8], size := 2, bytes := 2, zero := .agg #[(.int .u8 0), (.int .u8 0)], sh := .struct [(0, 5), (1, 5)] }
def ti308 : TI := { ty := .big, size := 32, bytes := 32, zero := .agg #[(.int .u8 0), (.int .u8 0), (.int .u8 0), (.int .u8 0), (.int .u8 0), (.int .u8 0), (.int .u8 0), (.int .u8 0), (.int .u8 0), (.int .u8 0), (.int .u8 0), (.int .u8 0), (.int .u8 0), (.int .u8 0), (.int .u8 0), (.int .u8 0), (.int .u8 0), (.int .u8 0), (.int .u8 0), (.int .u8 0), (.int .u8 0), (.int .u8 0), (.int .u8 0), (.int .u8 0), (.int .u8 0), (.int .u8 0), (.int .u8 0), (.int .u8 0), (.int .u8 0), (.int .u8 0), (.int .u8 0), (.int .u8 0)], sh := .array 16 307 }
theorem ti3_ok : TIok Tryz.prog 3 ti3 := TIok.of (by kernel_rfl) (by kernel_rfl)
theorem ti4_ok : TIok Tryz.prog 4 ti4 := TIok.of (by kernel_rfl) (by kernel_rfl)
theorem ti5_ok : TIok Tryz.prog 5 ti5 := TIok.of (by kernel_rfl) (by kernel_rfl)
theorem ti9_ok : TIok Tryz.prog 9 ti9 := TIok.of (by kernel_rfl) (by kernel_rfl)
theorem ti20_ok : TIok Tryz.prog 20 ti20 := TIok.of (by kernel_rfl) (by kernel_rfl)
theorem ti21_ok : TIok Tryz.prog 21 ti21 := TIok.of (by kernel_rfl) (by kernel_rfl)
theorem ti22_ok : TIok Tryz.prog 22 ti22 := TIok.of (by kernel_rfl) (by kernel_rfl)
theorem ti24_ok : TIok Tryz.prog 24 ti24 := TIok.of (by kernel_rfl) (by kernel_rfl)
theorem ti27_ok : TIok Tryz.prog 27 ti27 := TIok.of (by kernel_rfl) (by kernel_rfl)
theorem ti28_ok : TIok Tryz.prog 28 ti28 := TIok.of (by kernel_rfl) (by kernel_rfl)
theorem ti29_ok : TIok Tryz.prog 29 ti29 := TIok.of (by kernel_rfl) (by kernel_rfl)
theorem ti30_ok : TIok Tryz.prog 30 ti30 := TIok.of (by kernel_rfl) (by kernel_rfl)
theorem ti34_ok : TIok Tryz.prog 34 ti34 := TIok.of (by kernel_rfl) (by kernel_rfl)
theorem ti36_ok : TIok Tryz.prog 36 ti36 := TIok.of (by kernel_rfl) (by kernel_rfl)
theorem ti38_ok : TIok Tryz.prog 38 ti38 := TIok.of (by kernel_rfl) (by kernel_rfl)
theorem ti40_ok : TIok Tryz.prog 40 ti40 := TIok.of (by kernel_rfl) (by kernel_rfl)
theorem ti41_ok : TIok Tryz.prog 41 ti41 := TIok.of (by kernel_rfl) (by kernel_rfl)
theorem ti42_ok : TIok Tryz.prog 42 ti42 := TIok.of (by kernel_rfl) (by kernel_rfl)
theorem ti43_ok : TIok Tryz.prog 43 ti43 := TIok.of (by kernel_rfl) (by kernel_rfl)
theorem ti45_ok : TIok Tryz.prog 45 ti45 := TIok.of (by kernel_rfl) (by kernel_rfl)
theorem ti50_ok : TIok Tryz.prog 50 ti50 := TIok.of (by kernel_rfl) (by kernel_rfl)
theorem ti52_ok : TIok Tryz.prog 52 ti52 := TIok.of (by kernel_rfl) (by kernel_rfl)
theorem ti53_ok : TIok Tryz.prog 53 ti53 := TIok.of (by kernel_rfl) (by kernel_rfl)
theorem ti54_ok : TIok Tryz.prog 54 ti54 := TIok.of (by kernel_rfl) (by kernel_rfl)
theorem ti55_ok : TIok Tryz.prog 55 ti55 := TIok.of (by kernel_rfl) (by kernel_rfl)
theorem ti56_ok : TIok Tryz.prog 56 ti56 := TIok.of (by kernel_rfl) (by kernel_rfl)
theorem ti57_ok : TIok Tryz.prog 57 ti57 := TIok.of (by kernel_rfl) (by kernel_rfl)
theorem ti58_ok : TIok Tryz.prog 58 ti58 := TIok.of (by kernel_rfl) (by kernel_rfl)
theorem ti59_ok : TIok Tryz.prog 59 ti59 := TIok.of (by kernel_rfl) (by kernel_rfl)
theorem ti63_ok : TIok Tryz.prog 63 ti63 := TIok.of (by kernel_rfl) (by kernel_rfl)
theorem ti65_ok : TIok Tryz.prog 65 ti65 := TIok.of (by kernel_rfl) (by kernel_rfl)
theorem ti66_ok : TIok Tryz.prog 66 ti66 := TIok.of (by kernel_rfl) (by kernel_rfl)
theorem ti70_ok : TIok Tryz.prog 70 ti70 := TIok.of (by kernel_rfl) (by kernel_rfl)
theorem ti71_ok : TIok Tryz.prog 71 ti71 := TIok.of (by kernel_rfl) (by kernel_rfl)
theorem ti72_ok : TIok Tryz.prog 72 ti72 := TIok.of (by kernel_rfl) (by kernel_rfl)
theorem ti73_ok : TIok Tryz.prog 73 ti73 := TIok.of (by kernel_rfl) (by kernel_rfl)
theorem ti74_ok : TIok Tryz.prog 74 ti74 := TIok.of (by kernel_rfl) (by kernel_rfl)
theorem ti75_ok : TIok Tryz.prog 75 ti75 := TIok.of (by kernel_rfl) (by kernel_rfl)
theorem ti76_ok : TIok Tryz.prog 76 ti76 := TIok.of (by kernel_rfl) (by kernel_rfl)
theorem ti77_ok : TIok Tryz.prog 77 ti77 := TIok.of (by kernel_rfl) (by kernel_rfl)
theorem ti81_ok : TIok Tryz.prog 81 ti81 := TIok.of (by kernel_rfl) (by kernel_rfl)
theorem ti82_ok : TIok Tryz.prog 82 ti82 := TIok.of (by kernel_rfl) (by kernel_rfl)
theorem ti83_ok : TIok Tryz.prog 83 ti83 := TIok.of (by kernel_rfl) (by kernel_rfl)
theorem ti84_ok : TIok Tryz.prog 84 ti84 := TIok.of (by kernel_rfl) (by kernel_rfl)
theorem ti85_ok : TIok Tryz.prog 85 ti85 := TIok.of (by kernel_rfl) (by kernel_rfl)
theorem ti86_ok : TIok Tryz.prog 86 ti86 := TIok.of (by kernel_rfl) (by kernel_rfl)
theorem ti87_ok : TIok Tryz.prog 87 ti87 := TIok.of (by kernel_rfl) (by kernel_rfl)
theorem ti88_ok : TIok Tryz.prog 88 ti88 := TIok.of (by kernel_rfl) (by kernel_rfl)
theorem ti89_ok : TIok Tryz.prog 89 ti89 := TIok.of (by kernel_rfl) (by kernel_rfl)
theorem ti90_ok : TIok Tryz.prog 90 ti90 := TIok.of (by kernel_rfl) (by kernel_rfl)
theorem ti91_ok : TIok Tryz.prog 91 ti91 := TIok.of (by kernel_rfl) (by kernel_rfl)
theorem ti92_ok : TIok Tryz.prog 92 ti92 := TIok.of (by kernel_rfl) (by kernel_rfl)
theorem ti93_ok : TIok Tryz.prog 93 ti93 := TIok.of (by kernel_rfl) (by kernel_rfl)
theorem ti94_ok : TIok Tryz.prog 94 ti94 := TIok.of (by kernel_rfl) (by kernel_rfl)
theorem ti103_ok : TIok Tryz.prog 103 ti103 := TIok.of (by kernel_rfl) (by kernel_rfl)
theorem ti104_ok : TIok Tryz.prog 104 ti104 := TIok.of (by kernel_rfl) (by kernel_rfl)
theorem ti106_ok : TIok Tryz.prog 106 ti106 := TIok.of (by kernel_rfl) (by kernel_rfl)
theorem ti107_ok : TIok Tryz.prog 107 ti107 := TIok.of (by kernel_rfl) (by kernel_rfl)
theorem ti108_ok : TIok Tryz.prog 108 ti108 := TIok.of (by kernel_rfl) (by kernel_rfl)
theorem ti111_ok : TIok Tryz.prog 111 ti111 := TIok.of (by kernel_rfl) (by kernel_rfl)
theorem ti113_ok : TIok Tryz.prog 113 ti113 := TIok.of (by kernel_rfl) (by kernel_rfl)
theorem ti114_ok : TIok Tryz.prog 114 ti114 := TIok.of (by kernel_rfl) (by kernel_rfl)
theorem ti122_ok : TIok Tryz.prog 122 ti122 := TIok.of (by kernel_rfl) (by kernel_rfl)
theorem ti124_ok : TIok Tryz.prog 124 ti124 := TIok.of (by kernel_rfl) (by kernel_rfl)
theorem ti125_ok : TIok Tryz.prog 125 ti125 := TIok.of (by kernel_rfl) (by kernel_rfl)
theorem ti126_ok : TIok Tryz.prog 126 ti126 := TIok.of (by kernel_rfl) (by kernel_rfl)
theorem ti127_ok : TIok Tryz.prog 127 ti127 := TIok.of (by kernel_rfl) (by kernel_rfl)
theorem ti128_ok : TIok Tryz.prog 128 ti128 := TIok.of (by kernel_rfl) (by kernel_rfl)
theorem ti130_ok : TIok Tryz.prog 130 ti130 := TIok.of (by kernel_rfl) (by kernel_rfl)
theorem ti131_ok : TIok Tryz.prog 131 ti131 := TIok.of (by kernel_rfl) (by kernel_rfl)
theorem ti132_ok : TIok Tryz.prog 132 ti132 := TIok.of (by kernel_rfl) (by kernel_rfl)
theorem ti133_ok : TIok Tryz.prog 133 ti133 := TIok.of (by kernel_rfl) (by kernel_rfl)
theorem ti134_ok : TIok Tryz.prog 134 ti134 := TIok.of (by kernel_rfl) (by kernel_rfl)
theorem ti135_ok : TIok Tryz.prog 135 ti135 := TIok.of (by kernel_rfl) (by kernel_rfl)
theorem ti137_ok : TIok Tryz.prog 137 ti137 := TIok.of (by kernel_rfl) (by kernel_rfl)
theorem ti139_ok : TIok Tryz.prog 139 ti139 := TIok.of (by kernel_rfl) (by kernel_rfl)
theorem ti140_ok : TIok Tryz.prog 140 ti140 := TIok.of (by kernel_rfl) (by kernel_rfl)
theorem ti141_ok : TIok Tryz.prog 141 ti141 := TIok.of (by kernel_rfl) (by kernel_rfl)
theorem ti142_ok : TIok Tryz.prog 142 ti142 := TIok.of (by kernel_rfl) (by kernel_rfl)
theorem ti143_ok : TIok Tryz.prog 143 ti143 := TIok.of (by kernel_rfl) (by kernel_rfl)
theorem ti144_ok : TIok Tryz.prog 144 ti144 := TIok.of (by kernel_rfl) (by kernel_rfl)
theorem ti145_ok : TIok Tryz.prog 145 ti145 := TIok.of (by kernel_rfl) (by kernel_rfl)
theorem ti150_ok : TIok Tryz.prog 150 ti150 := TIok.of (by kernel_rfl) (by kernel_rfl)
theorem ti151_ok : TIok Tryz.prog 151 ti151 := TIok.of (by kernel_rfl) (by kernel_rfl)
theorem ti157_ok : TIok Tryz.prog 157 ti157 := TIok.of (by kernel_rfl) (by kernel_rfl)
theorem ti158_ok : TIok Tryz.prog 158 ti158 := TIok.of (by kernel_rfl) (by kernel_rfl)
theorem ti171_ok : TIok Tryz.prog 171 ti171 := TIok.of (by kernel_rfl) (by kernel_rfl)
theorem ti173_ok : TIok Tryz.prog 173 ti173 := TIok.of (by kernel_rfl) (by kernel_rfl)
theorem ti183_ok : TIok Tryz.prog 183 ti183 := TIok.of (by kernel_rfl) (by kernel_rfl)
theorem ti184_ok : TIok Tryz.prog 184 ti184 := TIok.of (by kernel_rfl) (by kernel_rfl)
theorem ti188_ok : TIok Tryz.prog 188 ti188 := TIok.of (by kernel_rfl) (by kernel_rfl)
theorem ti194_ok : TIok Tryz.prog 194 ti194 := TIok.of (by kernel_rfl) (by kernel_rfl)
theorem ti206_ok : TIok Tryz.prog 206 ti206 := TIok.of (by kernel_rfl) (by kernel_rfl)
theorem ti207_ok : TIok Tryz.prog 207 ti207 := TIok.of (by kernel_rfl) (by kernel_rfl)
theorem ti220_ok : TIok Tryz.prog 220 ti220 := TIok.of (by kernel_rfl) (by kernel_rfl)
theorem ti230_ok : TIok Tryz.prog 230 ti230 := TIok.of (by kernel_rfl) (by kernel_rfl)
theorem ti231_ok : TIok Tryz.prog 231 ti231 := TIok.of (by kernel_rfl) (by kernel_rfl)
theorem ti232_ok : TIok Tryz.prog 232 ti232 := TIok.of (by kernel_rfl) (by kernel_rfl)
theorem ti241_ok : TIok Tryz.prog 241 ti241 := TIok.of (by kernel_rfl) (by kernel_rfl)
theorem ti248_ok : TIok Tryz.prog 248 ti248 := TIok.of (by kernel_rfl) (by kernel_rfl)
theorem ti250_ok : TIok Tryz.prog 250 ti250 := TIok.of (by kernel_rfl) (by kernel_rfl)
theorem ti256_ok : TIok Tryz.prog 256 ti256 := TIok.of (by kernel_rfl) (by kernel_rfl)
theorem ti257_ok : TIok Tryz.prog 257 ti257 := TIok.of (by kernel_rfl) (by kernel_rfl)
theorem ti264_ok : TIok Tryz.prog 264 ti264 := TIok.of (by kernel_rfl) (by kernel_rfl)
theorem ti266_ok : TIok Tryz.prog 266 ti266 := TIok.of (by kernel_rfl) (by kernel_rfl)
theorem ti270_ok : TIok Tryz.prog 270 ti270 := TIok.of (by kernel_rfl) (by kernel_rfl)
theorem ti280_ok : TIok Tryz.prog 280 ti280 := TIok.of (by kernel_rfl) (by kernel_rfl)
theorem ti281_ok : TIok Tryz.prog 281 ti281 := TIok.of (by kernel_rfl) (by kernel_rfl)
theorem ti282_ok : TIok Tryz.prog 282 ti282 := TIok.of (by kernel_rfl) (by kernel_rfl)
theorem ti283_ok : TIok Tryz.prog 283 ti283 := TIok.of (by kernel_rfl) (by kernel_rfl)
theorem ti284_ok : TIok Tryz.prog 284 ti284 := TIok.of (by kernel_rfl) (by kernel_rfl)
theorem ti288_ok : TIok Tryz.prog 288 ti288 := TIok.of (by kernel_rfl) (by kernel_rfl)
theorem ti293_ok : TIok Tryz.prog 293 ti293 := TIok.of (by kernel_rfl) (by kernel_rfl)
theorem ti302_ok : TIok Tryz.prog 302 ti302 := TIok.of (by kernel_rfl) (by kernel_rfl)
theorem ti305_ok : TIok Tryz.prog 305 ti305 := TIok.of (by kernel_rfl) (by kernel_rfl)
theorem ti306_ok : TIok Tryz.prog 306 ti306 := TIok.of (by kernel_rfl) (by kernel_rfl)
theorem ti307_ok : TIok Tryz.prog 307 ti307 := TIok.of (by kernel_rfl) (by kernel_rfl)
theorem ti308_ok : TIok Tryz.prog 308 ti308 := TIok.of (by kernel_rfl) (by kernel_rfl)
def TT : Tab := [(3, ti3), (4, ti4), (5, ti5), (9, ti9), (20, ti20), (21, ti21), (22, ti22), (24, ti24), (27, ti27), (28, ti28), (29, ti29), (30, ti30), (34, ti34), (36, ti36), (38, ti38), (40, ti40), (41, ti41), (42, ti42), (43, ti43), (45, ti45), (50, ti50), (52, ti52), (53, ti53), (54, ti54), (55, ti55), (56, ti56), (57, ti57), (58, ti58), (59, ti59), (63, ti63), (65, ti65), (66, ti66), (70, ti70), (71, ti71), (72, ti72), (73, ti73), (74, ti74), (75, ti75), (76, ti76), (77, ti77), (81, ti81), (82, ti82), (83, ti83), (84, ti84), (85, ti85), (86, ti86), (87, ti87), (88, ti88), (89, ti89), (90, ti90), (91, ti91), (92, ti92), (93, ti93), (94, ti94), (103, ti103), (104, ti104), (106, ti106), (107, ti107), (108, ti108), (111, ti111), (113, ti113), (114, ti114), (122, ti122), (124, ti124), (125, ti125), (126, ti126), (127, ti127), (128, ti128), (130, ti130), (131, ti131), (132, ti132), (133, ti133), (134, ti134), (135, ti135), (137, ti137), (139, ti139), (140, ti140), (141, ti141), (142, ti142), (143, ti143), (144, ti144), (145, ti145), (150, ti150), (151, ti151), (157, ti157), (158, ti158), (171, ti171), (173, ti173), (183, ti183), (184, ti184), (188, ti188), (194, ti194), (206, ti206), (207, ti207), (220, ti220), (230, ti230), (231, ti231), (232, ti232), (241, ti241), (248, ti248), (250, ti250), (256, ti256), (257, ti257), (264, ti264), (266, ti266), (270, ti270), (280, ti280), (281, ti281), (282, ti282), (283, ti283), (284, ti284), (288, ti288), (293, ti293), (302, ti302), (305, ti305), (306, ti306), (307, ti307), (308, ti308)]
theorem tabOk : TabOk Tryz.prog TT := by
  intro x hx
  simp only [TT, List.mem_cons, List.not_mem_nil, or_false] at hx
  rcases hx with rfl | rfl | rfl | rfl | rfl | rfl | rfl | rfl | rfl | rfl | rfl | rfl | rfl | rfl | rfl | rfl | rfl | rfl | rfl | rfl | rfl | rfl | rfl | rfl | rfl | rfl | rfl | rfl | rfl | rfl | rfl | rfl | rfl | rfl | rfl | rfl | rfl | rfl | rfl | rfl | rfl | rfl | rfl | rfl | rfl | rfl | rfl | rfl | rfl | rfl | rfl | rfl | rfl | rfl | rfl | rfl | rfl | rfl | rfl | rfl | rfl | rfl | rfl | rfl | rfl | rfl | rfl | rfl | rfl | rfl | rfl | rfl | rfl | rfl | rfl | rfl | rfl | rfl | rfl | rfl | rfl | rfl | rfl | rfl | rfl | rfl | rfl | rfl | rfl | rfl | rfl | rfl | rfl | rfl | rfl | rfl | rfl | rfl | rfl | rfl | rfl | rfl | rfl | rfl | rfl | rfl | rfl | rfl | rfl | rfl | rfl | rfl | rfl | rfl | rfl | rfl | rfl | rfl
  · exact ti3_ok
  · exact ti4_ok
  · exact ti5_ok
  · exact ti9_ok
  · exact ti20_ok
  · exact ti21_ok
  · exact ti22_ok
  · exact ti24_ok
  · exact ti27_ok
  · exact ti28_ok
  · exact ti29_ok
  · exact ti30_ok
  · exact ti34_ok
  · exact ti36_ok
  · exact ti38_ok
  · exact ti40_ok
  · exact ti41_ok
  · exact ti42_ok
  · exact ti43_ok
  · exact ti45_ok
  · exact ti50_ok
  · exact ti52_ok
  · exact ti53_ok
  · exact ti54_ok
  · exact ti55_ok
  · exact ti56_ok
  · exact ti57_ok
  · exact ti58_ok
  · exact ti59_ok
  · exact ti63_ok
  · exact ti65_ok
  · exact ti66_ok
  · exact ti70_ok
  · exact ti71_ok
  · exact ti72_ok
  · exact ti73_ok
  · exact ti74_ok
  · exact ti75_ok
  · exact ti76_ok
  · exact ti77_ok
  · exact ti81_ok
  · exact ti82_ok
  · exact ti83_ok
  · exact ti84_ok
  · exact ti85_ok
  · exact ti86_ok
  · exact ti87_ok
  · exact ti88_ok
  · exact ti89_ok
  · exact ti90_ok
  · exact ti91_ok
  · exact ti92_ok
  · exact ti93_ok
  · exact ti94_ok
  · exact ti103_ok
  · exact ti104_ok
  · exact ti106_ok
  · exact ti107_ok
  · exact ti108_ok
  · exact ti111_ok
  · exact ti113_ok
  · exact ti114_ok
  · exact ti122_ok
  · exact ti124_ok
  · exact ti125_ok
  · exact ti126_ok
  · exact ti127_ok
  · exact ti128_ok
  · exact ti130_ok
  · exact ti131_ok
  · exact ti132_ok
  · exact ti133_ok
  · exact ti134_ok
  · exact ti135_ok
  · exact ti137_ok
  · exact ti139_ok
  · exact ti140_ok
  · exact ti141_ok
  · exact ti142_ok
  · exact ti143_ok
  · exact ti144_ok
  · exact ti145_ok
  · exact ti150_ok
  · exact ti151_ok
  · exact ti157_ok
  · exact ti158_ok
  · exact ti171_ok
  · exact ti173_ok
  · exact ti183_ok
  · exact ti184_ok
  · exact ti188_ok
  · exact ti194_ok
  · exact ti206_ok
  · exact ti207_ok
  · exact ti220_ok
  · exact ti230_ok
  · exact ti231_ok
  · exact ti232_ok
  · exact ti241_ok
  · exact ti248_ok
  · exact ti250_ok
  · exact ti256_ok
  · exact ti257_ok
  · exact ti264_ok
  · exact ti266_ok
  · exact ti270_ok
  · exact ti280_ok
  · exact ti281_ok
  · exact ti282_ok
  · exact ti283_ok
  · exact ti284_ok
  · exact ti288_ok
  · exact ti293_ok
  · exact ti302_ok
  · exact ti305_ok
  · exact ti306_ok
  · exact ti307_ok
  · exact ti308_ok
theorem follows : Tryz.prog.follows .mixedOrders = true := by kernel_rfl

end Go.Proofs.YtcpoglgnkedpaaaGreatDoor

/-
  The calls of the program's functions, typed (printed by vcgen.py).
-/
namespace Go.Proofs.YtcpoglgnkedpaaaGreatDoor
open Go Go.Vc Go.Proofs

/-- purlin/purlinlaw24.MayFsync -/
def purlinlaw24_MayFsync_3 (a : Sl) (b : Sl) (bits : Int) (sync : Bool) (w : World) (K : Tup [.one .bool] → World → Prop) : Prop :=
  callP Tryz.prog 3 #[Ty.mk (.one .slice) a, Ty.mk (.one .slice) b, Ty.mk (.one (.int .i64)) bits, Ty.mk (.one .bool) sync] [.one .bool] w K

/-- purlin/purlinlaw24.MayRename -/
def purlinlaw24_MayRename_4 (over : Bool) (last : Bool) (w : World) (K : Tup [.one .bool] → World → Prop) : Prop :=
  callP Tryz.prog 4 #[Ty.mk (.one .bool) over, Ty.mk (.one .bool) last] [.one .bool] w K

/-- purlin/purlinlaw24.MayUnlink -/
def purlinlaw24_MayUnlink_5 (two : Bool) (sync : Bool) (w : World) (K : Tup [.one .bool] → World → Prop) : Prop :=
  callP Tryz.prog 5 #[Ty.mk (.one .bool) two, Ty.mk (.one .bool) sync] [.one .bool] w K

/-- purlin/purlinlaw24.MayGrows -/
def purlinlaw24_MayGrows_6 (os : Sl) (w : World) (K : Tup [.one .bool] → World → Prop) : Prop :=
  callP Tryz.prog 6 #[Ty.mk (.one .slice) os] [.one .bool] w K

/-- purlin/purlinlaw24.MayNone -/
def purlinlaw24_MayNone_7 (o : Carr [.int .i64, .int .i64, .int .i64, .int .i64, .int .i64, .str, .str, .slice]) (n : Carr [.str, .int .i64, .int .i64, .int .i64, .slice]) (w : World) (K : Tup [.one .bool] → World → Prop) : Prop :=
  callP Tryz.prog 7 #[Ty.mk (.agg [.int .i64, .int .i64, .int .i64, .int .i64, .int .i64, .str, .str, .slice]) o, Ty.mk (.agg [.str, .int .i64, .int .i64, .int .i64, .slice]) n] [.one .bool] w K

/-- purlin/purlinlaw24.MaySync -/
def purlinlaw24_MaySync_8 (os : Sl) (which : Int) (w : World) (K : Tup [.one .bool] → World → Prop) : Prop :=
  callP Tryz.prog 8 #[Ty.mk (.one .slice) os, Ty.mk (.one (.int .i64)) which] [.one .bool] w K

/-- purlin/purlinlaw24.MayFresh -/
def purlinlaw24_MayFresh_9 (b : Sl) (seen : Bool) (part : Int) (w : World) (K : Tup [.one .bool] → World → Prop) : Prop :=
  callP Tryz.prog 9 #[Ty.mk (.one .slice) b, Ty.mk (.one .bool) seen, Ty.mk (.one (.int .i64)) part] [.one .bool] w K

/-- purlin/purlinlaw24.awake -/
def purlinlaw24_awake_10  (w : World) (K : Tup [.one .bool] → World → Prop) : Prop :=
  callP Tryz.prog 10 #[] [.one .bool] w K

/-- purlin/may.New -/
def may_New_11  (w : World) (K : Tup [.one .ptr] → World → Prop) : Prop :=
  callP Tryz.prog 11 #[] [.one .ptr] w K

/-- purlin/purlinlaw24.one -/
def purlinlaw24_one_12 (h : Option Addr) (o : Carr [.int .i64, .int .i64, .int .i64, .int .i64, .int .i64, .str, .str, .slice]) (number : Int) (w : World) (K : Tup [.one .bool] → World → Prop) : Prop :=
  callP Tryz.prog 12 #[Ty.mk (.one .ptr) h, Ty.mk (.agg [.int .i64, .int .i64, .int .i64, .int .i64, .int .i64, .str, .str, .slice]) o, Ty.mk (.one (.int .i64)) number] [.one .bool] w K

/-- (*purlin/may.History).Allows -/
def may_History_Allows_13 (h : Option Addr) (ns : Sl) (w : World) (K : Tup [.one .bool] → World → Prop) : Prop :=
  callP Tryz.prog 13 #[Ty.mk (.one .ptr) h, Ty.mk (.one .slice) ns] [.one .bool] w K

/-- purlin/purlinlaw0.GreatOps -/
def purlinlaw0_GreatOps_14 (os : Sl) (most : Int) (w : World) (K : Tup [.one .bool] → World → Prop) : Prop :=
  callP Tryz.prog 14 #[Ty.mk (.one .slice) os, Ty.mk (.one (.int .i64)) most] [.one .bool] w K

/-- purlin/purlinref14.New -/
def purlinref14_New_15  (w : World) (K : Tup [.one .ptr] → World → Prop) : Prop :=
  callP Tryz.prog 15 #[] [.one .ptr] w K

/-- (*purlin/may.History).Did -/
def may_History_Did_16 (h : Option Addr) (o : Carr [.int .i64, .int .i64, .int .i64, .int .i64, .int .i64, .str, .str, .slice]) (code : Int) (number : Int) (w : World) (K : Tup [.one .bool] → World → Prop) : Prop :=
  callP Tryz.prog 16 #[Ty.mk (.one .ptr) h, Ty.mk (.agg [.int .i64, .int .i64, .int .i64, .int .i64, .int .i64, .str, .str, .slice]) o, Ty.mk (.one (.int .i64)) code, Ty.mk (.one (.int .i64)) number] [.one .bool] w K

/-- (*purlin/purlinref14.Tree).Do -/
def purlinref14_Tree_Do_17 (t : Option Addr) (o : Carr [.int .i64, .int .i64, .int .i64, .int .i64, .int .i64, .str, .str, .slice]) (w : World) (K : Tup [.agg [.int .i64, .int .i64, .int .i64, .int .i64, .slice, .slice]] → World → Prop) : Prop :=
  callP Tryz.prog 17 #[Ty.mk (.one .ptr) t, Ty.mk (.agg [.int .i64, .int .i64, .int .i64, .int .i64, .int .i64, .str, .str, .slice]) o] [.agg [.int .i64, .int .i64, .int .i64, .int .i64, .slice, .slice]] w K

/-- (*purlin/may.History).Nodes -/
def may_History_Nodes_18 (h : Option Addr) (w : World) (K : Tup [.one .slice] → World → Prop) : Prop :=
  callP Tryz.prog 18 #[Ty.mk (.one .ptr) h] [.one .slice] w K

/-- purlin/purlinlaw0.Great -/
def purlinlaw0_Great_19 (o : Carr [.int .i64, .int .i64, .int .i64, .int .i64, .int .i64, .str, .str, .slice]) (w : World) (K : Tup [.one .bool] → World → Prop) : Prop :=
  callP Tryz.prog 19 #[Ty.mk (.agg [.int .i64, .int .i64, .int .i64, .int .i64, .int .i64, .str, .str, .slice]) o] [.one .bool] w K

/-- (*purlin/may.History).Crashed -/
def may_History_Crashed_20 (h : Option Addr) (ns : Sl) (w : World) (K : Tup [.one .bool] → World → Prop) : Prop :=
  callP Tryz.prog 20 #[Ty.mk (.one .ptr) h, Ty.mk (.one .slice) ns] [.one .bool] w K

/-- purlin/purlinref24.New -/
def purlinref24_New_21  (w : World) (K : Tup [.one .ptr] → World → Prop) : Prop :=
  callP Tryz.prog 21 #[] [.one .ptr] w K

/-- (*purlin/purlinref14.Tree).Copy -/
def purlinref14_Tree_Copy_22 (t : Option Addr) (w : World) (K : Tup [.one .ptr] → World → Prop) : Prop :=
  callP Tryz.prog 22 #[Ty.mk (.one .ptr) t] [.one .ptr] w K

/-- (*purlin/purlinref24.History).Did -/
def purlinref24_History_Did_23 (h : Option Addr) (o : Carr [.int .i64, .int .i64, .int .i64, .int .i64, .int .i64, .str, .str, .slice]) (code : Int) (number : Int) (w : World) (K : Tup [.one .bool] → World → Prop) : Prop :=
  callP Tryz.prog 23 #[Ty.mk (.one .ptr) h, Ty.mk (.agg [.int .i64, .int .i64, .int .i64, .int .i64, .int .i64, .str, .str, .slice]) o, Ty.mk (.one (.int .i64)) code, Ty.mk (.one (.int .i64)) number] [.one .bool] w K

/-- purlin/purlinlaw0.Low -/
def purlinlaw0_Low_24 (x : Int) (n : Int) (w : World) (K : Tup [.one (.int .i64)] → World → Prop) : Prop :=
  callP Tryz.prog 24 #[Ty.mk (.one (.int .i64)) x, Ty.mk (.one (.int .i64)) n] [.one (.int .i64)] w K

/-- purlin/may.begin -/
def may_begin_25 (t : Option Addr) (numbers : Option Nat) (w : World) (K : Tup [.one .ptr] → World → Prop) : Prop :=
  callP Tryz.prog 25 #[Ty.mk (.one .ptr) t, Ty.mk (.one .map) numbers] [.one .ptr] w K

/-- purlin/tree.New -/
def tree_New_26  (w : World) (K : Tup [.one .ptr] → World → Prop) : Prop :=
  callP Tryz.prog 26 #[] [.one .ptr] w K

/-- (*purlin/may.History).seen -/
def may_History_seen_27 (h : Option Addr) (ns : Sl) (w : World) (K : Tup [.one .map, .one .bool] → World → Prop) : Prop :=
  callP Tryz.prog 27 #[Ty.mk (.one .ptr) h, Ty.mk (.one .slice) ns] [.one .map, .one .bool] w K

/-- (*purlin/may.History).fits -/
def may_History_fits_28 (h : Option Addr) (x : Carr [.str, .int .i64, .int .i64, .int .i64, .slice]) (at_ : Option Nat) (many : Option Nat) (w : World) (K : Tup [.one .bool] → World → Prop) : Prop :=
  callP Tryz.prog 28 #[Ty.mk (.one .ptr) h, Ty.mk (.agg [.str, .int .i64, .int .i64, .int .i64, .slice]) x, Ty.mk (.one .map) at_, Ty.mk (.one .map) many] [.one .bool] w K

/-- slices.Contains[[]int,int] -/
def slices_Contains_29 (p0 : Sl) (s : Int) (w : World) (K : Tup [.one .bool] → World → Prop) : Prop :=
  callP Tryz.prog 29 #[Ty.mk (.one .slice) p0, Ty.mk (.one (.int .i64)) s] [.one .bool] w K

/-- strings.TrimSuffix -/
def strings_TrimSuffix_30 (s : ByteArray) (suffix : ByteArray) (w : World) (K : Tup [.one .str] → World → Prop) : Prop :=
  callP Tryz.prog 30 #[Ty.mk (.one .str) s, Ty.mk (.one .str) suffix] [.one .str] w K

/-- (*purlin/tree.Tree).Copy -/
def tree_Tree_Copy_31 (t : Option Addr) (w : World) (K : Tup [.one .ptr] → World → Prop) : Prop :=
  callP Tryz.prog 31 #[Ty.mk (.one .ptr) t] [.one .ptr] w K

/-- (*purlin/tree.Tree).Do -/
def tree_Tree_Do_32 (t : Option Addr) (o : Carr [.int .i64, .int .i64, .int .i64, .int .i64, .int .i64, .str, .str, .slice]) (w : World) (K : Tup [.agg [.int .i64, .int .i64, .int .i64, .int .i64, .slice, .slice]] → World → Prop) : Prop :=
  callP Tryz.prog 32 #[Ty.mk (.one .ptr) t, Ty.mk (.agg [.int .i64, .int .i64, .int .i64, .int .i64, .int .i64, .str, .str, .slice]) o] [.agg [.int .i64, .int .i64, .int .i64, .int .i64, .slice, .slice]] w K

/-- purlin/may.fresh -/
def may_fresh_33 (t : Option Addr) (old : Option Addr) (w : World) (K : Tup [.one (.int .i64)] → World → Prop) : Prop :=
  callP Tryz.prog 33 #[Ty.mk (.one .ptr) t, Ty.mk (.one .ptr) old] [.one (.int .i64)] w K

/-- (*purlin/may.History).note -/
def may_History_note_34 (h : Option Addr) (t : Option Addr) (w : World) (K : Tup [] → World → Prop) : Prop :=
  callP Tryz.prog 34 #[Ty.mk (.one .ptr) h, Ty.mk (.one .ptr) t] [] w K

/-- (*purlin/tree.Tree).Where -/
def tree_Tree_Where_35 (t : Option Addr) (p : ByteArray) (w : World) (K : Tup [.one (.int .i64), .one .str, .one .bool] → World → Prop) : Prop :=
  callP Tryz.prog 35 #[Ty.mk (.one .ptr) t, Ty.mk (.one .str) p] [.one (.int .i64), .one .str, .one .bool] w K

/-- (*purlin/may.History).lasts -/
def may_History_lasts_36 (h : Option Addr) (o : Carr [.int .i64, .int .i64, .int .i64, .int .i64, .int .i64, .str, .str, .slice]) (w : World) (K : Tup [] → World → Prop) : Prop :=
  callP Tryz.prog 36 #[Ty.mk (.one .ptr) h, Ty.mk (.agg [.int .i64, .int .i64, .int .i64, .int .i64, .int .i64, .str, .str, .slice]) o] [] w K

/-- (*purlin/purlinref14.Tree).open -/
def purlinref14_Tree_open_37 (t : Option Addr) (o : Carr [.int .i64, .int .i64, .int .i64, .int .i64, .int .i64, .str, .str, .slice]) (w : World) (K : Tup [.agg [.int .i64, .int .i64, .int .i64, .int .i64, .slice, .slice]] → World → Prop) : Prop :=
  callP Tryz.prog 37 #[Ty.mk (.one .ptr) t, Ty.mk (.agg [.int .i64, .int .i64, .int .i64, .int .i64, .int .i64, .str, .str, .slice]) o] [.agg [.int .i64, .int .i64, .int .i64, .int .i64, .slice, .slice]] w K

/-- (*purlin/purlinref13.Table).Close -/
def purlinref13_Table_Close_38 (t : Option Addr) (fd : Int) (w : World) (K : Tup [.one (.int .i64), .one (.int .i64)] → World → Prop) : Prop :=
  callP Tryz.prog 38 #[Ty.mk (.one .ptr) t, Ty.mk (.one (.int .i64)) fd] [.one (.int .i64), .one (.int .i64)] w K

/-- purlin/purlinref14.code -/
def purlinref14_code_39 (e : Int) (w : World) (K : Tup [.agg [.int .i64, .int .i64, .int .i64, .int .i64, .slice, .slice]] → World → Prop) : Prop :=
  callP Tryz.prog 39 #[Ty.mk (.one (.int .i64)) e] [.agg [.int .i64, .int .i64, .int .i64, .int .i64, .slice, .slice]] w K

/-- (*purlin/purlinref14.Tree).read -/
def purlinref14_Tree_read_40 (t : Option Addr) (o : Carr [.int .i64, .int .i64, .int .i64, .int .i64, .int .i64, .str, .str, .slice]) (w : World) (K : Tup [.agg [.int .i64, .int .i64, .int .i64, .int .i64, .slice, .slice]] → World → Prop) : Prop :=
  callP Tryz.prog 40 #[Ty.mk (.one .ptr) t, Ty.mk (.agg [.int .i64, .int .i64, .int .i64, .int .i64, .int .i64, .str, .str, .slice]) o] [.agg [.int .i64, .int .i64, .int .i64, .int .i64, .slice, .slice]] w K

/-- (*purlin/purlinref14.Tree).writes -/
def purlinref14_Tree_writes_41 (t : Option Addr) (o : Carr [.int .i64, .int .i64, .int .i64, .int .i64, .int .i64, .str, .str, .slice]) (w : World) (K : Tup [.agg [.int .i64, .int .i64, .int .i64, .int .i64, .slice, .slice]] → World → Prop) : Prop :=
  callP Tryz.prog 41 #[Ty.mk (.one .ptr) t, Ty.mk (.agg [.int .i64, .int .i64, .int .i64, .int .i64, .int .i64, .str, .str, .slice]) o] [.agg [.int .i64, .int .i64, .int .i64, .int .i64, .slice, .slice]] w K

/-- (*purlin/purlinref14.Tree).seek -/
def purlinref14_Tree_seek_42 (t : Option Addr) (o : Carr [.int .i64, .int .i64, .int .i64, .int .i64, .int .i64, .str, .str, .slice]) (w : World) (K : Tup [.agg [.int .i64, .int .i64, .int .i64, .int .i64, .slice, .slice]] → World → Prop) : Prop :=
  callP Tryz.prog 42 #[Ty.mk (.one .ptr) t, Ty.mk (.agg [.int .i64, .int .i64, .int .i64, .int .i64, .int .i64, .str, .str, .slice]) o] [.agg [.int .i64, .int .i64, .int .i64, .int .i64, .slice, .slice]] w K

/-- (*purlin/purlinref14.Tree).trunc -/
def purlinref14_Tree_trunc_43 (t : Option Addr) (o : Carr [.int .i64, .int .i64, .int .i64, .int .i64, .int .i64, .str, .str, .slice]) (w : World) (K : Tup [.agg [.int .i64, .int .i64, .int .i64, .int .i64, .slice, .slice]] → World → Prop) : Prop :=
  callP Tryz.prog 43 #[Ty.mk (.one .ptr) t, Ty.mk (.agg [.int .i64, .int .i64, .int .i64, .int .i64, .int .i64, .str, .str, .slice]) o] [.agg [.int .i64, .int .i64, .int .i64, .int .i64, .slice, .slice]] w K

/-- (*purlin/purlinref14.Tree).gone -/
def purlinref14_Tree_gone_44 (t : Option Addr) (o : Carr [.int .i64, .int .i64, .int .i64, .int .i64, .int .i64, .str, .str, .slice]) (w : World) (K : Tup [.agg [.int .i64, .int .i64, .int .i64, .int .i64, .slice, .slice]] → World → Prop) : Prop :=
  callP Tryz.prog 44 #[Ty.mk (.one .ptr) t, Ty.mk (.agg [.int .i64, .int .i64, .int .i64, .int .i64, .int .i64, .str, .str, .slice]) o] [.agg [.int .i64, .int .i64, .int .i64, .int .i64, .slice, .slice]] w K

/-- (*purlin/purlinref14.Tree).names -/
def purlinref14_Tree_names_45 (t : Option Addr) (o : Carr [.int .i64, .int .i64, .int .i64, .int .i64, .int .i64, .str, .str, .slice]) (w : World) (K : Tup [.agg [.int .i64, .int .i64, .int .i64, .int .i64, .slice, .slice]] → World → Prop) : Prop :=
  callP Tryz.prog 45 #[Ty.mk (.one .ptr) t, Ty.mk (.agg [.int .i64, .int .i64, .int .i64, .int .i64, .int .i64, .str, .str, .slice]) o] [.agg [.int .i64, .int .i64, .int .i64, .int .i64, .slice, .slice]] w K

/-- (*purlin/purlinref14.Tree).rename -/
def purlinref14_Tree_rename_46 (t : Option Addr) (o : Carr [.int .i64, .int .i64, .int .i64, .int .i64, .int .i64, .str, .str, .slice]) (w : World) (K : Tup [.agg [.int .i64, .int .i64, .int .i64, .int .i64, .slice, .slice]] → World → Prop) : Prop :=
  callP Tryz.prog 46 #[Ty.mk (.one .ptr) t, Ty.mk (.agg [.int .i64, .int .i64, .int .i64, .int .i64, .int .i64, .str, .str, .slice]) o] [.agg [.int .i64, .int .i64, .int .i64, .int .i64, .slice, .slice]] w K

/-- (*purlin/purlinref14.Tree).looks -/
def purlinref14_Tree_looks_47 (t : Option Addr) (o : Carr [.int .i64, .int .i64, .int .i64, .int .i64, .int .i64, .str, .str, .slice]) (w : World) (K : Tup [.agg [.int .i64, .int .i64, .int .i64, .int .i64, .slice, .slice]] → World → Prop) : Prop :=
  callP Tryz.prog 47 #[Ty.mk (.one .ptr) t, Ty.mk (.agg [.int .i64, .int .i64, .int .i64, .int .i64, .int .i64, .str, .str, .slice]) o] [.agg [.int .i64, .int .i64, .int .i64, .int .i64, .slice, .slice]] w K

/-- (*purlin/purlinref13.Table).There -/
def purlinref13_Table_There_48 (t : Option Addr) (fd : Int) (w : World) (K : Tup [.one .bool] → World → Prop) : Prop :=
  callP Tryz.prog 48 #[Ty.mk (.one .ptr) t, Ty.mk (.one (.int .i64)) fd] [.one .bool] w K

/-- (*purlin/tree.Tree).Nodes -/
def tree_Tree_Nodes_49 (t : Option Addr) (w : World) (K : Tup [.one .slice] → World → Prop) : Prop :=
  callP Tryz.prog 49 #[Ty.mk (.one .ptr) t] [.one .slice] w K

/-- purlin/inode.Need -/
def inode_Need_50 (size : Int) (w : World) (K : Tup [.one (.int .i64)] → World → Prop) : Prop :=
  callP Tryz.prog 50 #[Ty.mk (.one (.int .i64)) size] [.one (.int .i64)] w K

/-- purlin/may.parted -/
def may_parted_51 (p : ByteArray) (w : World) (K : Tup [.one .str, .one .str, .one .bool] → World → Prop) : Prop :=
  callP Tryz.prog 51 #[Ty.mk (.one .str) p] [.one .str, .one .str, .one .bool] w K

/-- slices.Sorted[int] -/
def slices_Sorted_52 (p0 : Value) (w : World) (K : Tup [.one .slice] → World → Prop) : Prop :=
  callP Tryz.prog 52 #[Ty.mk (.one .any) p0] [.one .slice] w K

/-- maps.Keys[map[int]*purlin/tree.File,int,*purlin/tree.File] -/
def maps_Keys_53 (p0 : Option Nat) (w : World) (K : Tup [.one .any] → World → Prop) : Prop :=
  callP Tryz.prog 53 #[Ty.mk (.one .map) p0] [.one .any] w K

/-- purlin/tree.Load -/
def tree_Load_54 (fs : Sl) (w : World) (K : Tup [.one .ptr] → World → Prop) : Prop :=
  callP Tryz.prog 54 #[Ty.mk (.one .slice) fs] [.one .ptr] w K

/-- (*purlin/purlinref24.History).now -/
def purlinref24_History_now_55 (h : Option Addr) (w : World) (K : Tup [.one .ptr, .one (.int .i64)] → World → Prop) : Prop :=
  callP Tryz.prog 55 #[Ty.mk (.one .ptr) h] [.one .ptr, .one (.int .i64)] w K

/-- (*purlin/purlinref24.History).grow -/
def purlinref24_History_grow_56 (h : Option Addr) (number : Int) (w : World) (K : Tup [] → World → Prop) : Prop :=
  callP Tryz.prog 56 #[Ty.mk (.one .ptr) h, Ty.mk (.one (.int .i64)) number] [] w K

/-- (*purlin/purlinref14.Tree).Find -/
def purlinref14_Tree_Find_57 (t : Option Addr) (p : ByteArray) (itself : Bool) (w : World) (K : Tup [.agg [.int .i64, .str, .int .i64], .one (.int .i64)] → World → Prop) : Prop :=
  callP Tryz.prog 57 #[Ty.mk (.one .ptr) t, Ty.mk (.one .str) p, Ty.mk (.one .bool) itself] [.agg [.int .i64, .str, .int .i64], .one (.int .i64)] w K

/-- (*purlin/purlinref24.History).last -/
def purlinref24_History_last_58 (h : Option Addr) (o : Carr [.int .i64, .int .i64, .int .i64, .int .i64, .int .i64, .str, .str, .slice]) (w : World) (K : Tup [] → World → Prop) : Prop :=
  callP Tryz.prog 58 #[Ty.mk (.one .ptr) h, Ty.mk (.agg [.int .i64, .int .i64, .int .i64, .int .i64, .int .i64, .str, .str, .slice]) o] [] w K

/-- (*purlin/may.History).last -/
def may_History_last_59 (h : Option Addr) (e : Carr [.int .i64, .str]) (w : World) (K : Tup [] → World → Prop) : Prop :=
  callP Tryz.prog 59 #[Ty.mk (.one .ptr) h, Ty.mk (.agg [.int .i64, .str]) e] [] w K

/-- (*purlin/may.History).firm -/
def may_History_firm_60 (h : Option Addr) (n : Int) (w : World) (K : Tup [] → World → Prop) : Prop :=
  callP Tryz.prog 60 #[Ty.mk (.one .ptr) h, Ty.mk (.one (.int .i64)) n] [] w K

/-- purlin/table.New -/
def table_New_61  (w : World) (K : Tup [.one .ptr] → World → Prop) : Prop :=
  callP Tryz.prog 61 #[] [.one .ptr] w K

/-- (*purlin/may.History).node -/
def may_History_node_62 (h : Option Addr) (number : Int) (w : World) (K : Tup [.one (.int .i64)] → World → Prop) : Prop :=
  callP Tryz.prog 62 #[Ty.mk (.one .ptr) h, Ty.mk (.one (.int .i64)) number] [.one (.int .i64)] w K

/-- (*purlin/may.History).values -/
def may_History_values_63 (h : Option Addr) (e : Carr [.int .i64, .str]) (w : World) (K : Tup [.one .slice] → World → Prop) : Prop :=
  callP Tryz.prog 63 #[Ty.mk (.one .ptr) h, Ty.mk (.agg [.int .i64, .str]) e] [.one .slice] w K

/-- (*purlin/may.file).holds -/
def may_file_holds_64 (f : Option Addr) (data : Sl) (w : World) (K : Tup [.one .bool] → World → Prop) : Prop :=
  callP Tryz.prog 64 #[Ty.mk (.one .ptr) f, Ty.mk (.one .slice) data] [.one .bool] w K

/-- slices.Index[[]int,int] -/
def slices_Index_65 (p0 : Sl) (s : Int) (w : World) (K : Tup [.one (.int .i64)] → World → Prop) : Prop :=
  callP Tryz.prog 65 #[Ty.mk (.one .slice) p0, Ty.mk (.one (.int .i64)) s] [.one (.int .i64)] w K

/-- internal/stringslite.TrimSuffix -/
def stringslite_TrimSuffix_66 (s : ByteArray) (suffix : ByteArray) (w : World) (K : Tup [.one .str] → World → Prop) : Prop :=
  callP Tryz.prog 66 #[Ty.mk (.one .str) s, Ty.mk (.one .str) suffix] [.one .str] w K

/-- slices.Clone[[]byte,byte] -/
def slices_Clone_67 (p0 : Sl) (w : World) (K : Tup [.one .slice] → World → Prop) : Prop :=
  callP Tryz.prog 67 #[Ty.mk (.one .slice) p0] [.one .slice] w K

/-- slices.Clone[[]bool,bool] -/
def slices_Clone_68 (p0 : Sl) (w : World) (K : Tup [.one .slice] → World → Prop) : Prop :=
  callP Tryz.prog 68 #[Ty.mk (.one .slice) p0] [.one .slice] w K

/-- maps.Clone[map[string]int,string,int] -/
def maps_Clone_69 (p0 : Option Nat) (w : World) (K : Tup [.one .map] → World → Prop) : Prop :=
  callP Tryz.prog 69 #[Ty.mk (.one .map) p0] [.one .map] w K

/-- purlin/tree.code -/
def tree_code_70 (e : Int) (w : World) (K : Tup [.agg [.int .i64, .int .i64, .int .i64, .int .i64, .slice, .slice]] → World → Prop) : Prop :=
  callP Tryz.prog 70 #[Ty.mk (.one (.int .i64)) e] [.agg [.int .i64, .int .i64, .int .i64, .int .i64, .slice, .slice]] w K

/-- (*purlin/tree.Tree).open -/
def tree_Tree_open_71 (t : Option Addr) (o : Carr [.int .i64, .int .i64, .int .i64, .int .i64, .int .i64, .str, .str, .slice]) (w : World) (K : Tup [.agg [.int .i64, .int .i64, .int .i64, .int .i64, .slice, .slice]] → World → Prop) : Prop :=
  callP Tryz.prog 71 #[Ty.mk (.one .ptr) t, Ty.mk (.agg [.int .i64, .int .i64, .int .i64, .int .i64, .int .i64, .str, .str, .slice]) o] [.agg [.int .i64, .int .i64, .int .i64, .int .i64, .slice, .slice]] w K

/-- (*purlin/tree.Tree).close -/
def tree_Tree_close_72 (t : Option Addr) (fd : Int) (w : World) (K : Tup [.agg [.int .i64, .int .i64, .int .i64, .int .i64, .slice, .slice]] → World → Prop) : Prop :=
  callP Tryz.prog 72 #[Ty.mk (.one .ptr) t, Ty.mk (.one (.int .i64)) fd] [.agg [.int .i64, .int .i64, .int .i64, .int .i64, .slice, .slice]] w K

/-- (*purlin/tree.Tree).read -/
def tree_Tree_read_73 (t : Option Addr) (o : Carr [.int .i64, .int .i64, .int .i64, .int .i64, .int .i64, .str, .str, .slice]) (w : World) (K : Tup [.agg [.int .i64, .int .i64, .int .i64, .int .i64, .slice, .slice]] → World → Prop) : Prop :=
  callP Tryz.prog 73 #[Ty.mk (.one .ptr) t, Ty.mk (.agg [.int .i64, .int .i64, .int .i64, .int .i64, .int .i64, .str, .str, .slice]) o] [.agg [.int .i64, .int .i64, .int .i64, .int .i64, .slice, .slice]] w K

/-- (*purlin/tree.Tree).write -/
def tree_Tree_write_74 (t : Option Addr) (o : Carr [.int .i64, .int .i64, .int .i64, .int .i64, .int .i64, .str, .str, .slice]) (w : World) (K : Tup [.agg [.int .i64, .int .i64, .int .i64, .int .i64, .slice, .slice]] → World → Prop) : Prop :=
  callP Tryz.prog 74 #[Ty.mk (.one .ptr) t, Ty.mk (.agg [.int .i64, .int .i64, .int .i64, .int .i64, .int .i64, .str, .str, .slice]) o] [.agg [.int .i64, .int .i64, .int .i64, .int .i64, .slice, .slice]] w K

/-- (*purlin/tree.Tree).seek -/
def tree_Tree_seek_75 (t : Option Addr) (o : Carr [.int .i64, .int .i64, .int .i64, .int .i64, .int .i64, .str, .str, .slice]) (w : World) (K : Tup [.agg [.int .i64, .int .i64, .int .i64, .int .i64, .slice, .slice]] → World → Prop) : Prop :=
  callP Tryz.prog 75 #[Ty.mk (.one .ptr) t, Ty.mk (.agg [.int .i64, .int .i64, .int .i64, .int .i64, .int .i64, .str, .str, .slice]) o] [.agg [.int .i64, .int .i64, .int .i64, .int .i64, .slice, .slice]] w K

/-- (*purlin/tree.Tree).trunc -/
def tree_Tree_trunc_76 (t : Option Addr) (o : Carr [.int .i64, .int .i64, .int .i64, .int .i64, .int .i64, .str, .str, .slice]) (w : World) (K : Tup [.agg [.int .i64, .int .i64, .int .i64, .int .i64, .slice, .slice]] → World → Prop) : Prop :=
  callP Tryz.prog 76 #[Ty.mk (.one .ptr) t, Ty.mk (.agg [.int .i64, .int .i64, .int .i64, .int .i64, .int .i64, .str, .str, .slice]) o] [.agg [.int .i64, .int .i64, .int .i64, .int .i64, .slice, .slice]] w K

/-- (*purlin/tree.Tree).fresh -/
def tree_Tree_fresh_77 (t : Option Addr) (p : ByteArray) (w : World) (K : Tup [.agg [.int .i64, .int .i64, .str], .one (.int .i64)] → World → Prop) : Prop :=
  callP Tryz.prog 77 #[Ty.mk (.one .ptr) t, Ty.mk (.one .str) p] [.agg [.int .i64, .int .i64, .str], .one (.int .i64)] w K

/-- (*purlin/tree.Tree).make -/
def tree_Tree_make_78 (t : Option Addr) (s : Carr [.int .i64, .int .i64, .str]) (kind : Int) (data : ByteArray) (w : World) (K : Tup [.one (.int .i64)] → World → Prop) : Prop :=
  callP Tryz.prog 78 #[Ty.mk (.one .ptr) t, Ty.mk (.agg [.int .i64, .int .i64, .str]) s, Ty.mk (.one (.int .i64)) kind, Ty.mk (.one .str) data] [.one (.int .i64)] w K

/-- (*purlin/tree.Tree).remove -/
def tree_Tree_remove_79 (t : Option Addr) (o : Carr [.int .i64, .int .i64, .int .i64, .int .i64, .int .i64, .str, .str, .slice]) (w : World) (K : Tup [.agg [.int .i64, .int .i64, .int .i64, .int .i64, .slice, .slice]] → World → Prop) : Prop :=
  callP Tryz.prog 79 #[Ty.mk (.one .ptr) t, Ty.mk (.agg [.int .i64, .int .i64, .int .i64, .int .i64, .int .i64, .str, .str, .slice]) o] [.agg [.int .i64, .int .i64, .int .i64, .int .i64, .slice, .slice]] w K

/-- (*purlin/tree.Tree).link -/
def tree_Tree_link_80 (t : Option Addr) (o : Carr [.int .i64, .int .i64, .int .i64, .int .i64, .int .i64, .str, .str, .slice]) (w : World) (K : Tup [.agg [.int .i64, .int .i64, .int .i64, .int .i64, .slice, .slice]] → World → Prop) : Prop :=
  callP Tryz.prog 80 #[Ty.mk (.one .ptr) t, Ty.mk (.agg [.int .i64, .int .i64, .int .i64, .int .i64, .int .i64, .str, .str, .slice]) o] [.agg [.int .i64, .int .i64, .int .i64, .int .i64, .slice, .slice]] w K

/-- (*purlin/tree.Tree).symlink -/
def tree_Tree_symlink_81 (t : Option Addr) (o : Carr [.int .i64, .int .i64, .int .i64, .int .i64, .int .i64, .str, .str, .slice]) (w : World) (K : Tup [.agg [.int .i64, .int .i64, .int .i64, .int .i64, .slice, .slice]] → World → Prop) : Prop :=
  callP Tryz.prog 81 #[Ty.mk (.one .ptr) t, Ty.mk (.agg [.int .i64, .int .i64, .int .i64, .int .i64, .int .i64, .str, .str, .slice]) o] [.agg [.int .i64, .int .i64, .int .i64, .int .i64, .slice, .slice]] w K

/-- (*purlin/tree.Tree).list -/
def tree_Tree_list_82 (t : Option Addr) (o : Carr [.int .i64, .int .i64, .int .i64, .int .i64, .int .i64, .str, .str, .slice]) (w : World) (K : Tup [.agg [.int .i64, .int .i64, .int .i64, .int .i64, .slice, .slice]] → World → Prop) : Prop :=
  callP Tryz.prog 82 #[Ty.mk (.one .ptr) t, Ty.mk (.agg [.int .i64, .int .i64, .int .i64, .int .i64, .int .i64, .str, .str, .slice]) o] [.agg [.int .i64, .int .i64, .int .i64, .int .i64, .slice, .slice]] w K

/-- (*purlin/tree.Tree).rename -/
def tree_Tree_rename_83 (t : Option Addr) (o : Carr [.int .i64, .int .i64, .int .i64, .int .i64, .int .i64, .str, .str, .slice]) (w : World) (K : Tup [.agg [.int .i64, .int .i64, .int .i64, .int .i64, .slice, .slice]] → World → Prop) : Prop :=
  callP Tryz.prog 83 #[Ty.mk (.one .ptr) t, Ty.mk (.agg [.int .i64, .int .i64, .int .i64, .int .i64, .int .i64, .str, .str, .slice]) o] [.agg [.int .i64, .int .i64, .int .i64, .int .i64, .slice, .slice]] w K

/-- (*purlin/tree.Tree).stat -/
def tree_Tree_stat_84 (t : Option Addr) (o : Carr [.int .i64, .int .i64, .int .i64, .int .i64, .int .i64, .str, .str, .slice]) (w : World) (K : Tup [.agg [.int .i64, .int .i64, .int .i64, .int .i64, .slice, .slice]] → World → Prop) : Prop :=
  callP Tryz.prog 84 #[Ty.mk (.one .ptr) t, Ty.mk (.agg [.int .i64, .int .i64, .int .i64, .int .i64, .int .i64, .str, .str, .slice]) o] [.agg [.int .i64, .int .i64, .int .i64, .int .i64, .slice, .slice]] w K

/-- (*purlin/tree.Tree).lasts -/
def tree_Tree_lasts_85 (t : Option Addr) (fd : Int) (w : World) (K : Tup [.agg [.int .i64, .int .i64, .int .i64, .int .i64, .slice, .slice]] → World → Prop) : Prop :=
  callP Tryz.prog 85 #[Ty.mk (.one .ptr) t, Ty.mk (.one (.int .i64)) fd] [.agg [.int .i64, .int .i64, .int .i64, .int .i64, .slice, .slice]] w K

/-- (*purlin/tree.Tree).Files -/
def tree_Tree_Files_86 (t : Option Addr) (w : World) (K : Tup [.one .slice] → World → Prop) : Prop :=
  callP Tryz.prog 86 #[Ty.mk (.one .ptr) t] [.one .slice] w K

/-- slices.ContainsFunc[[]purlin/tree.File,purlin/tree.File] -/
def slices_ContainsFunc_87 (p0 : Sl) (s : Value) (w : World) (K : Tup [.one .bool] → World → Prop) : Prop :=
  callP Tryz.prog 87 #[Ty.mk (.one .slice) p0, Ty.mk (.one .any) s] [.one .bool] w K

/-- purlin/may.fresh$1 -/
def may_fresh_1_88 (y : Carr [.int .i64, .int .i64, .int .i64, .slice, .slice, .map]) (p1 : Option Addr) (w : World) (K : Tup [.one .bool] → World → Prop) : Prop :=
  callP Tryz.prog 88 #[Ty.mk (.agg [.int .i64, .int .i64, .int .i64, .slice, .slice, .map]) y, Ty.mk (.one .ptr) p1] [.one .bool] w K

/-- (*purlin/may.file).write -/
def may_file_write_89 (f : Option Addr) (data : Sl) (w : World) (K : Tup [] → World → Prop) : Prop :=
  callP Tryz.prog 89 #[Ty.mk (.one .ptr) f, Ty.mk (.one .slice) data] [] w K

/-- (*purlin/may.History).set -/
def may_History_set_90 (h : Option Addr) (e : Carr [.int .i64, .str]) (n : Int) (w : World) (K : Tup [] → World → Prop) : Prop :=
  callP Tryz.prog 90 #[Ty.mk (.one .ptr) h, Ty.mk (.agg [.int .i64, .str]) e, Ty.mk (.one (.int .i64)) n] [] w K

/-- (*purlin/tree.Tree).find -/
def tree_Tree_find_91 (t : Option Addr) (p : ByteArray) (follow : Bool) (w : World) (K : Tup [.agg [.int .i64, .int .i64, .str], .one (.int .i64)] → World → Prop) : Prop :=
  callP Tryz.prog 91 #[Ty.mk (.one .ptr) t, Ty.mk (.one .str) p, Ty.mk (.one .bool) follow] [.agg [.int .i64, .int .i64, .str], .one (.int .i64)] w K

/-- (*purlin/tree.Tree).Open -/
def tree_Tree_Open_92 (t : Option Addr) (fd : Int) (w : World) (K : Tup [.one (.int .i64), .one (.int .i64), .one .bool] → World → Prop) : Prop :=
  callP Tryz.prog 92 #[Ty.mk (.one .ptr) t, Ty.mk (.one (.int .i64)) fd] [.one (.int .i64), .one (.int .i64), .one .bool] w K

/-- (*purlin/may.History).above -/
def may_History_above_93 (h : Option Addr) (dir : Int) (w : World) (K : Tup [] → World → Prop) : Prop :=
  callP Tryz.prog 93 #[Ty.mk (.one .ptr) h, Ty.mk (.one (.int .i64)) dir] [] w K

/-- (*purlin/may.History).now -/
def may_History_now_94 (h : Option Addr) (e : Carr [.int .i64, .str]) (w : World) (K : Tup [.one (.int .i64)] → World → Prop) : Prop :=
  callP Tryz.prog 94 #[Ty.mk (.one .ptr) h, Ty.mk (.agg [.int .i64, .str]) e] [.one (.int .i64)] w K

/-- (*purlin/purlinref14.Tree).Place -/
def purlinref14_Tree_Place_95 (t : Option Addr) (p : ByteArray) (w : World) (K : Tup [.agg [.int .i64, .str, .int .i64], .one (.int .i64)] → World → Prop) : Prop :=
  callP Tryz.prog 95 #[Ty.mk (.one .ptr) t, Ty.mk (.one .str) p] [.agg [.int .i64, .str, .int .i64], .one (.int .i64)] w K

/-- (*purlin/purlinref13.Table).List -/
def purlinref13_Table_List_96 (t : Option Addr) (w : World) (K : Tup [.one .slice] → World → Prop) : Prop :=
  callP Tryz.prog 96 #[Ty.mk (.one .ptr) t] [.one .slice] w K

/-- (*purlin/purlinref14.Tree).fresh -/
def purlinref14_Tree_fresh_97 (t : Option Addr) (s : Carr [.int .i64, .str, .int .i64]) (kind : Int) (data : ByteArray) (w : World) (K : Tup [.one (.int .i64)] → World → Prop) : Prop :=
  callP Tryz.prog 97 #[Ty.mk (.one .ptr) t, Ty.mk (.agg [.int .i64, .str, .int .i64]) s, Ty.mk (.one (.int .i64)) kind, Ty.mk (.one .str) data] [.one (.int .i64)] w K

/-- (*purlin/purlinref14.Tree).resize -/
def purlinref14_Tree_resize_98 (t : Option Addr) (n : Int) (size : Int) (w : World) (K : Tup [] → World → Prop) : Prop :=
  callP Tryz.prog 98 #[Ty.mk (.one .ptr) t, Ty.mk (.one (.int .i64)) n, Ty.mk (.one (.int .i64)) size] [] w K

/-- (*purlin/purlinref13.Table).Open -/
def purlinref13_Table_Open_99 (t : Option Addr) (node : Int) (flags : Int) (w : World) (K : Tup [.one (.int .i64), .one (.int .i64)] → World → Prop) : Prop :=
  callP Tryz.prog 99 #[Ty.mk (.one .ptr) t, Ty.mk (.one (.int .i64)) node, Ty.mk (.one (.int .i64)) flags] [.one (.int .i64), .one (.int .i64)] w K

/-- (*purlin/purlinref14.Tree).write -/
def purlinref14_Tree_write_100 (t : Option Addr) (n : Int) (off : Int) (b : Sl) (w : World) (K : Tup [] → World → Prop) : Prop :=
  callP Tryz.prog 100 #[Ty.mk (.one .ptr) t, Ty.mk (.one (.int .i64)) n, Ty.mk (.one (.int .i64)) off, Ty.mk (.one .slice) b] [] w K

/-- (*purlin/purlinref14.Tree).take -/
def purlinref14_Tree_take_101 (t : Option Addr) (dir : Int) (name : ByteArray) (w : World) (K : Tup [] → World → Prop) : Prop :=
  callP Tryz.prog 101 #[Ty.mk (.one .ptr) t, Ty.mk (.one (.int .i64)) dir, Ty.mk (.one .str) name] [] w K

/-- purlin/purlinref12.Target -/
def purlinref12_Target_102 (t : ByteArray) (w : World) (K : Tup [.one .slice, .one .bool, .one (.int .i64)] → World → Prop) : Prop :=
  callP Tryz.prog 102 #[Ty.mk (.one .str) t] [.one .slice, .one .bool, .one (.int .i64)] w K

/-- (*purlin/purlinref14.Tree).Put -/
def purlinref14_Tree_Put_103 (t : Option Addr) (dir : Int) (name : ByteArray) (node : Int) (w : World) (K : Tup [] → World → Prop) : Prop :=
  callP Tryz.prog 103 #[Ty.mk (.one .ptr) t, Ty.mk (.one (.int .i64)) dir, Ty.mk (.one .str) name, Ty.mk (.one (.int .i64)) node] [] w K

/-- purlin/purlinref12.Last -/
def purlinref12_Last_104 (p : ByteArray) (w : World) (K : Tup [.one .str, .one .str, .one (.int .i64)] → World → Prop) : Prop :=
  callP Tryz.prog 104 #[Ty.mk (.one .str) p] [.one .str, .one .str, .one (.int .i64)] w K

/-- (*purlin/purlinref14.Tree).within -/
def purlinref14_Tree_within_105 (t : Option Addr) (dir : Int) (top : Int) (w : World) (K : Tup [.one .bool] → World → Prop) : Prop :=
  callP Tryz.prog 105 #[Ty.mk (.one .ptr) t, Ty.mk (.one (.int .i64)) dir, Ty.mk (.one (.int .i64)) top] [.one .bool] w K

/-- (*purlin/purlinref14.Tree).Path -/
def purlinref14_Tree_Path_106 (t : Option Addr) (dir : Int) (w : World) (K : Tup [.one .str, .one (.int .i64)] → World → Prop) : Prop :=
  callP Tryz.prog 106 #[Ty.mk (.one .ptr) t, Ty.mk (.one (.int .i64)) dir] [.one .str, .one (.int .i64)] w K

/-- (*purlin/purlinref14.Tree).deep -/
def purlinref14_Tree_deep_107 (t : Option Addr) (dir : Int) (bytes : Int) (parts : Int) (w : World) (K : Tup [.one .bool] → World → Prop) : Prop :=
  callP Tryz.prog 107 #[Ty.mk (.one .ptr) t, Ty.mk (.one (.int .i64)) dir, Ty.mk (.one (.int .i64)) bytes, Ty.mk (.one (.int .i64)) parts] [.one .bool] w K

/-- (*purlin/tree.Tree).Nodes$1 -/
def tree_Tree_Nodes_1_108 (n : Int) (p : ByteArray) (p2 : Option Addr) (p3 : Option Addr) (p4 : Option Addr) (w : World) (K : Tup [] → World → Prop) : Prop :=
  callP Tryz.prog 108 #[Ty.mk (.one (.int .i64)) n, Ty.mk (.one .str) p, Ty.mk (.one .ptr) p2, Ty.mk (.one .ptr) p3, Ty.mk (.one .ptr) p4] [] w K

/-- cmp.Or[string] -/
def cmp_Or_109 (p0 : Sl) (w : World) (K : Tup [.one .str] → World → Prop) : Prop :=
  callP Tryz.prog 109 #[Ty.mk (.one .slice) p0] [.one .str] w K

/-- slices.SortFunc[[]purlin/api.Node,purlin/api.Node] -/
def slices_SortFunc_110 (p0 : Sl) (x : Value) (w : World) (K : Tup [] → World → Prop) : Prop :=
  callP Tryz.prog 110 #[Ty.mk (.one .slice) p0, Ty.mk (.one .any) x] [] w K

/-- (*purlin/tree.Tree).Nodes$2 -/
def tree_Tree_Nodes_2_111 (a : Carr [.str, .int .i64, .int .i64, .int .i64, .slice]) (b : Carr [.str, .int .i64, .int .i64, .int .i64, .slice]) (w : World) (K : Tup [.one (.int .i64)] → World → Prop) : Prop :=
  callP Tryz.prog 111 #[Ty.mk (.agg [.str, .int .i64, .int .i64, .int .i64, .slice]) a, Ty.mk (.agg [.str, .int .i64, .int .i64, .int .i64, .slice]) b] [.one (.int .i64)] w K

/-- strings.Compare -/
def strings_Compare_112 (a : ByteArray) (b : ByteArray) (w : World) (K : Tup [.one (.int .i64)] → World → Prop) : Prop :=
  callP Tryz.prog 112 #[Ty.mk (.one .str) a, Ty.mk (.one .str) b] [.one (.int .i64)] w K

/-- strings.LastIndexByte -/
def strings_LastIndexByte_113 (s : ByteArray) (c : Int) (w : World) (K : Tup [.one (.int .i64)] → World → Prop) : Prop :=
  callP Tryz.prog 113 #[Ty.mk (.one .str) s, Ty.mk (.one (.int .u8)) c] [.one (.int .i64)] w K

/-- slices.Collect[int] -/
def slices_Collect_114 (p0 : Value) (w : World) (K : Tup [.one .slice] → World → Prop) : Prop :=
  callP Tryz.prog 114 #[Ty.mk (.one .any) p0] [.one .slice] w K

/-- slices.Sort[[]int,int] -/
def slices_Sort_115 (p0 : Sl) (w : World) (K : Tup [] → World → Prop) : Prop :=
  callP Tryz.prog 115 #[Ty.mk (.one .slice) p0] [] w K

/-- maps.Keys[map[int]*purlin/tree.File,int,*purlin/tree.File]$1 -/
def maps_Keys_1_116 (yield : Value) (p1 : Option Addr) (w : World) (K : Tup [] → World → Prop) : Prop :=
  callP Tryz.prog 116 #[Ty.mk (.one .any) yield, Ty.mk (.one .ptr) p1] [] w K

/-- purlin/purlinref12.Split -/
def purlinref12_Split_117 (p : ByteArray) (w : World) (K : Tup [.one .slice, .one (.int .i64)] → World → Prop) : Prop :=
  callP Tryz.prog 117 #[Ty.mk (.one .str) p] [.one .slice, .one (.int .i64)] w K

/-- (*purlin/purlinref14.Tree).walk -/
def purlinref14_Tree_walk_118 (t : Option Addr) (left : Sl) (itself : Bool) (w : World) (K : Tup [.agg [.int .i64, .str, .int .i64], .one (.int .i64)] → World → Prop) : Prop :=
  callP Tryz.prog 118 #[Ty.mk (.one .ptr) t, Ty.mk (.one .slice) left, Ty.mk (.one .bool) itself] [.agg [.int .i64, .str, .int .i64], .one (.int .i64)] w K

/-- (*purlin/purlinref24.History).synced -/
def purlinref24_History_synced_119 (h : Option Addr) (fd : Int) (w : World) (K : Tup [] → World → Prop) : Prop :=
  callP Tryz.prog 119 #[Ty.mk (.one .ptr) h, Ty.mk (.one (.int .i64)) fd] [] w K

/-- (*purlin/may.History).links -/
def may_History_links_120 (h : Option Addr) (n : Int) (w : World) (K : Tup [.one (.int .i64)] → World → Prop) : Prop :=
  callP Tryz.prog 120 #[Ty.mk (.one .ptr) h, Ty.mk (.one (.int .i64)) n] [.one (.int .i64)] w K

/-- cmp.Or[int] -/
def cmp_Or_121 (p0 : Sl) (w : World) (K : Tup [.one (.int .i64)] → World → Prop) : Prop :=
  callP Tryz.prog 121 #[Ty.mk (.one .slice) p0] [.one (.int .i64)] w K

/-- (*purlin/may.History).youngest -/
def may_History_youngest_122 (h : Option Addr) (number : Int) (w : World) (K : Tup [.one (.int .i64)] → World → Prop) : Prop :=
  callP Tryz.prog 122 #[Ty.mk (.one .ptr) h, Ty.mk (.one (.int .i64)) number] [.one (.int .i64)] w K

/-- purlin/may.part -/
def may_part_123 (data : Sl) (k : Int) (w : World) (K : Tup [.one .slice] → World → Prop) : Prop :=
  callP Tryz.prog 123 #[Ty.mk (.one .slice) data, Ty.mk (.one (.int .i64)) k] [.one .slice] w K

/-- slices.ContainsFunc[[][]byte,[]byte] -/
def slices_ContainsFunc_124 (p0 : Sl) (s : Value) (w : World) (K : Tup [.one .bool] → World → Prop) : Prop :=
  callP Tryz.prog 124 #[Ty.mk (.one .slice) p0, Ty.mk (.one .any) s] [.one .bool] w K

/-- (*purlin/may.file).holds$1 -/
def may_file_holds_1_125 (b : Sl) (p1 : Option Addr) (w : World) (K : Tup [.one .bool] → World → Prop) : Prop :=
  callP Tryz.prog 125 #[Ty.mk (.one .slice) b, Ty.mk (.one .ptr) p1] [.one .bool] w K

/-- bytes.HasPrefix -/
def bytes_HasPrefix_126 (s : Sl) (prefix_ : Sl) (w : World) (K : Tup [.one .bool] → World → Prop) : Prop :=
  callP Tryz.prog 126 #[Ty.mk (.one .slice) s, Ty.mk (.one .slice) prefix_] [.one .bool] w K

/-- internal/stringslite.HasSuffix -/
def stringslite_HasSuffix_127 (s : ByteArray) (suffix : ByteArray) (w : World) (K : Tup [.one .bool] → World → Prop) : Prop :=
  callP Tryz.prog 127 #[Ty.mk (.one .str) s, Ty.mk (.one .str) suffix] [.one .bool] w K

/-- maps.clone -/
def maps_clone_128 (m : Value) (w : World) (K : Tup [.one .any] → World → Prop) : Prop :=
  callP Tryz.prog 128 #[Ty.mk (.one .any) m] [.one .any] w K

/-- (*purlin/tree.Tree).place -/
def tree_Tree_place_129 (t : Option Addr) (p : ByteArray) (w : World) (K : Tup [.agg [.int .i64, .int .i64, .str], .one (.int .i64)] → World → Prop) : Prop :=
  callP Tryz.prog 129 #[Ty.mk (.one .ptr) t, Ty.mk (.one .str) p] [.agg [.int .i64, .int .i64, .str], .one (.int .i64)] w K

/-- (*purlin/table.Table).List -/
def table_Table_List_130 (t : Option Addr) (w : World) (K : Tup [.one .slice] → World → Prop) : Prop :=
  callP Tryz.prog 130 #[Ty.mk (.one .ptr) t] [.one .slice] w K

/-- (*purlin/tree.Tree).resize -/
def tree_Tree_resize_131 (t : Option Addr) (n : Int) (size : Int) (w : World) (K : Tup [] → World → Prop) : Prop :=
  callP Tryz.prog 131 #[Ty.mk (.one .ptr) t, Ty.mk (.one (.int .i64)) n, Ty.mk (.one (.int .i64)) size] [] w K

/-- (*purlin/table.Table).Open -/
def table_Table_Open_132 (t : Option Addr) (node : Int) (flags : Int) (w : World) (K : Tup [.one (.int .i64), .one (.int .i64)] → World → Prop) : Prop :=
  callP Tryz.prog 132 #[Ty.mk (.one .ptr) t, Ty.mk (.one (.int .i64)) node, Ty.mk (.one (.int .i64)) flags] [.one (.int .i64), .one (.int .i64)] w K

/-- (*purlin/table.Table).Close -/
def table_Table_Close_133 (t : Option Addr) (fd : Int) (w : World) (K : Tup [.one (.int .i64), .one (.int .i64)] → World → Prop) : Prop :=
  callP Tryz.prog 133 #[Ty.mk (.one .ptr) t, Ty.mk (.one (.int .i64)) fd] [.one (.int .i64), .one (.int .i64)] w K

/-- (*purlin/tree.Tree).forget -/
def tree_Tree_forget_134 (t : Option Addr) (n : Int) (w : World) (K : Tup [] → World → Prop) : Prop :=
  callP Tryz.prog 134 #[Ty.mk (.one .ptr) t, Ty.mk (.one (.int .i64)) n] [] w K

/-- (*purlin/tree.Tree).file -/
def tree_Tree_file_135 (t : Option Addr) (fd : Int) (write : Bool) (w : World) (K : Tup [.agg [.int .i64, .int .i64, .int .i64], .one .ptr, .one (.int .i64)] → World → Prop) : Prop :=
  callP Tryz.prog 135 #[Ty.mk (.one .ptr) t, Ty.mk (.one (.int .i64)) fd, Ty.mk (.one .bool) write] [.agg [.int .i64, .int .i64, .int .i64], .one .ptr, .one (.int .i64)] w K

/-- (*purlin/table.Table).Move -/
def table_Table_Move_136 (t : Option Addr) (fd : Int) (off : Int) (w : World) (K : Tup [.one (.int .i64)] → World → Prop) : Prop :=
  callP Tryz.prog 136 #[Ty.mk (.one .ptr) t, Ty.mk (.one (.int .i64)) fd, Ty.mk (.one (.int .i64)) off] [.one (.int .i64)] w K

/-- (*purlin/tree.Tree).add -/
def tree_Tree_add_137 (t : Option Addr) (dir : Int) (name : ByteArray) (n : Int) (w : World) (K : Tup [] → World → Prop) : Prop :=
  callP Tryz.prog 137 #[Ty.mk (.one .ptr) t, Ty.mk (.one (.int .i64)) dir, Ty.mk (.one .str) name, Ty.mk (.one (.int .i64)) n] [] w K

/-- (*purlin/tree.Tree).take -/
def tree_Tree_take_138 (t : Option Addr) (dir : Int) (name : ByteArray) (w : World) (K : Tup [] → World → Prop) : Prop :=
  callP Tryz.prog 138 #[Ty.mk (.one .ptr) t, Ty.mk (.one (.int .i64)) dir, Ty.mk (.one .str) name] [] w K

/-- purlin/path.Target -/
def path_Target_139 (t : ByteArray) (w : World) (K : Tup [.one .slice, .one .bool, .one (.int .i64)] → World → Prop) : Prop :=
  callP Tryz.prog 139 #[Ty.mk (.one .str) t] [.one .slice, .one .bool, .one (.int .i64)] w K

/-- slices.Sorted[string] -/
def slices_Sorted_140 (p0 : Value) (w : World) (K : Tup [.one .slice] → World → Prop) : Prop :=
  callP Tryz.prog 140 #[Ty.mk (.one .any) p0] [.one .slice] w K

/-- maps.Keys[map[string]int,string,int] -/
def maps_Keys_141 (p0 : Option Nat) (w : World) (K : Tup [.one .any] → World → Prop) : Prop :=
  callP Tryz.prog 141 #[Ty.mk (.one .map) p0] [.one .any] w K

/-- purlin/path.Last -/
def path_Last_142 (p : ByteArray) (w : World) (K : Tup [.one .str, .one .str, .one (.int .i64)] → World → Prop) : Prop :=
  callP Tryz.prog 142 #[Ty.mk (.one .str) p] [.one .str, .one .str, .one (.int .i64)] w K

/-- (*purlin/tree.Tree).within -/
def tree_Tree_within_143 (t : Option Addr) (n : Int) (d : Int) (w : World) (K : Tup [.one .bool] → World → Prop) : Prop :=
  callP Tryz.prog 143 #[Ty.mk (.one .ptr) t, Ty.mk (.one (.int .i64)) n, Ty.mk (.one (.int .i64)) d] [.one .bool] w K

/-- (*purlin/tree.Tree).deep -/
def tree_Tree_deep_144 (t : Option Addr) (n : Int) (parts : Sl) (w : World) (K : Tup [.one .bool] → World → Prop) : Prop :=
  callP Tryz.prog 144 #[Ty.mk (.one .ptr) t, Ty.mk (.one (.int .i64)) n, Ty.mk (.one .slice) parts] [.one .bool] w K

/-- (*purlin/tree.Tree).way -/
def tree_Tree_way_145 (t : Option Addr) (n : Int) (w : World) (K : Tup [.one .slice] → World → Prop) : Prop :=
  callP Tryz.prog 145 #[Ty.mk (.one .ptr) t, Ty.mk (.one (.int .i64)) n] [.one .slice] w K

/-- (*purlin/table.Table).Get -/
def table_Table_Get_146 (t : Option Addr) (fd : Int) (w : World) (K : Tup [.agg [.int .i64, .int .i64, .int .i64], .one (.int .i64)] → World → Prop) : Prop :=
  callP Tryz.prog 146 #[Ty.mk (.one .ptr) t, Ty.mk (.one (.int .i64)) fd] [.agg [.int .i64, .int .i64, .int .i64], .one (.int .i64)] w K

/-- maps.Keys[map[int]*purlin/tree.node,int,*purlin/tree.node] -/
def maps_Keys_147 (p0 : Option Nat) (w : World) (K : Tup [.one .any] → World → Prop) : Prop :=
  callP Tryz.prog 147 #[Ty.mk (.one .map) p0] [.one .any] w K

/-- slices.IndexFunc[[]purlin/tree.File,purlin/tree.File] -/
def slices_IndexFunc_148 (p0 : Sl) (s : Value) (w : World) (K : Tup [.one (.int .i64)] → World → Prop) : Prop :=
  callP Tryz.prog 148 #[Ty.mk (.one .slice) p0, Ty.mk (.one .any) s] [.one (.int .i64)] w K

/-- purlin/may.value -/
def may_value_149 (l : Sl) (w : World) (K : Tup [.one (.int .i64)] → World → Prop) : Prop :=
  callP Tryz.prog 149 #[Ty.mk (.one .slice) l] [.one (.int .i64)] w K

/-- bytes.Equal -/
def bytes_Equal_150 (a : Sl) (b : Sl) (w : World) (K : Tup [.one .bool] → World → Prop) : Prop :=
  callP Tryz.prog 150 #[Ty.mk (.one .slice) a, Ty.mk (.one .slice) b] [.one .bool] w K

/-- purlin/path.Split -/
def path_Split_151 (p : ByteArray) (w : World) (K : Tup [.one .slice, .one (.int .i64)] → World → Prop) : Prop :=
  callP Tryz.prog 151 #[Ty.mk (.one .str) p] [.one .slice, .one (.int .i64)] w K

/-- (*purlin/tree.Tree).walk -/
def tree_Tree_walk_152 (t : Option Addr) (at_ : Int) (parts : Sl) (follow : Bool) (w : World) (K : Tup [.agg [.int .i64, .int .i64, .str], .one (.int .i64)] → World → Prop) : Prop :=
  callP Tryz.prog 152 #[Ty.mk (.one .ptr) t, Ty.mk (.one (.int .i64)) at_, Ty.mk (.one .slice) parts, Ty.mk (.one .bool) follow] [.agg [.int .i64, .int .i64, .str], .one (.int .i64)] w K

/-- (*purlin/tree.Tree).Way -/
def tree_Tree_Way_153 (t : Option Addr) (n : Int) (w : World) (K : Tup [.one .slice, .one .bool] → World → Prop) : Prop :=
  callP Tryz.prog 153 #[Ty.mk (.one .ptr) t, Ty.mk (.one (.int .i64)) n] [.one .slice, .one .bool] w K

/-- purlin/purlinref14.long -/
def purlinref14_long_154 (bytes : Int) (parts : Int) (w : World) (K : Tup [.one .bool] → World → Prop) : Prop :=
  callP Tryz.prog 154 #[Ty.mk (.one (.int .i64)) bytes, Ty.mk (.one (.int .i64)) parts] [.one .bool] w K

/-- (*purlin/purlinref14.Tree).Look -/
def purlinref14_Tree_Look_155 (t : Option Addr) (dir : Int) (name : ByteArray) (w : World) (K : Tup [.one (.int .i64)] → World → Prop) : Prop :=
  callP Tryz.prog 155 #[Ty.mk (.one .ptr) t, Ty.mk (.one (.int .i64)) dir, Ty.mk (.one .str) name] [.one (.int .i64)] w K

/-- purlin/purlinref7.Need -/
def purlinref7_Need_156 (size : Int) (w : World) (K : Tup [.one (.int .i64)] → World → Prop) : Prop :=
  callP Tryz.prog 156 #[Ty.mk (.one (.int .i64)) size] [.one (.int .i64)] w K

/-- purlin/purlinref12.zero -/
def purlinref12_zero_157 (p : ByteArray) (w : World) (K : Tup [.one .bool] → World → Prop) : Prop :=
  callP Tryz.prog 157 #[Ty.mk (.one .str) p] [.one .bool] w K

/-- purlin/purlinref12.long -/
def purlinref12_long_158 (ps : Sl) (w : World) (K : Tup [.one .bool] → World → Prop) : Prop :=
  callP Tryz.prog 158 #[Ty.mk (.one .slice) ps] [.one .bool] w K

/-- purlin/purlinref12.parts -/
def purlinref12_parts_159 (p : ByteArray) (w : World) (K : Tup [.one .slice] → World → Prop) : Prop :=
  callP Tryz.prog 159 #[Ty.mk (.one .str) p] [.one .slice] w K

/-- purlin/purlinref12.Join -/
def purlinref12_Join_160 (ps : Sl) (w : World) (K : Tup [.one .str] → World → Prop) : Prop :=
  callP Tryz.prog 160 #[Ty.mk (.one .slice) ps] [.one .str] w K

/-- slices.pdqsortCmpFunc[purlin/api.Node] -/
def slices_pdqsortCmpFunc_161 (p0 : Sl) (data : Int) (a : Int) (b : Int) (limit : Value) (w : World) (K : Tup [] → World → Prop) : Prop :=
  callP Tryz.prog 161 #[Ty.mk (.one .slice) p0, Ty.mk (.one (.int .i64)) data, Ty.mk (.one (.int .i64)) a, Ty.mk (.one (.int .i64)) b, Ty.mk (.one .any) limit] [] w K

/-- math/bits.Len -/
def bits_Len_162 (x : Int) (w : World) (K : Tup [.one (.int .i64)] → World → Prop) : Prop :=
  callP Tryz.prog 162 #[Ty.mk (.one (.int .u64)) x] [.one (.int .i64)] w K

/-- internal/bytealg.CompareString -/
def bytealg_CompareString_163 (a : ByteArray) (b : ByteArray) (w : World) (K : Tup [.one (.int .i64)] → World → Prop) : Prop :=
  callP Tryz.prog 163 #[Ty.mk (.one .str) a, Ty.mk (.one .str) b] [.one (.int .i64)] w K

/-- internal/bytealg.LastIndexByteString -/
def bytealg_LastIndexByteString_164 (s : ByteArray) (c : Int) (w : World) (K : Tup [.one (.int .i64)] → World → Prop) : Prop :=
  callP Tryz.prog 164 #[Ty.mk (.one .str) s, Ty.mk (.one (.int .u8)) c] [.one (.int .i64)] w K

/-- slices.AppendSeq[[]int,int] -/
def slices_AppendSeq_165 (p0 : Sl) (s : Value) (w : World) (K : Tup [.one .slice] → World → Prop) : Prop :=
  callP Tryz.prog 165 #[Ty.mk (.one .slice) p0, Ty.mk (.one .any) s] [.one .slice] w K

/-- slices.pdqsortOrdered[int] -/
def slices_pdqsortOrdered_166 (p0 : Sl) (data : Int) (a : Int) (b : Int) (w : World) (K : Tup [] → World → Prop) : Prop :=
  callP Tryz.prog 166 #[Ty.mk (.one .slice) p0, Ty.mk (.one (.int .i64)) data, Ty.mk (.one (.int .i64)) a, Ty.mk (.one (.int .i64)) b] [] w K

/-- (*purlin/purlinref24.History).entry -/
def purlinref24_History_entry_167 (h : Option Addr) (dir : Int) (name : ByteArray) (w : World) (K : Tup [] → World → Prop) : Prop :=
  callP Tryz.prog 167 #[Ty.mk (.one .ptr) h, Ty.mk (.one (.int .i64)) dir, Ty.mk (.one .str) name] [] w K

/-- (*purlin/purlinref24.History).up -/
def purlinref24_History_up_168 (h : Option Addr) (dir : Int) (w : World) (K : Tup [] → World → Prop) : Prop :=
  callP Tryz.prog 168 #[Ty.mk (.one .ptr) h, Ty.mk (.one (.int .i64)) dir] [] w K

/-- slices.IndexFunc[[][]byte,[]byte] -/
def slices_IndexFunc_169 (p0 : Sl) (s : Value) (w : World) (K : Tup [.one (.int .i64)] → World → Prop) : Prop :=
  callP Tryz.prog 169 #[Ty.mk (.one .slice) p0, Ty.mk (.one .any) s] [.one (.int .i64)] w K

/-- purlin/tree.long -/
def tree_long_170 (parts : Sl) (w : World) (K : Tup [.one .bool] → World → Prop) : Prop :=
  callP Tryz.prog 170 #[Ty.mk (.one .slice) parts] [.one .bool] w K

/-- slices.IndexFunc[[]purlin/table.slot,purlin/table.slot] -/
def slices_IndexFunc_171 (p0 : Sl) (s : Value) (w : World) (K : Tup [.one (.int .i64)] → World → Prop) : Prop :=
  callP Tryz.prog 171 #[Ty.mk (.one .slice) p0, Ty.mk (.one .any) s] [.one (.int .i64)] w K

/-- (*purlin/table.Table).Open$1 -/
def table_Table_Open_1_172 (s : Carr [.int .i64, .int .i64, .int .i64, .bool]) (w : World) (K : Tup [.one .bool] → World → Prop) : Prop :=
  callP Tryz.prog 172 #[Ty.mk (.agg [.int .i64, .int .i64, .int .i64, .bool]) s] [.one .bool] w K

/-- (*purlin/table.Table).at -/
def table_Table_at_173 (t : Option Addr) (fd : Int) (w : World) (K : Tup [.one .ptr, .one (.int .i64)] → World → Prop) : Prop :=
  callP Tryz.prog 173 #[Ty.mk (.one .ptr) t, Ty.mk (.one (.int .i64)) fd] [.one .ptr, .one (.int .i64)] w K

/-- (*purlin/table.Table).Holds -/
def table_Table_Holds_174 (t : Option Addr) (node : Int) (w : World) (K : Tup [.one .bool] → World → Prop) : Prop :=
  callP Tryz.prog 174 #[Ty.mk (.one .ptr) t, Ty.mk (.one (.int .i64)) node] [.one .bool] w K

/-- strings.Contains -/
def strings_Contains_175 (s : ByteArray) (substr : ByteArray) (w : World) (K : Tup [.one .bool] → World → Prop) : Prop :=
  callP Tryz.prog 175 #[Ty.mk (.one .str) s, Ty.mk (.one .str) substr] [.one .bool] w K

/-- purlin/path.parts -/
def path_parts_176 (s : ByteArray) (w : World) (K : Tup [.one .slice, .one .bool] → World → Prop) : Prop :=
  callP Tryz.prog 176 #[Ty.mk (.one .str) s] [.one .slice, .one .bool] w K

/-- strings.HasPrefix -/
def strings_HasPrefix_177 (s : ByteArray) (prefix_ : ByteArray) (w : World) (K : Tup [.one .bool] → World → Prop) : Prop :=
  callP Tryz.prog 177 #[Ty.mk (.one .str) s, Ty.mk (.one .str) prefix_] [.one .bool] w K

/-- slices.Collect[string] -/
def slices_Collect_178 (p0 : Value) (w : World) (K : Tup [.one .slice] → World → Prop) : Prop :=
  callP Tryz.prog 178 #[Ty.mk (.one .any) p0] [.one .slice] w K

/-- slices.Sort[[]string,string] -/
def slices_Sort_179 (p0 : Sl) (w : World) (K : Tup [] → World → Prop) : Prop :=
  callP Tryz.prog 179 #[Ty.mk (.one .slice) p0] [] w K

/-- maps.Keys[map[string]int,string,int]$1 -/
def maps_Keys_1_180 (yield : Value) (p1 : Option Addr) (w : World) (K : Tup [] → World → Prop) : Prop :=
  callP Tryz.prog 180 #[Ty.mk (.one .any) yield, Ty.mk (.one .ptr) p1] [] w K

/-- purlin/path.Join -/
def path_Join_181 (parts : Sl) (w : World) (K : Tup [.one .str] → World → Prop) : Prop :=
  callP Tryz.prog 181 #[Ty.mk (.one .slice) parts] [.one .str] w K

/-- slices.Clone[[]string,string] -/
def slices_Clone_182 (p0 : Sl) (w : World) (K : Tup [.one .slice] → World → Prop) : Prop :=
  callP Tryz.prog 182 #[Ty.mk (.one .slice) p0] [.one .slice] w K

/-- slices.Reverse[[]string,string] -/
def slices_Reverse_183 (p0 : Sl) (w : World) (K : Tup [] → World → Prop) : Prop :=
  callP Tryz.prog 183 #[Ty.mk (.one .slice) p0] [] w K

/-- maps.Keys[map[int]*purlin/tree.node,int,*purlin/tree.node]$1 -/
def maps_Keys_1_184 (yield : Value) (p1 : Option Addr) (w : World) (K : Tup [] → World → Prop) : Prop :=
  callP Tryz.prog 184 #[Ty.mk (.one .any) yield, Ty.mk (.one .ptr) p1] [] w K

/-- (*purlin/tree.Tree).above -/
def tree_Tree_above_185 (t : Option Addr) (n : Int) (w : World) (K : Tup [.one (.int .i64)] → World → Prop) : Prop :=
  callP Tryz.prog 185 #[Ty.mk (.one .ptr) t, Ty.mk (.one (.int .i64)) n] [.one (.int .i64)] w K

/-- slices.Concat[[]string,string] -/
def slices_Concat_186 (p0 : Sl) (w : World) (K : Tup [.one .slice] → World → Prop) : Prop :=
  callP Tryz.prog 186 #[Ty.mk (.one .slice) p0] [.one .slice] w K

/-- slices.Reverse[[]int,int] -/
def slices_Reverse_187 (p0 : Sl) (w : World) (K : Tup [] → World → Prop) : Prop :=
  callP Tryz.prog 187 #[Ty.mk (.one .slice) p0] [] w K

/-- slices.insertionSortCmpFunc[purlin/api.Node] -/
def slices_insertionSortCmpFunc_188 (p0 : Sl) (data : Int) (a : Int) (b : Value) (w : World) (K : Tup [] → World → Prop) : Prop :=
  callP Tryz.prog 188 #[Ty.mk (.one .slice) p0, Ty.mk (.one (.int .i64)) data, Ty.mk (.one (.int .i64)) a, Ty.mk (.one .any) b] [] w K

/-- slices.heapSortCmpFunc[purlin/api.Node] -/
def slices_heapSortCmpFunc_189 (p0 : Sl) (data : Int) (a : Int) (b : Value) (w : World) (K : Tup [] → World → Prop) : Prop :=
  callP Tryz.prog 189 #[Ty.mk (.one .slice) p0, Ty.mk (.one (.int .i64)) data, Ty.mk (.one (.int .i64)) a, Ty.mk (.one .any) b] [] w K

/-- slices.breakPatternsCmpFunc[purlin/api.Node] -/
def slices_breakPatternsCmpFunc_190 (p0 : Sl) (data : Int) (a : Int) (b : Value) (w : World) (K : Tup [] → World → Prop) : Prop :=
  callP Tryz.prog 190 #[Ty.mk (.one .slice) p0, Ty.mk (.one (.int .i64)) data, Ty.mk (.one (.int .i64)) a, Ty.mk (.one .any) b] [] w K

/-- slices.choosePivotCmpFunc[purlin/api.Node] -/
def slices_choosePivotCmpFunc_191 (p0 : Sl) (data : Int) (a : Int) (b : Value) (w : World) (K : Tup [.one (.int .i64), .one (.int .i64)] → World → Prop) : Prop :=
  callP Tryz.prog 191 #[Ty.mk (.one .slice) p0, Ty.mk (.one (.int .i64)) data, Ty.mk (.one (.int .i64)) a, Ty.mk (.one .any) b] [.one (.int .i64), .one (.int .i64)] w K

/-- slices.reverseRangeCmpFunc[purlin/api.Node] -/
def slices_reverseRangeCmpFunc_192 (p0 : Sl) (data : Int) (a : Int) (b : Value) (w : World) (K : Tup [] → World → Prop) : Prop :=
  callP Tryz.prog 192 #[Ty.mk (.one .slice) p0, Ty.mk (.one (.int .i64)) data, Ty.mk (.one (.int .i64)) a, Ty.mk (.one .any) b] [] w K

/-- slices.partialInsertionSortCmpFunc[purlin/api.Node] -/
def slices_partialInsertionSortCmpFunc_193 (p0 : Sl) (data : Int) (a : Int) (b : Value) (w : World) (K : Tup [.one .bool] → World → Prop) : Prop :=
  callP Tryz.prog 193 #[Ty.mk (.one .slice) p0, Ty.mk (.one (.int .i64)) data, Ty.mk (.one (.int .i64)) a, Ty.mk (.one .any) b] [.one .bool] w K

/-- slices.partitionEqualCmpFunc[purlin/api.Node] -/
def slices_partitionEqualCmpFunc_194 (p0 : Sl) (data : Int) (a : Int) (b : Int) (pivot : Value) (w : World) (K : Tup [.one (.int .i64)] → World → Prop) : Prop :=
  callP Tryz.prog 194 #[Ty.mk (.one .slice) p0, Ty.mk (.one (.int .i64)) data, Ty.mk (.one (.int .i64)) a, Ty.mk (.one (.int .i64)) b, Ty.mk (.one .any) pivot] [.one (.int .i64)] w K

/-- slices.partitionCmpFunc[purlin/api.Node] -/
def slices_partitionCmpFunc_195 (p0 : Sl) (data : Int) (a : Int) (b : Int) (pivot : Value) (w : World) (K : Tup [.one (.int .i64), .one .bool] → World → Prop) : Prop :=
  callP Tryz.prog 195 #[Ty.mk (.one .slice) p0, Ty.mk (.one (.int .i64)) data, Ty.mk (.one (.int .i64)) a, Ty.mk (.one (.int .i64)) b, Ty.mk (.one .any) pivot] [.one (.int .i64), .one .bool] w K

/-- math/bits.Len32 -/
def bits_Len32_196 (x : Int) (w : World) (K : Tup [.one (.int .i64)] → World → Prop) : Prop :=
  callP Tryz.prog 196 #[Ty.mk (.one (.int .u32)) x] [.one (.int .i64)] w K

/-- math/bits.Len64 -/
def bits_Len64_197 (x : Int) (w : World) (K : Tup [.one (.int .i64)] → World → Prop) : Prop :=
  callP Tryz.prog 197 #[Ty.mk (.one (.int .u64)) x] [.one (.int .i64)] w K

/-- slices.insertionSortOrdered[int] -/
def slices_insertionSortOrdered_199 (p0 : Sl) (data : Int) (a : Int) (w : World) (K : Tup [] → World → Prop) : Prop :=
  callP Tryz.prog 199 #[Ty.mk (.one .slice) p0, Ty.mk (.one (.int .i64)) data, Ty.mk (.one (.int .i64)) a] [] w K

/-- slices.heapSortOrdered[int] -/
def slices_heapSortOrdered_200 (p0 : Sl) (data : Int) (a : Int) (w : World) (K : Tup [] → World → Prop) : Prop :=
  callP Tryz.prog 200 #[Ty.mk (.one .slice) p0, Ty.mk (.one (.int .i64)) data, Ty.mk (.one (.int .i64)) a] [] w K

/-- slices.breakPatternsOrdered[int] -/
def slices_breakPatternsOrdered_201 (p0 : Sl) (data : Int) (a : Int) (w : World) (K : Tup [] → World → Prop) : Prop :=
  callP Tryz.prog 201 #[Ty.mk (.one .slice) p0, Ty.mk (.one (.int .i64)) data, Ty.mk (.one (.int .i64)) a] [] w K

/-- slices.choosePivotOrdered[int] -/
def slices_choosePivotOrdered_202 (p0 : Sl) (data : Int) (a : Int) (w : World) (K : Tup [.one (.int .i64), .one (.int .i64)] → World → Prop) : Prop :=
  callP Tryz.prog 202 #[Ty.mk (.one .slice) p0, Ty.mk (.one (.int .i64)) data, Ty.mk (.one (.int .i64)) a] [.one (.int .i64), .one (.int .i64)] w K

/-- slices.reverseRangeOrdered[int] -/
def slices_reverseRangeOrdered_203 (p0 : Sl) (data : Int) (a : Int) (w : World) (K : Tup [] → World → Prop) : Prop :=
  callP Tryz.prog 203 #[Ty.mk (.one .slice) p0, Ty.mk (.one (.int .i64)) data, Ty.mk (.one (.int .i64)) a] [] w K

/-- slices.partialInsertionSortOrdered[int] -/
def slices_partialInsertionSortOrdered_204 (p0 : Sl) (data : Int) (a : Int) (w : World) (K : Tup [.one .bool] → World → Prop) : Prop :=
  callP Tryz.prog 204 #[Ty.mk (.one .slice) p0, Ty.mk (.one (.int .i64)) data, Ty.mk (.one (.int .i64)) a] [.one .bool] w K

/-- cmp.Less[int] -/
def cmp_Less_205 (p0 : Int) (x : Int) (w : World) (K : Tup [.one .bool] → World → Prop) : Prop :=
  callP Tryz.prog 205 #[Ty.mk (.one (.int .i64)) p0, Ty.mk (.one (.int .i64)) x] [.one .bool] w K

/-- slices.partitionEqualOrdered[int] -/
def slices_partitionEqualOrdered_206 (p0 : Sl) (data : Int) (a : Int) (b : Int) (w : World) (K : Tup [.one (.int .i64)] → World → Prop) : Prop :=
  callP Tryz.prog 206 #[Ty.mk (.one .slice) p0, Ty.mk (.one (.int .i64)) data, Ty.mk (.one (.int .i64)) a, Ty.mk (.one (.int .i64)) b] [.one (.int .i64)] w K

/-- slices.partitionOrdered[int] -/
def slices_partitionOrdered_207 (p0 : Sl) (data : Int) (a : Int) (b : Int) (w : World) (K : Tup [.one (.int .i64), .one .bool] → World → Prop) : Prop :=
  callP Tryz.prog 207 #[Ty.mk (.one .slice) p0, Ty.mk (.one (.int .i64)) data, Ty.mk (.one (.int .i64)) a, Ty.mk (.one (.int .i64)) b] [.one (.int .i64), .one .bool] w K

/-- slices.ContainsFunc[[]purlin/table.slot,purlin/table.slot] -/
def slices_ContainsFunc_208 (p0 : Sl) (s : Value) (w : World) (K : Tup [.one .bool] → World → Prop) : Prop :=
  callP Tryz.prog 208 #[Ty.mk (.one .slice) p0, Ty.mk (.one .any) s] [.one .bool] w K

/-- (*purlin/table.Table).Holds$1 -/
def table_Table_Holds_1_209 (s : Carr [.int .i64, .int .i64, .int .i64, .bool]) (p1 : Option Addr) (w : World) (K : Tup [.one .bool] → World → Prop) : Prop :=
  callP Tryz.prog 209 #[Ty.mk (.agg [.int .i64, .int .i64, .int .i64, .bool]) s, Ty.mk (.one .ptr) p1] [.one .bool] w K

/-- strings.Index -/
def strings_Index_210 (s : ByteArray) (substr : ByteArray) (w : World) (K : Tup [.one (.int .i64)] → World → Prop) : Prop :=
  callP Tryz.prog 210 #[Ty.mk (.one .str) s, Ty.mk (.one .str) substr] [.one (.int .i64)] w K

/-- strings.Split -/
def strings_Split_211 (s : ByteArray) (sep : ByteArray) (w : World) (K : Tup [.one .slice] → World → Prop) : Prop :=
  callP Tryz.prog 211 #[Ty.mk (.one .str) s, Ty.mk (.one .str) sep] [.one .slice] w K

/-- strings.Clone -/
def strings_Clone_212 (s : ByteArray) (w : World) (K : Tup [.one .str] → World → Prop) : Prop :=
  callP Tryz.prog 212 #[Ty.mk (.one .str) s] [.one .str] w K

/-- internal/stringslite.HasPrefix -/
def stringslite_HasPrefix_213 (s : ByteArray) (prefix_ : ByteArray) (w : World) (K : Tup [.one .bool] → World → Prop) : Prop :=
  callP Tryz.prog 213 #[Ty.mk (.one .str) s, Ty.mk (.one .str) prefix_] [.one .bool] w K

/-- slices.AppendSeq[[]string,string] -/
def slices_AppendSeq_214 (p0 : Sl) (s : Value) (w : World) (K : Tup [.one .slice] → World → Prop) : Prop :=
  callP Tryz.prog 214 #[Ty.mk (.one .slice) p0, Ty.mk (.one .any) s] [.one .slice] w K

/-- slices.pdqsortOrdered[string] -/
def slices_pdqsortOrdered_215 (p0 : Sl) (data : Int) (a : Int) (b : Int) (w : World) (K : Tup [] → World → Prop) : Prop :=
  callP Tryz.prog 215 #[Ty.mk (.one .slice) p0, Ty.mk (.one (.int .i64)) data, Ty.mk (.one (.int .i64)) a, Ty.mk (.one (.int .i64)) b] [] w K

/-- strings.Join -/
def strings_Join_216 (elems : Sl) (sep : ByteArray) (w : World) (K : Tup [.one .str] → World → Prop) : Prop :=
  callP Tryz.prog 216 #[Ty.mk (.one .slice) elems, Ty.mk (.one .str) sep] [.one .str] w K

/-- slices.Grow[[]string,string] -/
def slices_Grow_217 (p0 : Sl) (s : Int) (w : World) (K : Tup [.one .slice] → World → Prop) : Prop :=
  callP Tryz.prog 217 #[Ty.mk (.one .slice) p0, Ty.mk (.one (.int .i64)) s] [.one .slice] w K

/-- slices.siftDownCmpFunc[purlin/api.Node] -/
def slices_siftDownCmpFunc_218 (p0 : Sl) (data : Int) (lo : Int) (hi : Int) (first : Value) (w : World) (K : Tup [] → World → Prop) : Prop :=
  callP Tryz.prog 218 #[Ty.mk (.one .slice) p0, Ty.mk (.one (.int .i64)) data, Ty.mk (.one (.int .i64)) lo, Ty.mk (.one (.int .i64)) hi, Ty.mk (.one .any) first] [] w K

/-- slices.nextPowerOfTwo -/
def slices_nextPowerOfTwo_219 (length : Int) (w : World) (K : Tup [.one (.int .u64)] → World → Prop) : Prop :=
  callP Tryz.prog 219 #[Ty.mk (.one (.int .i64)) length] [.one (.int .u64)] w K

/-- (*slices.xorshift).Next -/
def slices_xorshift_Next_220 (r : Option Addr) (w : World) (K : Tup [.one (.int .u64)] → World → Prop) : Prop :=
  callP Tryz.prog 220 #[Ty.mk (.one .ptr) r] [.one (.int .u64)] w K

/-- slices.medianAdjacentCmpFunc[purlin/api.Node] -/
def slices_medianAdjacentCmpFunc_221 (p0 : Sl) (data : Int) (a : Option Addr) (swaps : Value) (w : World) (K : Tup [.one (.int .i64)] → World → Prop) : Prop :=
  callP Tryz.prog 221 #[Ty.mk (.one .slice) p0, Ty.mk (.one (.int .i64)) data, Ty.mk (.one .ptr) a, Ty.mk (.one .any) swaps] [.one (.int .i64)] w K

/-- slices.medianCmpFunc[purlin/api.Node] -/
def slices_medianCmpFunc_222 (p0 : Sl) (data : Int) (a : Int) (b : Int) (c : Option Addr) (swaps : Value) (w : World) (K : Tup [.one (.int .i64)] → World → Prop) : Prop :=
  callP Tryz.prog 222 #[Ty.mk (.one .slice) p0, Ty.mk (.one (.int .i64)) data, Ty.mk (.one (.int .i64)) a, Ty.mk (.one (.int .i64)) b, Ty.mk (.one .ptr) c, Ty.mk (.one .any) swaps] [.one (.int .i64)] w K

/-- slices.siftDownOrdered[int] -/
def slices_siftDownOrdered_223 (p0 : Sl) (data : Int) (lo : Int) (hi : Int) (w : World) (K : Tup [] → World → Prop) : Prop :=
  callP Tryz.prog 223 #[Ty.mk (.one .slice) p0, Ty.mk (.one (.int .i64)) data, Ty.mk (.one (.int .i64)) lo, Ty.mk (.one (.int .i64)) hi] [] w K

/-- slices.medianAdjacentOrdered[int] -/
def slices_medianAdjacentOrdered_224 (p0 : Sl) (data : Int) (a : Option Addr) (w : World) (K : Tup [.one (.int .i64)] → World → Prop) : Prop :=
  callP Tryz.prog 224 #[Ty.mk (.one .slice) p0, Ty.mk (.one (.int .i64)) data, Ty.mk (.one .ptr) a] [.one (.int .i64)] w K

/-- slices.medianOrdered[int] -/
def slices_medianOrdered_225 (p0 : Sl) (data : Int) (a : Int) (b : Int) (c : Option Addr) (w : World) (K : Tup [.one (.int .i64)] → World → Prop) : Prop :=
  callP Tryz.prog 225 #[Ty.mk (.one .slice) p0, Ty.mk (.one (.int .i64)) data, Ty.mk (.one (.int .i64)) a, Ty.mk (.one (.int .i64)) b, Ty.mk (.one .ptr) c] [.one (.int .i64)] w K

/-- cmp.isNaN[int] -/
def cmp_isNaN_226 (p0 : Int) (w : World) (K : Tup [.one .bool] → World → Prop) : Prop :=
  callP Tryz.prog 226 #[Ty.mk (.one (.int .i64)) p0] [.one .bool] w K

/-- internal/stringslite.Index -/
def stringslite_Index_227 (s : ByteArray) (substr : ByteArray) (w : World) (K : Tup [.one (.int .i64)] → World → Prop) : Prop :=
  callP Tryz.prog 227 #[Ty.mk (.one .str) s, Ty.mk (.one .str) substr] [.one (.int .i64)] w K

/-- strings.genSplit -/
def strings_genSplit_228 (s : ByteArray) (sep : ByteArray) (sepSave : Int) (n : Int) (w : World) (K : Tup [.one .slice] → World → Prop) : Prop :=
  callP Tryz.prog 228 #[Ty.mk (.one .str) s, Ty.mk (.one .str) sep, Ty.mk (.one (.int .i64)) sepSave, Ty.mk (.one (.int .i64)) n] [.one .slice] w K

/-- internal/stringslite.Clone -/
def stringslite_Clone_229 (s : ByteArray) (w : World) (K : Tup [.one .str] → World → Prop) : Prop :=
  callP Tryz.prog 229 #[Ty.mk (.one .str) s] [.one .str] w K

/-- slices.insertionSortOrdered[string] -/
def slices_insertionSortOrdered_230 (p0 : Sl) (data : Int) (a : Int) (w : World) (K : Tup [] → World → Prop) : Prop :=
  callP Tryz.prog 230 #[Ty.mk (.one .slice) p0, Ty.mk (.one (.int .i64)) data, Ty.mk (.one (.int .i64)) a] [] w K

/-- slices.heapSortOrdered[string] -/
def slices_heapSortOrdered_231 (p0 : Sl) (data : Int) (a : Int) (w : World) (K : Tup [] → World → Prop) : Prop :=
  callP Tryz.prog 231 #[Ty.mk (.one .slice) p0, Ty.mk (.one (.int .i64)) data, Ty.mk (.one (.int .i64)) a] [] w K

/-- slices.breakPatternsOrdered[string] -/
def slices_breakPatternsOrdered_232 (p0 : Sl) (data : Int) (a : Int) (w : World) (K : Tup [] → World → Prop) : Prop :=
  callP Tryz.prog 232 #[Ty.mk (.one .slice) p0, Ty.mk (.one (.int .i64)) data, Ty.mk (.one (.int .i64)) a] [] w K

/-- slices.choosePivotOrdered[string] -/
def slices_choosePivotOrdered_233 (p0 : Sl) (data : Int) (a : Int) (w : World) (K : Tup [.one (.int .i64), .one (.int .i64)] → World → Prop) : Prop :=
  callP Tryz.prog 233 #[Ty.mk (.one .slice) p0, Ty.mk (.one (.int .i64)) data, Ty.mk (.one (.int .i64)) a] [.one (.int .i64), .one (.int .i64)] w K

/-- slices.reverseRangeOrdered[string] -/
def slices_reverseRangeOrdered_234 (p0 : Sl) (data : Int) (a : Int) (w : World) (K : Tup [] → World → Prop) : Prop :=
  callP Tryz.prog 234 #[Ty.mk (.one .slice) p0, Ty.mk (.one (.int .i64)) data, Ty.mk (.one (.int .i64)) a] [] w K

/-- slices.partialInsertionSortOrdered[string] -/
def slices_partialInsertionSortOrdered_235 (p0 : Sl) (data : Int) (a : Int) (w : World) (K : Tup [.one .bool] → World → Prop) : Prop :=
  callP Tryz.prog 235 #[Ty.mk (.one .slice) p0, Ty.mk (.one (.int .i64)) data, Ty.mk (.one (.int .i64)) a] [.one .bool] w K

/-- cmp.Less[string] -/
def cmp_Less_236 (p0 : ByteArray) (x : ByteArray) (w : World) (K : Tup [.one .bool] → World → Prop) : Prop :=
  callP Tryz.prog 236 #[Ty.mk (.one .str) p0, Ty.mk (.one .str) x] [.one .bool] w K

/-- slices.partitionEqualOrdered[string] -/
def slices_partitionEqualOrdered_237 (p0 : Sl) (data : Int) (a : Int) (b : Int) (w : World) (K : Tup [.one (.int .i64)] → World → Prop) : Prop :=
  callP Tryz.prog 237 #[Ty.mk (.one .slice) p0, Ty.mk (.one (.int .i64)) data, Ty.mk (.one (.int .i64)) a, Ty.mk (.one (.int .i64)) b] [.one (.int .i64)] w K

/-- slices.partitionOrdered[string] -/
def slices_partitionOrdered_238 (p0 : Sl) (data : Int) (a : Int) (b : Int) (w : World) (K : Tup [.one (.int .i64), .one .bool] → World → Prop) : Prop :=
  callP Tryz.prog 238 #[Ty.mk (.one .slice) p0, Ty.mk (.one (.int .i64)) data, Ty.mk (.one (.int .i64)) a, Ty.mk (.one (.int .i64)) b] [.one (.int .i64), .one .bool] w K

/-- (*strings.Builder).Grow -/
def strings_Builder_Grow_239 (b : Option Addr) (n : Int) (w : World) (K : Tup [] → World → Prop) : Prop :=
  callP Tryz.prog 239 #[Ty.mk (.one .ptr) b, Ty.mk (.one (.int .i64)) n] [] w K

/-- (*strings.Builder).WriteString -/
def strings_Builder_WriteString_240 (b : Option Addr) (s : ByteArray) (w : World) (K : Tup [.one (.int .i64), .one .any] → World → Prop) : Prop :=
  callP Tryz.prog 240 #[Ty.mk (.one .ptr) b, Ty.mk (.one .str) s] [.one (.int .i64), .one .any] w K

/-- (*strings.Builder).String -/
def strings_Builder_String_241 (b : Option Addr) (w : World) (K : Tup [.one .str] → World → Prop) : Prop :=
  callP Tryz.prog 241 #[Ty.mk (.one .ptr) b] [.one .str] w K

/-- slices.order2CmpFunc[purlin/api.Node] -/
def slices_order2CmpFunc_242 (p0 : Sl) (data : Int) (a : Int) (b : Option Addr) (swaps : Value) (w : World) (K : Tup [.one (.int .i64), .one (.int .i64)] → World → Prop) : Prop :=
  callP Tryz.prog 242 #[Ty.mk (.one .slice) p0, Ty.mk (.one (.int .i64)) data, Ty.mk (.one (.int .i64)) a, Ty.mk (.one .ptr) b, Ty.mk (.one .any) swaps] [.one (.int .i64), .one (.int .i64)] w K

/-- slices.order2Ordered[int] -/
def slices_order2Ordered_243 (p0 : Sl) (data : Int) (a : Int) (b : Option Addr) (w : World) (K : Tup [.one (.int .i64), .one (.int .i64)] → World → Prop) : Prop :=
  callP Tryz.prog 243 #[Ty.mk (.one .slice) p0, Ty.mk (.one (.int .i64)) data, Ty.mk (.one (.int .i64)) a, Ty.mk (.one .ptr) b] [.one (.int .i64), .one (.int .i64)] w K

/-- internal/stringslite.IndexByte -/
def stringslite_IndexByte_244 (s : ByteArray) (c : Int) (w : World) (K : Tup [.one (.int .i64)] → World → Prop) : Prop :=
  callP Tryz.prog 244 #[Ty.mk (.one .str) s, Ty.mk (.one (.int .u8)) c] [.one (.int .i64)] w K

/-- internal/bytealg.IndexString -/
def bytealg_IndexString_245 (a : ByteArray) (b : ByteArray) (w : World) (K : Tup [.one (.int .i64)] → World → Prop) : Prop :=
  callP Tryz.prog 245 #[Ty.mk (.one .str) a, Ty.mk (.one .str) b] [.one (.int .i64)] w K

/-- internal/bytealg.Cutover -/
def bytealg_Cutover_246 (n : Int) (w : World) (K : Tup [.one (.int .i64)] → World → Prop) : Prop :=
  callP Tryz.prog 246 #[Ty.mk (.one (.int .i64)) n] [.one (.int .i64)] w K

/-- internal/bytealg.IndexRabinKarp[string] -/
def bytealg_IndexRabinKarp_247 (p0 : ByteArray) (s : ByteArray) (w : World) (K : Tup [.one (.int .i64)] → World → Prop) : Prop :=
  callP Tryz.prog 247 #[Ty.mk (.one .str) p0, Ty.mk (.one .str) s] [.one (.int .i64)] w K

/-- strings.explode -/
def strings_explode_248 (s : ByteArray) (n : Int) (w : World) (K : Tup [.one .slice] → World → Prop) : Prop :=
  callP Tryz.prog 248 #[Ty.mk (.one .str) s, Ty.mk (.one (.int .i64)) n] [.one .slice] w K

/-- strings.Count -/
def strings_Count_249 (s : ByteArray) (substr : ByteArray) (w : World) (K : Tup [.one (.int .i64)] → World → Prop) : Prop :=
  callP Tryz.prog 249 #[Ty.mk (.one .str) s, Ty.mk (.one .str) substr] [.one (.int .i64)] w K

/-- slices.siftDownOrdered[string] -/
def slices_siftDownOrdered_250 (p0 : Sl) (data : Int) (lo : Int) (hi : Int) (w : World) (K : Tup [] → World → Prop) : Prop :=
  callP Tryz.prog 250 #[Ty.mk (.one .slice) p0, Ty.mk (.one (.int .i64)) data, Ty.mk (.one (.int .i64)) lo, Ty.mk (.one (.int .i64)) hi] [] w K

/-- slices.medianAdjacentOrdered[string] -/
def slices_medianAdjacentOrdered_251 (p0 : Sl) (data : Int) (a : Option Addr) (w : World) (K : Tup [.one (.int .i64)] → World → Prop) : Prop :=
  callP Tryz.prog 251 #[Ty.mk (.one .slice) p0, Ty.mk (.one (.int .i64)) data, Ty.mk (.one .ptr) a] [.one (.int .i64)] w K

/-- slices.medianOrdered[string] -/
def slices_medianOrdered_252 (p0 : Sl) (data : Int) (a : Int) (b : Int) (c : Option Addr) (w : World) (K : Tup [.one (.int .i64)] → World → Prop) : Prop :=
  callP Tryz.prog 252 #[Ty.mk (.one .slice) p0, Ty.mk (.one (.int .i64)) data, Ty.mk (.one (.int .i64)) a, Ty.mk (.one (.int .i64)) b, Ty.mk (.one .ptr) c] [.one (.int .i64)] w K

/-- cmp.isNaN[string] -/
def cmp_isNaN_253 (p0 : ByteArray) (w : World) (K : Tup [.one .bool] → World → Prop) : Prop :=
  callP Tryz.prog 253 #[Ty.mk (.one .str) p0] [.one .bool] w K

/-- (*strings.Builder).copyCheck -/
def strings_Builder_copyCheck_254 (b : Option Addr) (w : World) (K : Tup [] → World → Prop) : Prop :=
  callP Tryz.prog 254 #[Ty.mk (.one .ptr) b] [] w K

/-- (*strings.Builder).grow -/
def strings_Builder_grow_255 (b : Option Addr) (n : Int) (w : World) (K : Tup [] → World → Prop) : Prop :=
  callP Tryz.prog 255 #[Ty.mk (.one .ptr) b, Ty.mk (.one (.int .i64)) n] [] w K

/-- internal/bytealg.IndexByteString -/
def bytealg_IndexByteString_256 (s : ByteArray) (c : Int) (w : World) (K : Tup [.one (.int .i64)] → World → Prop) : Prop :=
  callP Tryz.prog 256 #[Ty.mk (.one .str) s, Ty.mk (.one (.int .u8)) c] [.one (.int .i64)] w K

/-- internal/bytealg.hashStr[string] -/
def bytealg_hashStr_257 (p0 : ByteArray) (w : World) (K : Tup [.one (.int .u32), .one (.int .u32)] → World → Prop) : Prop :=
  callP Tryz.prog 257 #[Ty.mk (.one .str) p0] [.one (.int .u32), .one (.int .u32)] w K

/-- unicode/utf8.RuneCountInString -/
def utf8_RuneCountInString_258 (s : ByteArray) (w : World) (K : Tup [.one (.int .i64)] → World → Prop) : Prop :=
  callP Tryz.prog 258 #[Ty.mk (.one .str) s] [.one (.int .i64)] w K

/-- unicode/utf8.DecodeRuneInString -/
def utf8_DecodeRuneInString_259 (s : ByteArray) (w : World) (K : Tup [.one (.int .i32), .one (.int .i64)] → World → Prop) : Prop :=
  callP Tryz.prog 259 #[Ty.mk (.one .str) s] [.one (.int .i32), .one (.int .i64)] w K

/-- internal/bytealg.CountString -/
def bytealg_CountString_260 (s : ByteArray) (c : Int) (w : World) (K : Tup [.one (.int .i64)] → World → Prop) : Prop :=
  callP Tryz.prog 260 #[Ty.mk (.one .str) s, Ty.mk (.one (.int .u8)) c] [.one (.int .i64)] w K

/-- slices.order2Ordered[string] -/
def slices_order2Ordered_261 (p0 : Sl) (data : Int) (a : Int) (b : Option Addr) (w : World) (K : Tup [.one (.int .i64), .one (.int .i64)] → World → Prop) : Prop :=
  callP Tryz.prog 261 #[Ty.mk (.one .slice) p0, Ty.mk (.one (.int .i64)) data, Ty.mk (.one (.int .i64)) a, Ty.mk (.one .ptr) b] [.one (.int .i64), .one (.int .i64)] w K

/-- internal/abi.NoEscape -/
def abi_NoEscape_262 (p : Option Addr) (w : World) (K : Tup [.one .ptr] → World → Prop) : Prop :=
  callP Tryz.prog 262 #[Ty.mk (.one .ptr) p] [.one .ptr] w K

/-- internal/bytealg.MakeNoZero -/
def bytealg_MakeNoZero_263 (n : Int) (w : World) (K : Tup [.one .slice] → World → Prop) : Prop :=
  callP Tryz.prog 263 #[Ty.mk (.one (.int .i64)) n] [.one .slice] w K

/-- unicode/utf8.decodeRuneInStringSlow -/
def utf8_decodeRuneInStringSlow_264 (s : ByteArray) (w : World) (K : Tup [.one (.int .i32), .one (.int .i64)] → World → Prop) : Prop :=
  callP Tryz.prog 264 #[Ty.mk (.one .str) s] [.one (.int .i32), .one (.int .i64)] w K

/-- (*purlin/purlinref14.Tree).Need -/
def purlinref14_Tree_Need_280 (t : Option Addr) (w : World) (K : Tup [.one (.int .i64), .one (.int .i64)] → World → Prop) : Prop :=
  callP Tryz.prog 280 #[Ty.mk (.one .ptr) t] [.one (.int .i64), .one (.int .i64)] w K

/-- (*purlin/tree.node).blocks -/
def tree_node_blocks_281 (x : Option Addr) (w : World) (K : Tup [.one (.int .i64)] → World → Prop) : Prop :=
  callP Tryz.prog 281 #[Ty.mk (.one .ptr) x] [.one (.int .i64)] w K

/-- (*purlin/purlinref13.Table).Holds -/
def purlinref13_Table_Holds_282 (t : Option Addr) (node : Int) (w : World) (K : Tup [.one .bool] → World → Prop) : Prop :=
  callP Tryz.prog 282 #[Ty.mk (.one .ptr) t, Ty.mk (.one (.int .i64)) node] [.one .bool] w K

/-- (*strings.Builder).Reset -/
def strings_Builder_Reset_283 (b : Option Addr) (w : World) (K : Tup [] → World → Prop) : Prop :=
  callP Tryz.prog 283 #[Ty.mk (.one .ptr) b] [] w K

end Go.Proofs.YtcpoglgnkedpaaaGreatDoor
