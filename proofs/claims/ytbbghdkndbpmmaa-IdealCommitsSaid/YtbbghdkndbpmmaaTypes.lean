/- A table of the types: made by a program (gentypes.py). -/
import Derived.Test.YtbbghdkndbpmmaaHeap
import Derived.Test.YtbbghdkndbpmmaaProg
import Derived.KernelRfl
namespace Go.Proofs.Ytbbghdkndbpmmaa
namespace X
open Go
@[reducible] def ty1 : Ty := ⟨.func, 1, 8, [.nilFunc]⟩
@[reducible] def ty2 : Ty := ⟨.int .i64, 1, 8, [.int .i64 0]⟩
@[reducible] def ty3 : Ty := ⟨.int .i64, 1, 8, [.int .i64 0]⟩
@[reducible] def ty4 : Ty := ⟨.bool, 1, 1, [.bool false]⟩
@[reducible] def ty5 : Ty := ⟨.int .u8, 1, 1, [.int .u8 0]⟩
@[reducible] def ty6 : Ty := ⟨.int .u8, 1, 1, [.int .u8 0]⟩
@[reducible] def ty7 : Ty := ⟨.struct [(2, 0), (3, 1), (4, 2), (6, 3)], 4, 24, [.int .i64 0, .int .i64 0, .bool false, .int .u8 0]⟩
@[reducible] def ty8 : Ty := ⟨.struct [(2, 0), (3, 1), (4, 2), (6, 3)], 4, 24, [.int .i64 0, .int .i64 0, .bool false, .int .u8 0]⟩
@[reducible] def ty9 : Ty := ⟨.string, 1, 16, [.string ByteArray.empty]⟩
@[reducible] def ty10 : Ty := ⟨.string, 1, 16, [.string ByteArray.empty]⟩
@[reducible] def ty11 : Ty := ⟨.string, 1, 16, [.string ByteArray.empty]⟩
@[reducible] def ty12 : Ty := ⟨.int .u64, 1, 8, [.int .u64 0]⟩
@[reducible] def ty13 : Ty := ⟨.struct [(9, 0), (12, 1)], 2, 24, [.string ByteArray.empty, .int .u64 0]⟩
@[reducible] def ty14 : Ty := ⟨.struct [(9, 0), (12, 1)], 2, 24, [.string ByteArray.empty, .int .u64 0]⟩
@[reducible] def ty15 : Ty := ⟨.pointer 135, 1, 8, [.pointer none]⟩
@[reducible] def ty16 : Ty := ⟨.pointer 138, 1, 8, [.pointer none]⟩
@[reducible] def ty17 : Ty := ⟨.pointer 148, 1, 8, [.pointer none]⟩
@[reducible] def ty18 : Ty := ⟨.struct [(17, 0)], 1, 8, [.pointer none]⟩
@[reducible] def ty19 : Ty := ⟨.struct [(17, 0)], 1, 8, [.pointer none]⟩
@[reducible] def ty20 : Ty := ⟨.iface, 1, 16, [.nilIface]⟩
@[reducible] def ty21 : Ty := ⟨.int .i32, 1, 4, [.int .i32 0]⟩
@[reducible] def ty22 : Ty := ⟨.slice 37, 1, 24, [.slice none 0 0]⟩
@[reducible] def ty23 : Ty := ⟨.slice 46, 1, 24, [.slice none 0 0]⟩
@[reducible] def ty24 : Ty := ⟨.struct [(22, 0), (23, 1)], 2, 48, [.slice none 0 0, .slice none 0 0]⟩
@[reducible] def ty25 : Ty := ⟨.struct [(22, 0), (23, 1)], 2, 48, [.slice none 0 0, .slice none 0 0]⟩
@[reducible] def ty26 : Ty := ⟨.func, 1, 8, [.nilFunc]⟩
@[reducible] def ty27 : Ty := ⟨.func, 1, 8, [.nilFunc]⟩
@[reducible] def ty28 : Ty := ⟨.func, 1, 8, [.nilFunc]⟩
@[reducible] def ty30 : Ty := ⟨.func, 1, 8, [.nilFunc]⟩
@[reducible] def ty31 : Ty := ⟨.func, 1, 8, [.nilFunc]⟩
@[reducible] def ty32 : Ty := ⟨.func, 1, 8, [.nilFunc]⟩
@[reducible] def ty33 : Ty := ⟨.func, 1, 8, [.nilFunc]⟩
@[reducible] def ty34 : Ty := ⟨.func, 1, 8, [.nilFunc]⟩
@[reducible] def ty35 : Ty := ⟨.func, 1, 8, [.nilFunc]⟩
@[reducible] def ty36 : Ty := ⟨.struct [(9, 0), (3, 1)], 2, 24, [.string ByteArray.empty, .int .i64 0]⟩
@[reducible] def ty37 : Ty := ⟨.struct [(9, 0), (3, 1)], 2, 24, [.string ByteArray.empty, .int .i64 0]⟩
@[reducible] def ty38 : Ty := ⟨.func, 1, 8, [.nilFunc]⟩
@[reducible] def ty39 : Ty := ⟨.func, 1, 8, [.nilFunc]⟩
@[reducible] def ty40 : Ty := ⟨.func, 1, 8, [.nilFunc]⟩
@[reducible] def ty41 : Ty := ⟨.slice 4, 1, 24, [.slice none 0 0]⟩
@[reducible] def ty42 : Ty := ⟨.slice 44, 1, 24, [.slice none 0 0]⟩
@[reducible] def ty43 : Ty := ⟨.struct [(3, 0), (3, 1), (2, 2), (42, 3)], 4, 48, [.int .i64 0, .int .i64 0, .int .i64 0, .slice none 0 0]⟩
@[reducible] def ty44 : Ty := ⟨.struct [(3, 0), (3, 1), (2, 2), (42, 3)], 4, 48, [.int .i64 0, .int .i64 0, .int .i64 0, .slice none 0 0]⟩
@[reducible] def ty45 : Ty := ⟨.struct [(3, 0), (3, 1), (44, 2), (44, 6), (23, 10), (23, 11)], 12, 160, [.int .i64 0, .int .i64 0, .int .i64 0, .int .i64 0, .int .i64 0, .slice none 0 0, .int .i64 0, .int .i64 0, .int .i64 0, .slice none 0 0, .slice none 0 0, .slice none 0 0]⟩
@[reducible] def ty46 : Ty := ⟨.struct [(3, 0), (3, 1), (44, 2), (44, 6), (23, 10), (23, 11)], 12, 160, [.int .i64 0, .int .i64 0, .int .i64 0, .int .i64 0, .int .i64 0, .slice none 0 0, .int .i64 0, .int .i64 0, .int .i64 0, .slice none 0 0, .slice none 0 0, .slice none 0 0]⟩
@[reducible] def ty47 : Ty := ⟨.int .u64, 1, 8, [.int .u64 0]⟩
@[reducible] def ty48 : Ty := ⟨.func, 1, 8, [.nilFunc]⟩
@[reducible] def ty49 : Ty := ⟨.slice 55, 1, 24, [.slice none 0 0]⟩
@[reducible] def ty51 : Ty := ⟨.func, 1, 8, [.nilFunc]⟩
@[reducible] def ty52 : Ty := ⟨.slice 56, 1, 24, [.slice none 0 0]⟩
@[reducible] def ty53 : Ty := ⟨.func, 1, 8, [.nilFunc]⟩
@[reducible] def ty54 : Ty := ⟨.struct [(3, 0), (3, 1), (3, 2), (2, 3)], 4, 32, [.int .i64 0, .int .i64 0, .int .i64 0, .int .i64 0]⟩
@[reducible] def ty55 : Ty := ⟨.struct [(3, 0), (3, 1), (3, 2), (2, 3)], 4, 32, [.int .i64 0, .int .i64 0, .int .i64 0, .int .i64 0]⟩
@[reducible] def ty56 : Ty := ⟨.struct [(3, 0), (3, 1), (3, 2), (2, 3)], 4, 32, [.int .i64 0, .int .i64 0, .int .i64 0, .int .i64 0]⟩
@[reducible] def ty57 : Ty := ⟨.slice 3, 1, 24, [.slice none 0 0]⟩
@[reducible] def ty59 : Ty := ⟨.func, 1, 8, [.nilFunc]⟩
@[reducible] def ty60 : Ty := ⟨.func, 1, 8, [.nilFunc]⟩
@[reducible] def ty61 : Ty := ⟨.slice 2, 1, 24, [.slice none 0 0]⟩
@[reducible] def ty62 : Ty := ⟨.struct [(3, 0), (61, 1), (61, 2)], 3, 56, [.int .i64 0, .slice none 0 0, .slice none 0 0]⟩
@[reducible] def ty63 : Ty := ⟨.struct [(3, 0), (61, 1), (61, 2)], 3, 56, [.int .i64 0, .slice none 0 0, .slice none 0 0]⟩
@[reducible] def ty65 : Ty := ⟨.func, 1, 8, [.nilFunc]⟩
@[reducible] def ty66 : Ty := ⟨.func, 1, 8, [.nilFunc]⟩
@[reducible] def ty68 : Ty := ⟨.func, 1, 8, [.nilFunc]⟩
@[reducible] def ty69 : Ty := ⟨.func, 1, 8, [.nilFunc]⟩
@[reducible] def ty70 : Ty := ⟨.func, 1, 8, [.nilFunc]⟩
@[reducible] def ty71 : Ty := ⟨.func, 1, 8, [.nilFunc]⟩
@[reducible] def ty72 : Ty := ⟨.func, 1, 8, [.nilFunc]⟩
@[reducible] def ty73 : Ty := ⟨.func, 1, 8, [.nilFunc]⟩
@[reducible] def ty74 : Ty := ⟨.func, 1, 8, [.nilFunc]⟩
@[reducible] def ty75 : Ty := ⟨.func, 1, 8, [.nilFunc]⟩
@[reducible] def ty76 : Ty := ⟨.func, 1, 8, [.nilFunc]⟩
@[reducible] def ty77 : Ty := ⟨.pointer 79, 1, 8, [.pointer none]⟩
@[reducible] def ty78 : Ty := ⟨.struct [(22, 0), (3, 1), (3, 2)], 3, 40, [.slice none 0 0, .int .i64 0, .int .i64 0]⟩
@[reducible] def ty79 : Ty := ⟨.struct [(22, 0), (3, 1), (3, 2)], 3, 40, [.slice none 0 0, .int .i64 0, .int .i64 0]⟩
@[reducible] def ty80 : Ty := ⟨.func, 1, 8, [.nilFunc]⟩
@[reducible] def ty81 : Ty := ⟨.pointer 83, 1, 8, [.pointer none]⟩
@[reducible] def ty82 : Ty := ⟨.struct [(25, 0), (3, 2), (3, 3)], 4, 64, [.slice none 0 0, .slice none 0 0, .int .i64 0, .int .i64 0]⟩
@[reducible] def ty83 : Ty := ⟨.struct [(25, 0), (3, 2), (3, 3)], 4, 64, [.slice none 0 0, .slice none 0 0, .int .i64 0, .int .i64 0]⟩
@[reducible] def ty84 : Ty := ⟨.array 9 3, 9, 72, [.int .i64 0, .int .i64 0, .int .i64 0, .int .i64 0, .int .i64 0, .int .i64 0, .int .i64 0, .int .i64 0, .int .i64 0]⟩
@[reducible] def ty85 : Ty := ⟨.func, 1, 8, [.nilFunc]⟩
@[reducible] def ty86 : Ty := ⟨.func, 1, 8, [.nilFunc]⟩
@[reducible] def ty87 : Ty := ⟨.func, 1, 8, [.nilFunc]⟩
@[reducible] def ty88 : Ty := ⟨.func, 1, 8, [.nilFunc]⟩
@[reducible] def ty89 : Ty := ⟨.pointer 91, 1, 8, [.pointer none]⟩
@[reducible] def ty90 : Ty := ⟨.struct [(25, 0), (49, 2)], 3, 72, [.slice none 0 0, .slice none 0 0, .slice none 0 0]⟩
@[reducible] def ty91 : Ty := ⟨.struct [(25, 0), (49, 2)], 3, 72, [.slice none 0 0, .slice none 0 0, .slice none 0 0]⟩
@[reducible] def ty92 : Ty := ⟨.func, 1, 8, [.nilFunc]⟩
@[reducible] def ty93 : Ty := ⟨.func, 1, 8, [.nilFunc]⟩
@[reducible] def ty94 : Ty := ⟨.func, 1, 8, [.nilFunc]⟩
@[reducible] def ty95 : Ty := ⟨.pointer 97, 1, 8, [.pointer none]⟩
@[reducible] def ty96 : Ty := ⟨.struct [(25, 0), (61, 2), (61, 3), (61, 4), (3, 5)], 6, 128, [.slice none 0 0, .slice none 0 0, .slice none 0 0, .slice none 0 0, .slice none 0 0, .int .i64 0]⟩
@[reducible] def ty97 : Ty := ⟨.struct [(25, 0), (61, 2), (61, 3), (61, 4), (3, 5)], 6, 128, [.slice none 0 0, .slice none 0 0, .slice none 0 0, .slice none 0 0, .slice none 0 0, .int .i64 0]⟩
@[reducible] def ty98 : Ty := ⟨.int .i64, 1, 8, [.int .i64 0]⟩
@[reducible] def ty100 : Ty := ⟨.pointer 121, 1, 8, [.pointer none]⟩
@[reducible] def ty101 : Ty := ⟨.func, 1, 8, [.nilFunc]⟩
@[reducible] def ty102 : Ty := ⟨.func, 1, 8, [.nilFunc]⟩
@[reducible] def ty103 : Ty := ⟨.func, 1, 8, [.nilFunc]⟩
@[reducible] def ty104 : Ty := ⟨.func, 1, 8, [.nilFunc]⟩
@[reducible] def ty105 : Ty := ⟨.func, 1, 8, [.nilFunc]⟩
@[reducible] def ty106 : Ty := ⟨.func, 1, 8, [.nilFunc]⟩
@[reducible] def ty107 : Ty := ⟨.func, 1, 8, [.nilFunc]⟩
@[reducible] def ty108 : Ty := ⟨.func, 1, 8, [.nilFunc]⟩
@[reducible] def ty109 : Ty := ⟨.func, 1, 8, [.nilFunc]⟩
@[reducible] def ty110 : Ty := ⟨.func, 1, 8, [.nilFunc]⟩
@[reducible] def ty111 : Ty := ⟨.func, 1, 8, [.nilFunc]⟩
@[reducible] def ty112 : Ty := ⟨.func, 1, 8, [.nilFunc]⟩
@[reducible] def ty113 : Ty := ⟨.func, 1, 8, [.nilFunc]⟩
@[reducible] def ty114 : Ty := ⟨.func, 1, 8, [.nilFunc]⟩
@[reducible] def ty115 : Ty := ⟨.func, 1, 8, [.nilFunc]⟩
@[reducible] def ty116 : Ty := ⟨.func, 1, 8, [.nilFunc]⟩
@[reducible] def ty117 : Ty := ⟨.struct [(3, 0), (61, 1), (3, 2), (3, 3), (3, 4), (61, 5)], 6, 80, [.int .i64 0, .slice none 0 0, .int .i64 0, .int .i64 0, .int .i64 0, .slice none 0 0]⟩
@[reducible] def ty118 : Ty := ⟨.struct [(3, 0), (61, 1), (3, 2), (3, 3), (3, 4), (61, 5)], 6, 80, [.int .i64 0, .slice none 0 0, .int .i64 0, .int .i64 0, .int .i64 0, .slice none 0 0]⟩
@[reducible] def ty119 : Ty := ⟨.func, 1, 8, [.nilFunc]⟩
@[reducible] def ty120 : Ty := ⟨.struct [(52, 0), (61, 1), (118, 2), (118, 8), (61, 14), (4, 15)], 16, 240, [.slice none 0 0, .slice none 0 0, .int .i64 0, .slice none 0 0, .int .i64 0, .int .i64 0, .int .i64 0, .slice none 0 0, .int .i64 0, .slice none 0 0, .int .i64 0, .int .i64 0, .int .i64 0, .slice none 0 0, .slice none 0 0, .bool false]⟩
@[reducible] def ty121 : Ty := ⟨.struct [(52, 0), (61, 1), (118, 2), (118, 8), (61, 14), (4, 15)], 16, 240, [.slice none 0 0, .slice none 0 0, .int .i64 0, .slice none 0 0, .int .i64 0, .int .i64 0, .int .i64 0, .slice none 0 0, .int .i64 0, .slice none 0 0, .int .i64 0, .int .i64 0, .int .i64 0, .slice none 0 0, .slice none 0 0, .bool false]⟩
@[reducible] def ty122 : Ty := ⟨.func, 1, 8, [.nilFunc]⟩
@[reducible] def ty123 : Ty := ⟨.func, 1, 8, [.nilFunc]⟩
@[reducible] def ty124 : Ty := ⟨.func, 1, 8, [.nilFunc]⟩
@[reducible] def ty125 : Ty := ⟨.func, 1, 8, [.nilFunc]⟩
@[reducible] def ty126 : Ty := ⟨.func, 1, 8, [.nilFunc]⟩
@[reducible] def ty127 : Ty := ⟨.func, 1, 8, [.nilFunc]⟩
@[reducible] def ty128 : Ty := ⟨.func, 1, 8, [.nilFunc]⟩
@[reducible] def ty129 : Ty := ⟨.func, 1, 8, [.nilFunc]⟩
@[reducible] def ty130 : Ty := ⟨.func, 1, 8, [.nilFunc]⟩
@[reducible] def ty131 : Ty := ⟨.func, 1, 8, [.nilFunc]⟩
@[reducible] def ty132 : Ty := ⟨.array 2 2, 2, 16, [.int .i64 0, .int .i64 0]⟩
@[reducible] def ty133 : Ty := ⟨.func, 1, 8, [.nilFunc]⟩
@[reducible] def ty134 : Ty := ⟨.struct [(17, 0), (17, 1), (17, 2), (9, 3)], 4, 40, [.pointer none, .pointer none, .pointer none, .string ByteArray.empty]⟩
@[reducible] def ty135 : Ty := ⟨.struct [(17, 0), (17, 1), (17, 2), (9, 3)], 4, 40, [.pointer none, .pointer none, .pointer none, .string ByteArray.empty]⟩
@[reducible] def ty136 : Ty := ⟨.array 0 16, 0, 0, []⟩
@[reducible] def ty137 : Ty := ⟨.struct [(136, 0)], 0, 0, []⟩
@[reducible] def ty138 : Ty := ⟨.struct [(136, 0)], 0, 0, []⟩
@[reducible] def ty139 : Ty := ⟨.func, 1, 8, [.nilFunc]⟩
@[reducible] def ty140 : Ty := ⟨.int .u32, 1, 4, [.int .u32 0]⟩
@[reducible] def ty141 : Ty := ⟨.int .u8, 1, 1, [.int .u8 0]⟩
@[reducible] def ty142 : Ty := ⟨.int .u8, 1, 1, [.int .u8 0]⟩
@[reducible] def ty143 : Ty := ⟨.func, 1, 8, [.nilFunc]⟩
@[reducible] def ty144 : Ty := ⟨.pointer 5, 1, 8, [.pointer none]⟩
@[reducible] def ty145 : Ty := ⟨.int .i32, 1, 4, [.int .i32 0]⟩
@[reducible] def ty146 : Ty := ⟨.int .i32, 1, 4, [.int .i32 0]⟩
@[reducible] def ty147 : Ty := ⟨.struct [(12, 0), (12, 1), (140, 2), (141, 3), (5, 4), (5, 5), (142, 6), (143, 7), (144, 8), (145, 9), (146, 10)], 11, 48, [.int .u64 0, .int .u64 0, .int .u32 0, .int .u8 0, .int .u8 0, .int .u8 0, .int .u8 0, .nilFunc, .pointer none, .int .i32 0, .int .i32 0]⟩
@[reducible] def ty148 : Ty := ⟨.struct [(12, 0), (12, 1), (140, 2), (141, 3), (5, 4), (5, 5), (142, 6), (143, 7), (144, 8), (145, 9), (146, 10)], 11, 48, [.int .u64 0, .int .u64 0, .int .u32 0, .int .u8 0, .int .u8 0, .int .u8 0, .int .u8 0, .nilFunc, .pointer none, .int .i32 0, .int .i32 0]⟩
@[reducible] def tab (T : Nat) : Option Ty := (match Nat.blt T 77 with | true => (match Nat.blt T 37 with | true => (match Nat.blt T 18 with | true => (match Nat.blt T 9 with | true => (match Nat.blt T 5 with | true => (match Nat.blt T 3 with | true => (match Nat.blt T 2 with | true => (match Nat.beq T 1 with | true => some ty1 | false => none) | false => (match Nat.beq T 2 with | true => some ty2 | false => none)) | false => (match Nat.blt T 4 with | true => (match Nat.beq T 3 with | true => some ty3 | false => none) | false => (match Nat.beq T 4 with | true => some ty4 | false => none))) | false => (match Nat.blt T 7 with | true => (match Nat.blt T 6 with | true => (match Nat.beq T 5 with | true => some ty5 | false => none) | false => (match Nat.beq T 6 with | true => some ty6 | false => none)) | false => (match Nat.blt T 8 with | true => (match Nat.beq T 7 with | true => some ty7 | false => none) | false => (match Nat.beq T 8 with | true => some ty8 | false => none)))) | false => (match Nat.blt T 13 with | true => (match Nat.blt T 11 with | true => (match Nat.blt T 10 with | true => (match Nat.beq T 9 with | true => some ty9 | false => none) | false => (match Nat.beq T 10 with | true => some ty10 | false => none)) | false => (match Nat.blt T 12 with | true => (match Nat.beq T 11 with | true => some ty11 | false => none) | false => (match Nat.beq T 12 with | true => some ty12 | false => none))) | false => (match Nat.blt T 15 with | true => (match Nat.blt T 14 with | true => (match Nat.beq T 13 with | true => some ty13 | false => none) | false => (match Nat.beq T 14 with | true => some ty14 | false => none)) | false => (match Nat.blt T 16 with | true => (match Nat.beq T 15 with | true => some ty15 | false => none) | false => (match Nat.blt T 17 with | true => (match Nat.beq T 16 with | true => some ty16 | false => none) | false => (match Nat.beq T 17 with | true => some ty17 | false => none)))))) | false => (match Nat.blt T 27 with | true => (match Nat.blt T 22 with | true => (match Nat.blt T 20 with | true => (match Nat.blt T 19 with | true => (match Nat.beq T 18 with | true => some ty18 | false => none) | false => (match Nat.beq T 19 with | true => some ty19 | false => none)) | false => (match Nat.blt T 21 with | true => (match Nat.beq T 20 with | true => some ty20 | false => none) | false => (match Nat.beq T 21 with | true => some ty21 | false => none))) | false => (match Nat.blt T 24 with | true => (match Nat.blt T 23 with | true => (match Nat.beq T 22 with | true => some ty22 | false => none) | false => (match Nat.beq T 23 with | true => some ty23 | false => none)) | false => (match Nat.blt T 25 with | true => (match Nat.beq T 24 with | true => some ty24 | false => none) | false => (match Nat.blt T 26 with | true => (match Nat.beq T 25 with | true => some ty25 | false => none) | false => (match Nat.beq T 26 with | true => some ty26 | false => none))))) | false => (match Nat.blt T 32 with | true => (match Nat.blt T 30 with | true => (match Nat.blt T 28 with | true => (match Nat.beq T 27 with | true => some ty27 | false => none) | false => (match Nat.beq T 28 with | true => some ty28 | false => none)) | false => (match Nat.blt T 31 with | true => (match Nat.beq T 30 with | true => some ty30 | false => none) | false => (match Nat.beq T 31 with | true => some ty31 | false => none))) | false => (match Nat.blt T 34 with | true => (match Nat.blt T 33 with | true => (match Nat.beq T 32 with | true => some ty32 | false => none) | false => (match Nat.beq T 33 with | true => some ty33 | false => none)) | false => (match Nat.blt T 35 with | true => (match Nat.beq T 34 with | true => some ty34 | false => none) | false => (match Nat.blt T 36 with | true => (match Nat.beq T 35 with | true => some ty35 | false => none) | false => (match Nat.beq T 36 with | true => some ty36 | false => none))))))) | false => (match Nat.blt T 56 with | true => (match Nat.blt T 46 with | true => (match Nat.blt T 41 with | true => (match Nat.blt T 39 with | true => (match Nat.blt T 38 with | true => (match Nat.beq T 37 with | true => some ty37 | false => none) | false => (match Nat.beq T 38 with | true => some ty38 | false => none)) | false => (match Nat.blt T 40 with | true => (match Nat.beq T 39 with | true => some ty39 | false => none) | false => (match Nat.beq T 40 with | true => some ty40 | false => none))) | false => (match Nat.blt T 43 with | true => (match Nat.blt T 42 with | true => (match Nat.beq T 41 with | true => some ty41 | false => none) | false => (match Nat.beq T 42 with | true => some ty42 | false => none)) | false => (match Nat.blt T 44 with | true => (match Nat.beq T 43 with | true => some ty43 | false => none) | false => (match Nat.blt T 45 with | true => (match Nat.beq T 44 with | true => some ty44 | false => none) | false => (match Nat.beq T 45 with | true => some ty45 | false => none))))) | false => (match Nat.blt T 51 with | true => (match Nat.blt T 48 with | true => (match Nat.blt T 47 with | true => (match Nat.beq T 46 with | true => some ty46 | false => none) | false => (match Nat.beq T 47 with | true => some ty47 | false => none)) | false => (match Nat.blt T 49 with | true => (match Nat.beq T 48 with | true => some ty48 | false => none) | false => (match Nat.beq T 49 with | true => some ty49 | false => none))) | false => (match Nat.blt T 53 with | true => (match Nat.blt T 52 with | true => (match Nat.beq T 51 with | true => some ty51 | false => none) | false => (match Nat.beq T 52 with | true => some ty52 | false => none)) | false => (match Nat.blt T 54 with | true => (match Nat.beq T 53 with | true => some ty53 | false => none) | false => (match Nat.blt T 55 with | true => (match Nat.beq T 54 with | true => some ty54 | false => none) | false => (match Nat.beq T 55 with | true => some ty55 | false => none)))))) | false => (match Nat.blt T 68 with | true => (match Nat.blt T 61 with | true => (match Nat.blt T 59 with | true => (match Nat.blt T 57 with | true => (match Nat.beq T 56 with | true => some ty56 | false => none) | false => (match Nat.beq T 57 with | true => some ty57 | false => none)) | false => (match Nat.blt T 60 with | true => (match Nat.beq T 59 with | true => some ty59 | false => none) | false => (match Nat.beq T 60 with | true => some ty60 | false => none))) | false => (match Nat.blt T 63 with | true => (match Nat.blt T 62 with | true => (match Nat.beq T 61 with | true => some ty61 | false => none) | false => (match Nat.beq T 62 with | true => some ty62 | false => none)) | false => (match Nat.blt T 65 with | true => (match Nat.beq T 63 with | true => some ty63 | false => none) | false => (match Nat.blt T 66 with | true => (match Nat.beq T 65 with | true => some ty65 | false => none) | false => (match Nat.beq T 66 with | true => some ty66 | false => none))))) | false => (match Nat.blt T 72 with | true => (match Nat.blt T 70 with | true => (match Nat.blt T 69 with | true => (match Nat.beq T 68 with | true => some ty68 | false => none) | false => (match Nat.beq T 69 with | true => some ty69 | false => none)) | false => (match Nat.blt T 71 with | true => (match Nat.beq T 70 with | true => some ty70 | false => none) | false => (match Nat.beq T 71 with | true => some ty71 | false => none))) | false => (match Nat.blt T 74 with | true => (match Nat.blt T 73 with | true => (match Nat.beq T 72 with | true => some ty72 | false => none) | false => (match Nat.beq T 73 with | true => some ty73 | false => none)) | false => (match Nat.blt T 75 with | true => (match Nat.beq T 74 with | true => some ty74 | false => none) | false => (match Nat.blt T 76 with | true => (match Nat.beq T 75 with | true => some ty75 | false => none) | false => (match Nat.beq T 76 with | true => some ty76 | false => none)))))))) | false => (match Nat.blt T 113 with | true => (match Nat.blt T 94 with | true => (match Nat.blt T 85 with | true => (match Nat.blt T 81 with | true => (match Nat.blt T 79 with | true => (match Nat.blt T 78 with | true => (match Nat.beq T 77 with | true => some ty77 | false => none) | false => (match Nat.beq T 78 with | true => some ty78 | false => none)) | false => (match Nat.blt T 80 with | true => (match Nat.beq T 79 with | true => some ty79 | false => none) | false => (match Nat.beq T 80 with | true => some ty80 | false => none))) | false => (match Nat.blt T 83 with | true => (match Nat.blt T 82 with | true => (match Nat.beq T 81 with | true => some ty81 | false => none) | false => (match Nat.beq T 82 with | true => some ty82 | false => none)) | false => (match Nat.blt T 84 with | true => (match Nat.beq T 83 with | true => some ty83 | false => none) | false => (match Nat.beq T 84 with | true => some ty84 | false => none)))) | false => (match Nat.blt T 89 with | true => (match Nat.blt T 87 with | true => (match Nat.blt T 86 with | true => (match Nat.beq T 85 with | true => some ty85 | false => none) | false => (match Nat.beq T 86 with | true => some ty86 | false => none)) | false => (match Nat.blt T 88 with | true => (match Nat.beq T 87 with | true => some ty87 | false => none) | false => (match Nat.beq T 88 with | true => some ty88 | false => none))) | false => (match Nat.blt T 91 with | true => (match Nat.blt T 90 with | true => (match Nat.beq T 89 with | true => some ty89 | false => none) | false => (match Nat.beq T 90 with | true => some ty90 | false => none)) | false => (match Nat.blt T 92 with | true => (match Nat.beq T 91 with | true => some ty91 | false => none) | false => (match Nat.blt T 93 with | true => (match Nat.beq T 92 with | true => some ty92 | false => none) | false => (match Nat.beq T 93 with | true => some ty93 | false => none)))))) | false => (match Nat.blt T 104 with | true => (match Nat.blt T 98 with | true => (match Nat.blt T 96 with | true => (match Nat.blt T 95 with | true => (match Nat.beq T 94 with | true => some ty94 | false => none) | false => (match Nat.beq T 95 with | true => some ty95 | false => none)) | false => (match Nat.blt T 97 with | true => (match Nat.beq T 96 with | true => some ty96 | false => none) | false => (match Nat.beq T 97 with | true => some ty97 | false => none))) | false => (match Nat.blt T 101 with | true => (match Nat.blt T 100 with | true => (match Nat.beq T 98 with | true => some ty98 | false => none) | false => (match Nat.beq T 100 with | true => some ty100 | false => none)) | false => (match Nat.blt T 102 with | true => (match Nat.beq T 101 with | true => some ty101 | false => none) | false => (match Nat.blt T 103 with | true => (match Nat.beq T 102 with | true => some ty102 | false => none) | false => (match Nat.beq T 103 with | true => some ty103 | false => none))))) | false => (match Nat.blt T 108 with | true => (match Nat.blt T 106 with | true => (match Nat.blt T 105 with | true => (match Nat.beq T 104 with | true => some ty104 | false => none) | false => (match Nat.beq T 105 with | true => some ty105 | false => none)) | false => (match Nat.blt T 107 with | true => (match Nat.beq T 106 with | true => some ty106 | false => none) | false => (match Nat.beq T 107 with | true => some ty107 | false => none))) | false => (match Nat.blt T 110 with | true => (match Nat.blt T 109 with | true => (match Nat.beq T 108 with | true => some ty108 | false => none) | false => (match Nat.beq T 109 with | true => some ty109 | false => none)) | false => (match Nat.blt T 111 with | true => (match Nat.beq T 110 with | true => some ty110 | false => none) | false => (match Nat.blt T 112 with | true => (match Nat.beq T 111 with | true => some ty111 | false => none) | false => (match Nat.beq T 112 with | true => some ty112 | false => none))))))) | false => (match Nat.blt T 131 with | true => (match Nat.blt T 122 with | true => (match Nat.blt T 117 with | true => (match Nat.blt T 115 with | true => (match Nat.blt T 114 with | true => (match Nat.beq T 113 with | true => some ty113 | false => none) | false => (match Nat.beq T 114 with | true => some ty114 | false => none)) | false => (match Nat.blt T 116 with | true => (match Nat.beq T 115 with | true => some ty115 | false => none) | false => (match Nat.beq T 116 with | true => some ty116 | false => none))) | false => (match Nat.blt T 119 with | true => (match Nat.blt T 118 with | true => (match Nat.beq T 117 with | true => some ty117 | false => none) | false => (match Nat.beq T 118 with | true => some ty118 | false => none)) | false => (match Nat.blt T 120 with | true => (match Nat.beq T 119 with | true => some ty119 | false => none) | false => (match Nat.blt T 121 with | true => (match Nat.beq T 120 with | true => some ty120 | false => none) | false => (match Nat.beq T 121 with | true => some ty121 | false => none))))) | false => (match Nat.blt T 126 with | true => (match Nat.blt T 124 with | true => (match Nat.blt T 123 with | true => (match Nat.beq T 122 with | true => some ty122 | false => none) | false => (match Nat.beq T 123 with | true => some ty123 | false => none)) | false => (match Nat.blt T 125 with | true => (match Nat.beq T 124 with | true => some ty124 | false => none) | false => (match Nat.beq T 125 with | true => some ty125 | false => none))) | false => (match Nat.blt T 128 with | true => (match Nat.blt T 127 with | true => (match Nat.beq T 126 with | true => some ty126 | false => none) | false => (match Nat.beq T 127 with | true => some ty127 | false => none)) | false => (match Nat.blt T 129 with | true => (match Nat.beq T 128 with | true => some ty128 | false => none) | false => (match Nat.blt T 130 with | true => (match Nat.beq T 129 with | true => some ty129 | false => none) | false => (match Nat.beq T 130 with | true => some ty130 | false => none)))))) | false => (match Nat.blt T 140 with | true => (match Nat.blt T 135 with | true => (match Nat.blt T 133 with | true => (match Nat.blt T 132 with | true => (match Nat.beq T 131 with | true => some ty131 | false => none) | false => (match Nat.beq T 132 with | true => some ty132 | false => none)) | false => (match Nat.blt T 134 with | true => (match Nat.beq T 133 with | true => some ty133 | false => none) | false => (match Nat.beq T 134 with | true => some ty134 | false => none))) | false => (match Nat.blt T 137 with | true => (match Nat.blt T 136 with | true => (match Nat.beq T 135 with | true => some ty135 | false => none) | false => (match Nat.beq T 136 with | true => some ty136 | false => none)) | false => (match Nat.blt T 138 with | true => (match Nat.beq T 137 with | true => some ty137 | false => none) | false => (match Nat.blt T 139 with | true => (match Nat.beq T 138 with | true => some ty138 | false => none) | false => (match Nat.beq T 139 with | true => some ty139 | false => none))))) | false => (match Nat.blt T 144 with | true => (match Nat.blt T 142 with | true => (match Nat.blt T 141 with | true => (match Nat.beq T 140 with | true => some ty140 | false => none) | false => (match Nat.beq T 141 with | true => some ty141 | false => none)) | false => (match Nat.blt T 143 with | true => (match Nat.beq T 142 with | true => some ty142 | false => none) | false => (match Nat.beq T 143 with | true => some ty143 | false => none))) | false => (match Nat.blt T 146 with | true => (match Nat.blt T 145 with | true => (match Nat.beq T 144 with | true => some ty144 | false => none) | false => (match Nat.beq T 145 with | true => some ty145 | false => none)) | false => (match Nat.blt T 147 with | true => (match Nat.beq T 146 with | true => some ty146 | false => none) | false => (match Nat.blt T 148 with | true => (match Nat.beq T 147 with | true => some ty147 | false => none) | false => (match Nat.beq T 148 with | true => some ty148 | false => none)))))))))
theorem tyOf1 : tyOf Try.prog 1 = some ty1 := by kernel_rfl
theorem tyOf2 : tyOf Try.prog 2 = some ty2 := by kernel_rfl
theorem tyOf3 : tyOf Try.prog 3 = some ty3 := by kernel_rfl
theorem tyOf4 : tyOf Try.prog 4 = some ty4 := by kernel_rfl
theorem tyOf5 : tyOf Try.prog 5 = some ty5 := by kernel_rfl
theorem tyOf6 : tyOf Try.prog 6 = some ty6 := by kernel_rfl
theorem tyOf7 : tyOf Try.prog 7 = some ty7 := by kernel_rfl
theorem tyOf8 : tyOf Try.prog 8 = some ty8 := by kernel_rfl
theorem tyOf9 : tyOf Try.prog 9 = some ty9 := by kernel_rfl
theorem tyOf10 : tyOf Try.prog 10 = some ty10 := by kernel_rfl
theorem tyOf11 : tyOf Try.prog 11 = some ty11 := by kernel_rfl
theorem tyOf12 : tyOf Try.prog 12 = some ty12 := by kernel_rfl
theorem tyOf13 : tyOf Try.prog 13 = some ty13 := by kernel_rfl
theorem tyOf14 : tyOf Try.prog 14 = some ty14 := by kernel_rfl
theorem tyOf15 : tyOf Try.prog 15 = some ty15 := by kernel_rfl
theorem tyOf16 : tyOf Try.prog 16 = some ty16 := by kernel_rfl
theorem tyOf17 : tyOf Try.prog 17 = some ty17 := by kernel_rfl
theorem tyOf18 : tyOf Try.prog 18 = some ty18 := by kernel_rfl
theorem tyOf19 : tyOf Try.prog 19 = some ty19 := by kernel_rfl
theorem tyOf20 : tyOf Try.prog 20 = some ty20 := by kernel_rfl
theorem tyOf21 : tyOf Try.prog 21 = some ty21 := by kernel_rfl
theorem tyOf22 : tyOf Try.prog 22 = some ty22 := by kernel_rfl
theorem tyOf23 : tyOf Try.prog 23 = some ty23 := by kernel_rfl
theorem tyOf24 : tyOf Try.prog 24 = some ty24 := by kernel_rfl
theorem tyOf25 : tyOf Try.prog 25 = some ty25 := by kernel_rfl
theorem tyOf26 : tyOf Try.prog 26 = some ty26 := by kernel_rfl
theorem tyOf27 : tyOf Try.prog 27 = some ty27 := by kernel_rfl
theorem tyOf28 : tyOf Try.prog 28 = some ty28 := by kernel_rfl
theorem tyOf30 : tyOf Try.prog 30 = some ty30 := by kernel_rfl
theorem tyOf31 : tyOf Try.prog 31 = some ty31 := by kernel_rfl
theorem tyOf32 : tyOf Try.prog 32 = some ty32 := by kernel_rfl
theorem tyOf33 : tyOf Try.prog 33 = some ty33 := by kernel_rfl
theorem tyOf34 : tyOf Try.prog 34 = some ty34 := by kernel_rfl
theorem tyOf35 : tyOf Try.prog 35 = some ty35 := by kernel_rfl
theorem tyOf36 : tyOf Try.prog 36 = some ty36 := by kernel_rfl
theorem tyOf37 : tyOf Try.prog 37 = some ty37 := by kernel_rfl
theorem tyOf38 : tyOf Try.prog 38 = some ty38 := by kernel_rfl
theorem tyOf39 : tyOf Try.prog 39 = some ty39 := by kernel_rfl
theorem tyOf40 : tyOf Try.prog 40 = some ty40 := by kernel_rfl
theorem tyOf41 : tyOf Try.prog 41 = some ty41 := by kernel_rfl
theorem tyOf42 : tyOf Try.prog 42 = some ty42 := by kernel_rfl
theorem tyOf43 : tyOf Try.prog 43 = some ty43 := by kernel_rfl
theorem tyOf44 : tyOf Try.prog 44 = some ty44 := by kernel_rfl
theorem tyOf45 : tyOf Try.prog 45 = some ty45 := by kernel_rfl
theorem tyOf46 : tyOf Try.prog 46 = some ty46 := by kernel_rfl
theorem tyOf47 : tyOf Try.prog 47 = some ty47 := by kernel_rfl
theorem tyOf48 : tyOf Try.prog 48 = some ty48 := by kernel_rfl
theorem tyOf49 : tyOf Try.prog 49 = some ty49 := by kernel_rfl
theorem tyOf51 : tyOf Try.prog 51 = some ty51 := by kernel_rfl
theorem tyOf52 : tyOf Try.prog 52 = some ty52 := by kernel_rfl
theorem tyOf53 : tyOf Try.prog 53 = some ty53 := by kernel_rfl
theorem tyOf54 : tyOf Try.prog 54 = some ty54 := by kernel_rfl
theorem tyOf55 : tyOf Try.prog 55 = some ty55 := by kernel_rfl
theorem tyOf56 : tyOf Try.prog 56 = some ty56 := by kernel_rfl
theorem tyOf57 : tyOf Try.prog 57 = some ty57 := by kernel_rfl
theorem tyOf59 : tyOf Try.prog 59 = some ty59 := by kernel_rfl
theorem tyOf60 : tyOf Try.prog 60 = some ty60 := by kernel_rfl
theorem tyOf61 : tyOf Try.prog 61 = some ty61 := by kernel_rfl
theorem tyOf62 : tyOf Try.prog 62 = some ty62 := by kernel_rfl
theorem tyOf63 : tyOf Try.prog 63 = some ty63 := by kernel_rfl
theorem tyOf65 : tyOf Try.prog 65 = some ty65 := by kernel_rfl
theorem tyOf66 : tyOf Try.prog 66 = some ty66 := by kernel_rfl
theorem tyOf68 : tyOf Try.prog 68 = some ty68 := by kernel_rfl
theorem tyOf69 : tyOf Try.prog 69 = some ty69 := by kernel_rfl
theorem tyOf70 : tyOf Try.prog 70 = some ty70 := by kernel_rfl
theorem tyOf71 : tyOf Try.prog 71 = some ty71 := by kernel_rfl
theorem tyOf72 : tyOf Try.prog 72 = some ty72 := by kernel_rfl
theorem tyOf73 : tyOf Try.prog 73 = some ty73 := by kernel_rfl
theorem tyOf74 : tyOf Try.prog 74 = some ty74 := by kernel_rfl
theorem tyOf75 : tyOf Try.prog 75 = some ty75 := by kernel_rfl
theorem tyOf76 : tyOf Try.prog 76 = some ty76 := by kernel_rfl
theorem tyOf77 : tyOf Try.prog 77 = some ty77 := by kernel_rfl
theorem tyOf78 : tyOf Try.prog 78 = some ty78 := by kernel_rfl
theorem tyOf79 : tyOf Try.prog 79 = some ty79 := by kernel_rfl
theorem tyOf80 : tyOf Try.prog 80 = some ty80 := by kernel_rfl
theorem tyOf81 : tyOf Try.prog 81 = some ty81 := by kernel_rfl
theorem tyOf82 : tyOf Try.prog 82 = some ty82 := by kernel_rfl
theorem tyOf83 : tyOf Try.prog 83 = some ty83 := by kernel_rfl
theorem tyOf84 : tyOf Try.prog 84 = some ty84 := by kernel_rfl
theorem tyOf85 : tyOf Try.prog 85 = some ty85 := by kernel_rfl
theorem tyOf86 : tyOf Try.prog 86 = some ty86 := by kernel_rfl
theorem tyOf87 : tyOf Try.prog 87 = some ty87 := by kernel_rfl
theorem tyOf88 : tyOf Try.prog 88 = some ty88 := by kernel_rfl
theorem tyOf89 : tyOf Try.prog 89 = some ty89 := by kernel_rfl
theorem tyOf90 : tyOf Try.prog 90 = some ty90 := by kernel_rfl
theorem tyOf91 : tyOf Try.prog 91 = some ty91 := by kernel_rfl
theorem tyOf92 : tyOf Try.prog 92 = some ty92 := by kernel_rfl
theorem tyOf93 : tyOf Try.prog 93 = some ty93 := by kernel_rfl
theorem tyOf94 : tyOf Try.prog 94 = some ty94 := by kernel_rfl
theorem tyOf95 : tyOf Try.prog 95 = some ty95 := by kernel_rfl
theorem tyOf96 : tyOf Try.prog 96 = some ty96 := by kernel_rfl
theorem tyOf97 : tyOf Try.prog 97 = some ty97 := by kernel_rfl
theorem tyOf98 : tyOf Try.prog 98 = some ty98 := by kernel_rfl
theorem tyOf100 : tyOf Try.prog 100 = some ty100 := by kernel_rfl
theorem tyOf101 : tyOf Try.prog 101 = some ty101 := by kernel_rfl
theorem tyOf102 : tyOf Try.prog 102 = some ty102 := by kernel_rfl
theorem tyOf103 : tyOf Try.prog 103 = some ty103 := by kernel_rfl
theorem tyOf104 : tyOf Try.prog 104 = some ty104 := by kernel_rfl
theorem tyOf105 : tyOf Try.prog 105 = some ty105 := by kernel_rfl
theorem tyOf106 : tyOf Try.prog 106 = some ty106 := by kernel_rfl
theorem tyOf107 : tyOf Try.prog 107 = some ty107 := by kernel_rfl
theorem tyOf108 : tyOf Try.prog 108 = some ty108 := by kernel_rfl
theorem tyOf109 : tyOf Try.prog 109 = some ty109 := by kernel_rfl
theorem tyOf110 : tyOf Try.prog 110 = some ty110 := by kernel_rfl
theorem tyOf111 : tyOf Try.prog 111 = some ty111 := by kernel_rfl
theorem tyOf112 : tyOf Try.prog 112 = some ty112 := by kernel_rfl
theorem tyOf113 : tyOf Try.prog 113 = some ty113 := by kernel_rfl
theorem tyOf114 : tyOf Try.prog 114 = some ty114 := by kernel_rfl
theorem tyOf115 : tyOf Try.prog 115 = some ty115 := by kernel_rfl
theorem tyOf116 : tyOf Try.prog 116 = some ty116 := by kernel_rfl
theorem tyOf117 : tyOf Try.prog 117 = some ty117 := by kernel_rfl
theorem tyOf118 : tyOf Try.prog 118 = some ty118 := by kernel_rfl
theorem tyOf119 : tyOf Try.prog 119 = some ty119 := by kernel_rfl
theorem tyOf120 : tyOf Try.prog 120 = some ty120 := by kernel_rfl
theorem tyOf121 : tyOf Try.prog 121 = some ty121 := by kernel_rfl
theorem tyOf122 : tyOf Try.prog 122 = some ty122 := by kernel_rfl
theorem tyOf123 : tyOf Try.prog 123 = some ty123 := by kernel_rfl
theorem tyOf124 : tyOf Try.prog 124 = some ty124 := by kernel_rfl
theorem tyOf125 : tyOf Try.prog 125 = some ty125 := by kernel_rfl
theorem tyOf126 : tyOf Try.prog 126 = some ty126 := by kernel_rfl
theorem tyOf127 : tyOf Try.prog 127 = some ty127 := by kernel_rfl
theorem tyOf128 : tyOf Try.prog 128 = some ty128 := by kernel_rfl
theorem tyOf129 : tyOf Try.prog 129 = some ty129 := by kernel_rfl
theorem tyOf130 : tyOf Try.prog 130 = some ty130 := by kernel_rfl
theorem tyOf131 : tyOf Try.prog 131 = some ty131 := by kernel_rfl
theorem tyOf132 : tyOf Try.prog 132 = some ty132 := by kernel_rfl
theorem tyOf133 : tyOf Try.prog 133 = some ty133 := by kernel_rfl
theorem tyOf134 : tyOf Try.prog 134 = some ty134 := by kernel_rfl
theorem tyOf135 : tyOf Try.prog 135 = some ty135 := by kernel_rfl
theorem tyOf136 : tyOf Try.prog 136 = some ty136 := by kernel_rfl
theorem tyOf137 : tyOf Try.prog 137 = some ty137 := by kernel_rfl
theorem tyOf138 : tyOf Try.prog 138 = some ty138 := by kernel_rfl
theorem tyOf139 : tyOf Try.prog 139 = some ty139 := by kernel_rfl
theorem tyOf140 : tyOf Try.prog 140 = some ty140 := by kernel_rfl
theorem tyOf141 : tyOf Try.prog 141 = some ty141 := by kernel_rfl
theorem tyOf142 : tyOf Try.prog 142 = some ty142 := by kernel_rfl
theorem tyOf143 : tyOf Try.prog 143 = some ty143 := by kernel_rfl
theorem tyOf144 : tyOf Try.prog 144 = some ty144 := by kernel_rfl
theorem tyOf145 : tyOf Try.prog 145 = some ty145 := by kernel_rfl
theorem tyOf146 : tyOf Try.prog 146 = some ty146 := by kernel_rfl
theorem tyOf147 : tyOf Try.prog 147 = some ty147 := by kernel_rfl
theorem tyOf148 : tyOf Try.prog 148 = some ty148 := by kernel_rfl
theorem tyLeaf {P : Program} {k T : Nat} {t r : Ty} (hk : tyOf P k = some t) (h : (match Nat.beq T k with | true => some t | false => none) = some r) : tyOf P T = some r := by
  split at h
  · rename_i e; rw [Nat.eq_of_beq_eq_true e, hk, h]
  · cases h
theorem tyNode {G : Prop} {r : Ty} {c : Bool} {a b : Option Ty} (h : (match c with | true => a | false => b) = some r) (ha : a = some r → G) (hb : b = some r → G) : G := by
  split at h
  · exact ha h
  · exact hb h
theorem tyrow {T : Nat} {r : Ty} (h0 : tab T = some r) : tyOf Try.prog T = some r := (tyNode h0 (fun h1 => (tyNode h1 (fun h2 => (tyNode h2 (fun h3 => (tyNode h3 (fun h4 => (tyNode h4 (fun h5 => (tyNode h5 (fun h6 => (tyNode h6 (fun h7 => (tyLeaf tyOf1 h7)) (fun h7 => (tyLeaf tyOf2 h7)))) (fun h6 => (tyNode h6 (fun h7 => (tyLeaf tyOf3 h7)) (fun h7 => (tyLeaf tyOf4 h7)))))) (fun h5 => (tyNode h5 (fun h6 => (tyNode h6 (fun h7 => (tyLeaf tyOf5 h7)) (fun h7 => (tyLeaf tyOf6 h7)))) (fun h6 => (tyNode h6 (fun h7 => (tyLeaf tyOf7 h7)) (fun h7 => (tyLeaf tyOf8 h7)))))))) (fun h4 => (tyNode h4 (fun h5 => (tyNode h5 (fun h6 => (tyNode h6 (fun h7 => (tyLeaf tyOf9 h7)) (fun h7 => (tyLeaf tyOf10 h7)))) (fun h6 => (tyNode h6 (fun h7 => (tyLeaf tyOf11 h7)) (fun h7 => (tyLeaf tyOf12 h7)))))) (fun h5 => (tyNode h5 (fun h6 => (tyNode h6 (fun h7 => (tyLeaf tyOf13 h7)) (fun h7 => (tyLeaf tyOf14 h7)))) (fun h6 => (tyNode h6 (fun h7 => (tyLeaf tyOf15 h7)) (fun h7 => (tyNode h7 (fun h8 => (tyLeaf tyOf16 h8)) (fun h8 => (tyLeaf tyOf17 h8)))))))))))) (fun h3 => (tyNode h3 (fun h4 => (tyNode h4 (fun h5 => (tyNode h5 (fun h6 => (tyNode h6 (fun h7 => (tyLeaf tyOf18 h7)) (fun h7 => (tyLeaf tyOf19 h7)))) (fun h6 => (tyNode h6 (fun h7 => (tyLeaf tyOf20 h7)) (fun h7 => (tyLeaf tyOf21 h7)))))) (fun h5 => (tyNode h5 (fun h6 => (tyNode h6 (fun h7 => (tyLeaf tyOf22 h7)) (fun h7 => (tyLeaf tyOf23 h7)))) (fun h6 => (tyNode h6 (fun h7 => (tyLeaf tyOf24 h7)) (fun h7 => (tyNode h7 (fun h8 => (tyLeaf tyOf25 h8)) (fun h8 => (tyLeaf tyOf26 h8)))))))))) (fun h4 => (tyNode h4 (fun h5 => (tyNode h5 (fun h6 => (tyNode h6 (fun h7 => (tyLeaf tyOf27 h7)) (fun h7 => (tyLeaf tyOf28 h7)))) (fun h6 => (tyNode h6 (fun h7 => (tyLeaf tyOf30 h7)) (fun h7 => (tyLeaf tyOf31 h7)))))) (fun h5 => (tyNode h5 (fun h6 => (tyNode h6 (fun h7 => (tyLeaf tyOf32 h7)) (fun h7 => (tyLeaf tyOf33 h7)))) (fun h6 => (tyNode h6 (fun h7 => (tyLeaf tyOf34 h7)) (fun h7 => (tyNode h7 (fun h8 => (tyLeaf tyOf35 h8)) (fun h8 => (tyLeaf tyOf36 h8)))))))))))))) (fun h2 => (tyNode h2 (fun h3 => (tyNode h3 (fun h4 => (tyNode h4 (fun h5 => (tyNode h5 (fun h6 => (tyNode h6 (fun h7 => (tyLeaf tyOf37 h7)) (fun h7 => (tyLeaf tyOf38 h7)))) (fun h6 => (tyNode h6 (fun h7 => (tyLeaf tyOf39 h7)) (fun h7 => (tyLeaf tyOf40 h7)))))) (fun h5 => (tyNode h5 (fun h6 => (tyNode h6 (fun h7 => (tyLeaf tyOf41 h7)) (fun h7 => (tyLeaf tyOf42 h7)))) (fun h6 => (tyNode h6 (fun h7 => (tyLeaf tyOf43 h7)) (fun h7 => (tyNode h7 (fun h8 => (tyLeaf tyOf44 h8)) (fun h8 => (tyLeaf tyOf45 h8)))))))))) (fun h4 => (tyNode h4 (fun h5 => (tyNode h5 (fun h6 => (tyNode h6 (fun h7 => (tyLeaf tyOf46 h7)) (fun h7 => (tyLeaf tyOf47 h7)))) (fun h6 => (tyNode h6 (fun h7 => (tyLeaf tyOf48 h7)) (fun h7 => (tyLeaf tyOf49 h7)))))) (fun h5 => (tyNode h5 (fun h6 => (tyNode h6 (fun h7 => (tyLeaf tyOf51 h7)) (fun h7 => (tyLeaf tyOf52 h7)))) (fun h6 => (tyNode h6 (fun h7 => (tyLeaf tyOf53 h7)) (fun h7 => (tyNode h7 (fun h8 => (tyLeaf tyOf54 h8)) (fun h8 => (tyLeaf tyOf55 h8)))))))))))) (fun h3 => (tyNode h3 (fun h4 => (tyNode h4 (fun h5 => (tyNode h5 (fun h6 => (tyNode h6 (fun h7 => (tyLeaf tyOf56 h7)) (fun h7 => (tyLeaf tyOf57 h7)))) (fun h6 => (tyNode h6 (fun h7 => (tyLeaf tyOf59 h7)) (fun h7 => (tyLeaf tyOf60 h7)))))) (fun h5 => (tyNode h5 (fun h6 => (tyNode h6 (fun h7 => (tyLeaf tyOf61 h7)) (fun h7 => (tyLeaf tyOf62 h7)))) (fun h6 => (tyNode h6 (fun h7 => (tyLeaf tyOf63 h7)) (fun h7 => (tyNode h7 (fun h8 => (tyLeaf tyOf65 h8)) (fun h8 => (tyLeaf tyOf66 h8)))))))))) (fun h4 => (tyNode h4 (fun h5 => (tyNode h5 (fun h6 => (tyNode h6 (fun h7 => (tyLeaf tyOf68 h7)) (fun h7 => (tyLeaf tyOf69 h7)))) (fun h6 => (tyNode h6 (fun h7 => (tyLeaf tyOf70 h7)) (fun h7 => (tyLeaf tyOf71 h7)))))) (fun h5 => (tyNode h5 (fun h6 => (tyNode h6 (fun h7 => (tyLeaf tyOf72 h7)) (fun h7 => (tyLeaf tyOf73 h7)))) (fun h6 => (tyNode h6 (fun h7 => (tyLeaf tyOf74 h7)) (fun h7 => (tyNode h7 (fun h8 => (tyLeaf tyOf75 h8)) (fun h8 => (tyLeaf tyOf76 h8)))))))))))))))) (fun h1 => (tyNode h1 (fun h2 => (tyNode h2 (fun h3 => (tyNode h3 (fun h4 => (tyNode h4 (fun h5 => (tyNode h5 (fun h6 => (tyNode h6 (fun h7 => (tyLeaf tyOf77 h7)) (fun h7 => (tyLeaf tyOf78 h7)))) (fun h6 => (tyNode h6 (fun h7 => (tyLeaf tyOf79 h7)) (fun h7 => (tyLeaf tyOf80 h7)))))) (fun h5 => (tyNode h5 (fun h6 => (tyNode h6 (fun h7 => (tyLeaf tyOf81 h7)) (fun h7 => (tyLeaf tyOf82 h7)))) (fun h6 => (tyNode h6 (fun h7 => (tyLeaf tyOf83 h7)) (fun h7 => (tyLeaf tyOf84 h7)))))))) (fun h4 => (tyNode h4 (fun h5 => (tyNode h5 (fun h6 => (tyNode h6 (fun h7 => (tyLeaf tyOf85 h7)) (fun h7 => (tyLeaf tyOf86 h7)))) (fun h6 => (tyNode h6 (fun h7 => (tyLeaf tyOf87 h7)) (fun h7 => (tyLeaf tyOf88 h7)))))) (fun h5 => (tyNode h5 (fun h6 => (tyNode h6 (fun h7 => (tyLeaf tyOf89 h7)) (fun h7 => (tyLeaf tyOf90 h7)))) (fun h6 => (tyNode h6 (fun h7 => (tyLeaf tyOf91 h7)) (fun h7 => (tyNode h7 (fun h8 => (tyLeaf tyOf92 h8)) (fun h8 => (tyLeaf tyOf93 h8)))))))))))) (fun h3 => (tyNode h3 (fun h4 => (tyNode h4 (fun h5 => (tyNode h5 (fun h6 => (tyNode h6 (fun h7 => (tyLeaf tyOf94 h7)) (fun h7 => (tyLeaf tyOf95 h7)))) (fun h6 => (tyNode h6 (fun h7 => (tyLeaf tyOf96 h7)) (fun h7 => (tyLeaf tyOf97 h7)))))) (fun h5 => (tyNode h5 (fun h6 => (tyNode h6 (fun h7 => (tyLeaf tyOf98 h7)) (fun h7 => (tyLeaf tyOf100 h7)))) (fun h6 => (tyNode h6 (fun h7 => (tyLeaf tyOf101 h7)) (fun h7 => (tyNode h7 (fun h8 => (tyLeaf tyOf102 h8)) (fun h8 => (tyLeaf tyOf103 h8)))))))))) (fun h4 => (tyNode h4 (fun h5 => (tyNode h5 (fun h6 => (tyNode h6 (fun h7 => (tyLeaf tyOf104 h7)) (fun h7 => (tyLeaf tyOf105 h7)))) (fun h6 => (tyNode h6 (fun h7 => (tyLeaf tyOf106 h7)) (fun h7 => (tyLeaf tyOf107 h7)))))) (fun h5 => (tyNode h5 (fun h6 => (tyNode h6 (fun h7 => (tyLeaf tyOf108 h7)) (fun h7 => (tyLeaf tyOf109 h7)))) (fun h6 => (tyNode h6 (fun h7 => (tyLeaf tyOf110 h7)) (fun h7 => (tyNode h7 (fun h8 => (tyLeaf tyOf111 h8)) (fun h8 => (tyLeaf tyOf112 h8)))))))))))))) (fun h2 => (tyNode h2 (fun h3 => (tyNode h3 (fun h4 => (tyNode h4 (fun h5 => (tyNode h5 (fun h6 => (tyNode h6 (fun h7 => (tyLeaf tyOf113 h7)) (fun h7 => (tyLeaf tyOf114 h7)))) (fun h6 => (tyNode h6 (fun h7 => (tyLeaf tyOf115 h7)) (fun h7 => (tyLeaf tyOf116 h7)))))) (fun h5 => (tyNode h5 (fun h6 => (tyNode h6 (fun h7 => (tyLeaf tyOf117 h7)) (fun h7 => (tyLeaf tyOf118 h7)))) (fun h6 => (tyNode h6 (fun h7 => (tyLeaf tyOf119 h7)) (fun h7 => (tyNode h7 (fun h8 => (tyLeaf tyOf120 h8)) (fun h8 => (tyLeaf tyOf121 h8)))))))))) (fun h4 => (tyNode h4 (fun h5 => (tyNode h5 (fun h6 => (tyNode h6 (fun h7 => (tyLeaf tyOf122 h7)) (fun h7 => (tyLeaf tyOf123 h7)))) (fun h6 => (tyNode h6 (fun h7 => (tyLeaf tyOf124 h7)) (fun h7 => (tyLeaf tyOf125 h7)))))) (fun h5 => (tyNode h5 (fun h6 => (tyNode h6 (fun h7 => (tyLeaf tyOf126 h7)) (fun h7 => (tyLeaf tyOf127 h7)))) (fun h6 => (tyNode h6 (fun h7 => (tyLeaf tyOf128 h7)) (fun h7 => (tyNode h7 (fun h8 => (tyLeaf tyOf129 h8)) (fun h8 => (tyLeaf tyOf130 h8)))))))))))) (fun h3 => (tyNode h3 (fun h4 => (tyNode h4 (fun h5 => (tyNode h5 (fun h6 => (tyNode h6 (fun h7 => (tyLeaf tyOf131 h7)) (fun h7 => (tyLeaf tyOf132 h7)))) (fun h6 => (tyNode h6 (fun h7 => (tyLeaf tyOf133 h7)) (fun h7 => (tyLeaf tyOf134 h7)))))) (fun h5 => (tyNode h5 (fun h6 => (tyNode h6 (fun h7 => (tyLeaf tyOf135 h7)) (fun h7 => (tyLeaf tyOf136 h7)))) (fun h6 => (tyNode h6 (fun h7 => (tyLeaf tyOf137 h7)) (fun h7 => (tyNode h7 (fun h8 => (tyLeaf tyOf138 h8)) (fun h8 => (tyLeaf tyOf139 h8)))))))))) (fun h4 => (tyNode h4 (fun h5 => (tyNode h5 (fun h6 => (tyNode h6 (fun h7 => (tyLeaf tyOf140 h7)) (fun h7 => (tyLeaf tyOf141 h7)))) (fun h6 => (tyNode h6 (fun h7 => (tyLeaf tyOf142 h7)) (fun h7 => (tyLeaf tyOf143 h7)))))) (fun h5 => (tyNode h5 (fun h6 => (tyNode h6 (fun h7 => (tyLeaf tyOf144 h7)) (fun h7 => (tyLeaf tyOf145 h7)))) (fun h6 => (tyNode h6 (fun h7 => (tyLeaf tyOf146 h7)) (fun h7 => (tyNode h7 (fun h8 => (tyLeaf tyOf147 h8)) (fun h8 => (tyLeaf tyOf148 h8)))))))))))))))))
end X
end Go.Proofs.Ytbbghdkndbpmmaa
