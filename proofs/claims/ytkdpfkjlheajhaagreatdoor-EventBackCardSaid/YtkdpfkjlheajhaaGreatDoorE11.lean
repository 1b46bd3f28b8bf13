/- The types of this seat's program, laid open: which kind each is of, its size, its zero. -/
import Derived.Test.YtkdpfkjlheajhaaGreatDoorE03
import Derived.Test.YtkdpfkjlheajhaaGreatDoorProg
import Derived.Test.YtkdpfkjlheajhaaGreatDoorE10
import Derived.Test.YtkdpfkjlheajhaaGreatDoorE09
import Derived.Test.YtkdpfkjlheajhaaGreatDoorE07
import Derived.Laws.RangeAny
import Derived.LoopTactic
import Derived.Test.YtkdpfkjlheajhaaGreatDoorE01
set_option linter.unusedVariables false
set_option linter.unusedSimpArgs false
section
open Go.RowKit Go.Pl Go.Av
namespace Go.Proofs.YtkdpfkjlheajhaaGreatDoor
set_option maxHeartbeats 4000000
def tt:Tab:=[(1,Ti.mk Kd.func 1 8 [ZK.f]),
 (2,Ti.mk (Kd.int IntKind.i64) 1 8 [ZK.i IntKind.i64]),
 (3,Ti.mk (Kd.int IntKind.i64) 1 8 [ZK.i IntKind.i64]),
 (4,Ti.mk Kd.bool 1 1 [ZK.b]),
 (5,Ti.mk (Kd.int IntKind.u8) 1 1 [ZK.i IntKind.u8]),
 (6,Ti.mk (Kd.int IntKind.u8) 1 1 [ZK.i IntKind.u8]),
 (7,Ti.mk (Kd.struct [Av.Fd.mk 0 1 Bool.false 2,Av.Fd.mk 1 1 Bool.false 3,Av.Fd.mk 2 1 Bool.false 4,Av.Fd.mk 3 1 Bool.false 6]) 4 24 [ZK.i IntKind.i64,ZK.i IntKind.i64,ZK.b,ZK.i IntKind.u8]),
 (8,Ti.mk (Kd.struct [Av.Fd.mk 0 1 Bool.false 2,Av.Fd.mk 1 1 Bool.false 3,Av.Fd.mk 2 1 Bool.false 4,Av.Fd.mk 3 1 Bool.false 6]) 4 24 [ZK.i IntKind.i64,ZK.i IntKind.i64,ZK.b,ZK.i IntKind.u8]),
 (9,Ti.mk Kd.str 1 16 [ZK.s]),
 (10,Ti.mk Kd.str 1 16 [ZK.s]),
 (11,Ti.mk Kd.str 1 16 [ZK.s]),
 (12,Ti.mk (Kd.int IntKind.u64) 1 8 [ZK.i IntKind.u64]),
 (13,Ti.mk (Kd.struct [Av.Fd.mk 0 1 Bool.false 9,Av.Fd.mk 1 1 Bool.false 12]) 2 24 [ZK.s,ZK.i IntKind.u64]),
 (14,Ti.mk (Kd.struct [Av.Fd.mk 0 1 Bool.false 9,Av.Fd.mk 1 1 Bool.false 12]) 2 24 [ZK.s,ZK.i IntKind.u64]),
 (15,Ti.mk (Kd.ptr 326) 1 8 [ZK.p]),
 (16,Ti.mk (Kd.ptr 329) 1 8 [ZK.p]),
 (17,Ti.mk (Kd.ptr 336) 1 8 [ZK.p]),
 (18,Ti.mk (Kd.struct [Av.Fd.mk 0 1 Bool.false 17]) 1 8 [ZK.p]),
 (19,Ti.mk (Kd.struct [Av.Fd.mk 0 1 Bool.false 17]) 1 8 [ZK.p]),
 (20,Ti.mk Kd.iface 1 16 [ZK.n]),
 (21,Ti.mk (Kd.int IntKind.i32) 1 4 [ZK.i IntKind.i32]),
 (22,Ti.mk (Kd.slice 35) 1 24 [ZK.l]),
 (23,Ti.mk (Kd.ptr 65) 1 8 [ZK.p]),
 (24,Ti.mk Kd.func 1 8 [ZK.f]),
 (25,Ti.mk (Kd.ptr 30) 1 8 [ZK.p]),
 (26,Ti.mk (Kd.slice 5) 1 24 [ZK.l]),
 (27,Ti.mk (Kd.slice 46) 1 24 [ZK.l]),
 (28,Ti.mk (Kd.int IntKind.i64) 1 8 [ZK.i IntKind.i64]),
 (29,Ti.mk (Kd.struct [Av.Fd.mk 0 1 Bool.false 26,Av.Fd.mk 1 1 Bool.false 3,Av.Fd.mk 2 1 Bool.false 27,Av.Fd.mk 3 1 Bool.false 3,Av.Fd.mk 4 1 Bool.false 26,Av.Fd.mk 5 1 Bool.false 28]) 6 96 [ZK.l,ZK.i IntKind.i64,ZK.l,ZK.i IntKind.i64,ZK.l,ZK.i IntKind.i64]),
 (30,Ti.mk (Kd.struct [Av.Fd.mk 0 1 Bool.false 26,Av.Fd.mk 1 1 Bool.false 3,Av.Fd.mk 2 1 Bool.false 27,Av.Fd.mk 3 1 Bool.false 3,Av.Fd.mk 4 1 Bool.false 26,Av.Fd.mk 5 1 Bool.false 28]) 6 96 [ZK.l,ZK.i IntKind.i64,ZK.l,ZK.i IntKind.i64,ZK.l,ZK.i IntKind.i64]),
 (31,Ti.mk (Kd.int IntKind.u64) 1 8 [ZK.i IntKind.u64]),
 (32,Ti.mk (Kd.struct [Av.Fd.mk 0 1 Bool.false 31,Av.Fd.mk 1 1 Bool.false 28,Av.Fd.mk 2 1 Bool.false 3,Av.Fd.mk 3 1 Bool.false 3,Av.Fd.mk 4 1 Bool.false 31,Av.Fd.mk 5 1 Bool.false 26]) 6 64 [ZK.i IntKind.u64,ZK.i IntKind.i64,ZK.i IntKind.i64,ZK.i IntKind.i64,ZK.i IntKind.u64,ZK.l]),
 (33,Ti.mk (Kd.struct [Av.Fd.mk 0 1 Bool.false 31,Av.Fd.mk 1 1 Bool.false 28,Av.Fd.mk 2 1 Bool.false 3,Av.Fd.mk 3 1 Bool.false 3,Av.Fd.mk 4 1 Bool.false 31,Av.Fd.mk 5 1 Bool.false 26]) 6 64 [ZK.i IntKind.u64,ZK.i IntKind.i64,ZK.i IntKind.i64,ZK.i IntKind.i64,ZK.i IntKind.u64,ZK.l]),
 (34,Ti.mk (Kd.struct [Av.Fd.mk 0 1 Bool.false 3,Av.Fd.mk 1 1 Bool.false 3,Av.Fd.mk 2 1 Bool.false 26,Av.Fd.mk 3 6 Bool.true 33]) 9 104 [ZK.i IntKind.i64,ZK.i IntKind.i64,ZK.l,ZK.i IntKind.u64,ZK.i IntKind.i64,ZK.i IntKind.i64,ZK.i IntKind.i64,ZK.i IntKind.u64,ZK.l]),
 (35,Ti.mk (Kd.struct [Av.Fd.mk 0 1 Bool.false 3,Av.Fd.mk 1 1 Bool.false 3,Av.Fd.mk 2 1 Bool.false 26,Av.Fd.mk 3 6 Bool.true 33]) 9 104 [ZK.i IntKind.i64,ZK.i IntKind.i64,ZK.l,ZK.i IntKind.u64,ZK.i IntKind.i64,ZK.i IntKind.i64,ZK.i IntKind.i64,ZK.i IntKind.u64,ZK.l]),
 (36,Ti.mk Kd.func 1 8 [ZK.f]),
 (37,Ti.mk Kd.func 1 8 [ZK.f]),
 (38,Ti.mk (Kd.struct [Av.Fd.mk 0 1 Bool.false 4,Av.Fd.mk 1 1 Bool.false 31,Av.Fd.mk 2 1 Bool.false 31,Av.Fd.mk 3 1 Bool.false 9,Av.Fd.mk 4 1 Bool.false 9]) 5 56 [ZK.b,ZK.i IntKind.u64,ZK.i IntKind.u64,ZK.s,ZK.s]),
 (39,Ti.mk (Kd.struct [Av.Fd.mk 0 1 Bool.false 4,Av.Fd.mk 1 1 Bool.false 31,Av.Fd.mk 2 1 Bool.false 31,Av.Fd.mk 3 1 Bool.false 9,Av.Fd.mk 4 1 Bool.false 9]) 5 56 [ZK.b,ZK.i IntKind.u64,ZK.i IntKind.u64,ZK.s,ZK.s]),
 (40,Ti.mk (Kd.struct [Av.Fd.mk 0 1 Bool.false 31,Av.Fd.mk 1 1 Bool.false 3,Av.Fd.mk 2 5 Bool.true 39,Av.Fd.mk 7 5 Bool.true 39,Av.Fd.mk 12 1 Bool.false 3,Av.Fd.mk 13 1 Bool.false 3,Av.Fd.mk 14 1 Bool.false 3,Av.Fd.mk 15 1 Bool.false 26,Av.Fd.mk 16 1 Bool.false 31,Av.Fd.mk 17 1 Bool.false 31,Av.Fd.mk 18 1 Bool.false 4]) 19 200 [ZK.i IntKind.u64,ZK.i IntKind.i64,ZK.b,ZK.i IntKind.u64,ZK.i IntKind.u64,ZK.s,ZK.s,ZK.b,ZK.i IntKind.u64,ZK.i IntKind.u64,ZK.s,ZK.s,ZK.i IntKind.i64,ZK.i IntKind.i64,ZK.i IntKind.i64,ZK.l,ZK.i IntKind.u64,ZK.i IntKind.u64,ZK.b]),
 (41,Ti.mk (Kd.struct [Av.Fd.mk 0 1 Bool.false 31,Av.Fd.mk 1 1 Bool.false 3,Av.Fd.mk 2 5 Bool.true 39,Av.Fd.mk 7 5 Bool.true 39,Av.Fd.mk 12 1 Bool.false 3,Av.Fd.mk 13 1 Bool.false 3,Av.Fd.mk 14 1 Bool.false 3,Av.Fd.mk 15 1 Bool.false 26,Av.Fd.mk 16 1 Bool.false 31,Av.Fd.mk 17 1 Bool.false 31,Av.Fd.mk 18 1 Bool.false 4]) 19 200 [ZK.i IntKind.u64,ZK.i IntKind.i64,ZK.b,ZK.i IntKind.u64,ZK.i IntKind.u64,ZK.s,ZK.s,ZK.b,ZK.i IntKind.u64,ZK.i IntKind.u64,ZK.s,ZK.s,ZK.i IntKind.i64,ZK.i IntKind.i64,ZK.i IntKind.i64,ZK.l,ZK.i IntKind.u64,ZK.i IntKind.u64,ZK.b]),
 (43,Ti.mk Kd.func 1 8 [ZK.f]),
 (44,Ti.mk (Kd.struct [Av.Fd.mk 0 1 Bool.false 4,Av.Fd.mk 1 1 Bool.false 31,Av.Fd.mk 2 1 Bool.false 31,Av.Fd.mk 3 1 Bool.false 9,Av.Fd.mk 4 1 Bool.false 9]) 5 56 [ZK.b,ZK.i IntKind.u64,ZK.i IntKind.u64,ZK.s,ZK.s]),
 (45,Ti.mk (Kd.struct [Av.Fd.mk 0 1 Bool.false 31,Av.Fd.mk 1 1 Bool.false 3,Av.Fd.mk 2 5 Bool.true 44,Av.Fd.mk 7 5 Bool.true 44,Av.Fd.mk 12 1 Bool.false 3,Av.Fd.mk 13 1 Bool.false 3,Av.Fd.mk 14 1 Bool.false 3,Av.Fd.mk 15 1 Bool.false 26,Av.Fd.mk 16 1 Bool.false 31,Av.Fd.mk 17 1 Bool.false 31,Av.Fd.mk 18 1 Bool.false 4]) 19 200 [ZK.i IntKind.u64,ZK.i IntKind.i64,ZK.b,ZK.i IntKind.u64,ZK.i IntKind.u64,ZK.s,ZK.s,ZK.b,ZK.i IntKind.u64,ZK.i IntKind.u64,ZK.s,ZK.s,ZK.i IntKind.i64,ZK.i IntKind.i64,ZK.i IntKind.i64,ZK.l,ZK.i IntKind.u64,ZK.i IntKind.u64,ZK.b]),
 (46,Ti.mk (Kd.struct [Av.Fd.mk 0 1 Bool.false 31,Av.Fd.mk 1 1 Bool.false 3,Av.Fd.mk 2 5 Bool.true 44,Av.Fd.mk 7 5 Bool.true 44,Av.Fd.mk 12 1 Bool.false 3,Av.Fd.mk 13 1 Bool.false 3,Av.Fd.mk 14 1 Bool.false 3,Av.Fd.mk 15 1 Bool.false 26,Av.Fd.mk 16 1 Bool.false 31,Av.Fd.mk 17 1 Bool.false 31,Av.Fd.mk 18 1 Bool.false 4]) 19 200 [ZK.i IntKind.u64,ZK.i IntKind.i64,ZK.b,ZK.i IntKind.u64,ZK.i IntKind.u64,ZK.s,ZK.s,ZK.b,ZK.i IntKind.u64,ZK.i IntKind.u64,ZK.s,ZK.s,ZK.i IntKind.i64,ZK.i IntKind.i64,ZK.i IntKind.i64,ZK.l,ZK.i IntKind.u64,ZK.i IntKind.u64,ZK.b]),
 (48,Ti.mk Kd.func 1 8 [ZK.f]),
 (49,Ti.mk Kd.func 1 8 [ZK.f]),
 (50,Ti.mk Kd.func 1 8 [ZK.f]),
 (51,Ti.mk Kd.func 1 8 [ZK.f]),
 (52,Ti.mk Kd.func 1 8 [ZK.f]),
 (53,Ti.mk Kd.func 1 8 [ZK.f]),
 (54,Ti.mk (Kd.struct [Av.Fd.mk 0 1 Bool.false 31,Av.Fd.mk 1 1 Bool.false 28,Av.Fd.mk 2 1 Bool.false 3,Av.Fd.mk 3 1 Bool.false 3,Av.Fd.mk 4 1 Bool.false 31,Av.Fd.mk 5 1 Bool.false 26]) 6 64 [ZK.i IntKind.u64,ZK.i IntKind.i64,ZK.i IntKind.i64,ZK.i IntKind.i64,ZK.i IntKind.u64,ZK.l]),
 (55,Ti.mk Kd.func 1 8 [ZK.f]),
 (56,Ti.mk Kd.func 1 8 [ZK.f]),
 (57,Ti.mk Kd.func 1 8 [ZK.f]),
 (58,Ti.mk Kd.func 1 8 [ZK.f]),
 (59,Ti.mk Kd.func 1 8 [ZK.f]),
 (60,Ti.mk (Kd.ptr 126) 1 8 [ZK.p]),
 (61,Ti.mk (Kd.struct [Av.Fd.mk 0 1 Bool.false 60]) 1 8 [ZK.p]),
 (62,Ti.mk (Kd.struct [Av.Fd.mk 0 1 Bool.false 60]) 1 8 [ZK.p]),
 (63,Ti.mk (Kd.slice 41) 1 24 [ZK.l]),
 (64,Ti.mk (Kd.struct [Av.Fd.mk 0 1 Bool.true 62,Av.Fd.mk 1 1 Bool.false 63,Av.Fd.mk 2 1 Bool.false 3,Av.Fd.mk 3 1 Bool.false 26,Av.Fd.mk 4 1 Bool.false 28]) 5 72 [ZK.p,ZK.l,ZK.i IntKind.i64,ZK.l,ZK.i IntKind.i64]),
 (65,Ti.mk (Kd.struct [Av.Fd.mk 0 1 Bool.true 62,Av.Fd.mk 1 1 Bool.false 63,Av.Fd.mk 2 1 Bool.false 3,Av.Fd.mk 3 1 Bool.false 26,Av.Fd.mk 4 1 Bool.false 28]) 5 72 [ZK.p,ZK.l,ZK.i IntKind.i64,ZK.l,ZK.i IntKind.i64]),
 (66,Ti.mk Kd.func 1 8 [ZK.f]),
 (67,Ti.mk Kd.func 1 8 [ZK.f]),
 (68,Ti.mk Kd.func 1 8 [ZK.f]),
 (69,Ti.mk (Kd.slice 76) 1 24 [ZK.l]),
 (70,Ti.mk (Kd.ptr 107) 1 8 [ZK.p]),
 (71,Ti.mk Kd.func 1 8 [ZK.f]),
 (72,Ti.mk (Kd.slice 4) 1 24 [ZK.l]),
 (73,Ti.mk (Kd.struct [Av.Fd.mk 0 1 Bool.false 31,Av.Fd.mk 1 1 Bool.false 3,Av.Fd.mk 2 1 Bool.false 31,Av.Fd.mk 3 1 Bool.false 3,Av.Fd.mk 4 19 Bool.true 41,Av.Fd.mk 23 1 Bool.false 26]) 24 256 [ZK.i IntKind.u64,ZK.i IntKind.i64,ZK.i IntKind.u64,ZK.i IntKind.i64,ZK.i IntKind.u64,ZK.i IntKind.i64,ZK.b,ZK.i IntKind.u64,ZK.i IntKind.u64,ZK.s,ZK.s,ZK.b,ZK.i IntKind.u64,ZK.i IntKind.u64,ZK.s,ZK.s,ZK.i IntKind.i64,ZK.i IntKind.i64,ZK.i IntKind.i64,ZK.l,ZK.i IntKind.u64,ZK.i IntKind.u64,ZK.b,ZK.l]),
 (74,Ti.mk (Kd.struct [Av.Fd.mk 0 1 Bool.false 31,Av.Fd.mk 1 1 Bool.false 3,Av.Fd.mk 2 1 Bool.false 31,Av.Fd.mk 3 1 Bool.false 3,Av.Fd.mk 4 19 Bool.true 41,Av.Fd.mk 23 1 Bool.false 26]) 24 256 [ZK.i IntKind.u64,ZK.i IntKind.i64,ZK.i IntKind.u64,ZK.i IntKind.i64,ZK.i IntKind.u64,ZK.i IntKind.i64,ZK.b,ZK.i IntKind.u64,ZK.i IntKind.u64,ZK.s,ZK.s,ZK.b,ZK.i IntKind.u64,ZK.i IntKind.u64,ZK.s,ZK.s,ZK.i IntKind.i64,ZK.i IntKind.i64,ZK.i IntKind.i64,ZK.l,ZK.i IntKind.u64,ZK.i IntKind.u64,ZK.b,ZK.l]),
 (75,Ti.mk (Kd.struct [Av.Fd.mk 0 1 Bool.false 3,Av.Fd.mk 1 1 Bool.false 3,Av.Fd.mk 2 24 Bool.true 74,Av.Fd.mk 26 6 Bool.true 33]) 32 336 [ZK.i IntKind.i64,ZK.i IntKind.i64,ZK.i IntKind.u64,ZK.i IntKind.i64,ZK.i IntKind.u64,ZK.i IntKind.i64,ZK.i IntKind.u64,ZK.i IntKind.i64,ZK.b,ZK.i IntKind.u64,ZK.i IntKind.u64,ZK.s,ZK.s,ZK.b,ZK.i IntKind.u64,ZK.i IntKind.u64,ZK.s,ZK.s,ZK.i IntKind.i64,ZK.i IntKind.i64,ZK.i IntKind.i64,ZK.l,ZK.i IntKind.u64,ZK.i IntKind.u64,ZK.b,ZK.l,ZK.i IntKind.u64,ZK.i IntKind.i64,ZK.i IntKind.i64,ZK.i IntKind.i64,ZK.i IntKind.u64,ZK.l]),
 (76,Ti.mk (Kd.struct [Av.Fd.mk 0 1 Bool.false 3,Av.Fd.mk 1 1 Bool.false 3,Av.Fd.mk 2 24 Bool.true 74,Av.Fd.mk 26 6 Bool.true 33]) 32 336 [ZK.i IntKind.i64,ZK.i IntKind.i64,ZK.i IntKind.u64,ZK.i IntKind.i64,ZK.i IntKind.u64,ZK.i IntKind.i64,ZK.i IntKind.u64,ZK.i IntKind.i64,ZK.b,ZK.i IntKind.u64,ZK.i IntKind.u64,ZK.s,ZK.s,ZK.b,ZK.i IntKind.u64,ZK.i IntKind.u64,ZK.s,ZK.s,ZK.i IntKind.i64,ZK.i IntKind.i64,ZK.i IntKind.i64,ZK.l,ZK.i IntKind.u64,ZK.i IntKind.u64,ZK.b,ZK.l,ZK.i IntKind.u64,ZK.i IntKind.i64,ZK.i IntKind.i64,ZK.i IntKind.i64,ZK.i IntKind.u64,ZK.l]),
 (77,Ti.mk Kd.func 1 8 [ZK.f]),
 (79,Ti.mk Kd.func 1 8 [ZK.f]),
 (80,Ti.mk Kd.func 1 8 [ZK.f]),
 (81,Ti.mk (Kd.slice 84) 1 24 [ZK.l]),
 (82,Ti.mk Kd.func 1 8 [ZK.f]),
 (83,Ti.mk (Kd.struct [Av.Fd.mk 0 24 Bool.true 74,Av.Fd.mk 24 6 Bool.true 33,Av.Fd.mk 30 1 Bool.false 4,Av.Fd.mk 31 1 Bool.false 4]) 32 328 [ZK.i IntKind.u64,ZK.i IntKind.i64,ZK.i IntKind.u64,ZK.i IntKind.i64,ZK.i IntKind.u64,ZK.i IntKind.i64,ZK.b,ZK.i IntKind.u64,ZK.i IntKind.u64,ZK.s,ZK.s,ZK.b,ZK.i IntKind.u64,ZK.i IntKind.u64,ZK.s,ZK.s,ZK.i IntKind.i64,ZK.i IntKind.i64,ZK.i IntKind.i64,ZK.l,ZK.i IntKind.u64,ZK.i IntKind.u64,ZK.b,ZK.l,ZK.i IntKind.u64,ZK.i IntKind.i64,ZK.i IntKind.i64,ZK.i IntKind.i64,ZK.i IntKind.u64,ZK.l,ZK.b,ZK.b]),
 (84,Ti.mk (Kd.struct [Av.Fd.mk 0 24 Bool.true 74,Av.Fd.mk 24 6 Bool.true 33,Av.Fd.mk 30 1 Bool.false 4,Av.Fd.mk 31 1 Bool.false 4]) 32 328 [ZK.i IntKind.u64,ZK.i IntKind.i64,ZK.i IntKind.u64,ZK.i IntKind.i64,ZK.i IntKind.u64,ZK.i IntKind.i64,ZK.b,ZK.i IntKind.u64,ZK.i IntKind.u64,ZK.s,ZK.s,ZK.b,ZK.i IntKind.u64,ZK.i IntKind.u64,ZK.s,ZK.s,ZK.i IntKind.i64,ZK.i IntKind.i64,ZK.i IntKind.i64,ZK.l,ZK.i IntKind.u64,ZK.i IntKind.u64,ZK.b,ZK.l,ZK.i IntKind.u64,ZK.i IntKind.i64,ZK.i IntKind.i64,ZK.i IntKind.i64,ZK.i IntKind.u64,ZK.l,ZK.b,ZK.b]),
 (85,Ti.mk Kd.func 1 8 [ZK.f]),
 (87,Ti.mk Kd.func 1 8 [ZK.f]),
 (89,Ti.mk Kd.func 1 8 [ZK.f]),
 (90,Ti.mk Kd.func 1 8 [ZK.f]),
 (91,Ti.mk Kd.func 1 8 [ZK.f]),
 (92,Ti.mk Kd.func 1 8 [ZK.f]),
 (93,Ti.mk (Kd.slice 26) 1 24 [ZK.l]),
 (95,Ti.mk Kd.func 1 8 [ZK.f]),
 (97,Ti.mk Kd.func 1 8 [ZK.f]),
 (98,Ti.mk Kd.func 1 8 [ZK.f]),
 (99,Ti.mk Kd.func 1 8 [ZK.f]),
 (100,Ti.mk Kd.func 1 8 [ZK.f]),
 (101,Ti.mk Kd.func 1 8 [ZK.f]),
 (102,Ti.mk Kd.func 1 8 [ZK.f]),
 (103,Ti.mk Kd.func 1 8 [ZK.f]),
 (104,Ti.mk Kd.func 1 8 [ZK.f]),
 (105,Ti.mk Kd.func 1 8 [ZK.f]),
 (106,Ti.mk (Kd.struct [Av.Fd.mk 0 1 Bool.false 4,Av.Fd.mk 1 1 Bool.false 81,Av.Fd.mk 2 1 Bool.false 3]) 3 40 [ZK.b,ZK.l,ZK.i IntKind.i64]),
 (107,Ti.mk (Kd.struct [Av.Fd.mk 0 1 Bool.false 4,Av.Fd.mk 1 1 Bool.false 81,Av.Fd.mk 2 1 Bool.false 3]) 3 40 [ZK.b,ZK.l,ZK.i IntKind.i64]),
 (108,Ti.mk Kd.func 1 8 [ZK.f]),
 (109,Ti.mk Kd.func 1 8 [ZK.f]),
 (110,Ti.mk Kd.func 1 8 [ZK.f]),
 (111,Ti.mk Kd.func 1 8 [ZK.f]),
 (112,Ti.mk Kd.func 1 8 [ZK.f]),
 (113,Ti.mk Kd.func 1 8 [ZK.f]),
 (114,Ti.mk (Kd.ptr 146) 1 8 [ZK.p]),
 (115,Ti.mk Kd.func 1 8 [ZK.f]),
 (116,Ti.mk Kd.func 1 8 [ZK.f]),
 (117,Ti.mk Kd.func 1 8 [ZK.f]),
 (118,Ti.mk Kd.func 1 8 [ZK.f]),
 (119,Ti.mk Kd.func 1 8 [ZK.f]),
 (120,Ti.mk (Kd.ptr 152) 1 8 [ZK.p]),
 (121,Ti.mk Kd.func 1 8 [ZK.f]),
 (122,Ti.mk Kd.func 1 8 [ZK.f]),
 (124,Ti.mk Kd.func 1 8 [ZK.f]),
 (125,Ti.mk (Kd.struct [Av.Fd.mk 0 1 Bool.false 4,Av.Fd.mk 1 1 Bool.false 26,Av.Fd.mk 2 1 Bool.false 28]) 3 40 [ZK.b,ZK.l,ZK.i IntKind.i64]),
 (126,Ti.mk (Kd.struct [Av.Fd.mk 0 1 Bool.false 4,Av.Fd.mk 1 1 Bool.false 26,Av.Fd.mk 2 1 Bool.false 28]) 3 40 [ZK.b,ZK.l,ZK.i IntKind.i64]),
 (127,Ti.mk Kd.func 1 8 [ZK.f]),
 (128,Ti.mk (Kd.int IntKind.u64) 1 8 [ZK.i IntKind.u64]),
 (129,Ti.mk (Kd.ptr 131) 1 8 [ZK.p]),
 (130,Ti.mk (Kd.struct [Av.Fd.mk 0 1 Bool.false 26,Av.Fd.mk 1 1 Bool.false 3,Av.Fd.mk 2 1 Bool.false 28]) 3 40 [ZK.l,ZK.i IntKind.i64,ZK.i IntKind.i64]),
 (131,Ti.mk (Kd.struct [Av.Fd.mk 0 1 Bool.false 26,Av.Fd.mk 1 1 Bool.false 3,Av.Fd.mk 2 1 Bool.false 28]) 3 40 [ZK.l,ZK.i IntKind.i64,ZK.i IntKind.i64]),
 (132,Ti.mk Kd.func 1 8 [ZK.f]),
 (133,Ti.mk Kd.func 1 8 [ZK.f]),
 (135,Ti.mk Kd.func 1 8 [ZK.f]),
 (136,Ti.mk Kd.func 1 8 [ZK.f]),
 (137,Ti.mk Kd.func 1 8 [ZK.f]),
 (138,Ti.mk Kd.func 1 8 [ZK.f]),
 (139,Ti.mk (Kd.slice 31) 1 24 [ZK.l]),
 (140,Ti.mk Kd.func 1 8 [ZK.f]),
 (141,Ti.mk Kd.func 1 8 [ZK.f]),
 (142,Ti.mk Kd.func 1 8 [ZK.f]),
 (143,Ti.mk Kd.func 1 8 [ZK.f]),
 (144,Ti.mk Kd.func 1 8 [ZK.f]),
 (145,Ti.mk (Kd.struct [Av.Fd.mk 0 1 Bool.false 4,Av.Fd.mk 1 1 Bool.false 26]) 2 32 [ZK.b,ZK.l]),
 (146,Ti.mk (Kd.struct [Av.Fd.mk 0 1 Bool.false 4,Av.Fd.mk 1 1 Bool.false 26]) 2 32 [ZK.b,ZK.l]),
 (147,Ti.mk Kd.func 1 8 [ZK.f]),
 (148,Ti.mk Kd.func 1 8 [ZK.f]),
 (149,Ti.mk (Kd.struct [Av.Fd.mk 0 1 Bool.false 28]) 1 8 [ZK.i IntKind.i64]),
 (150,Ti.mk (Kd.struct [Av.Fd.mk 0 1 Bool.false 28]) 1 8 [ZK.i IntKind.i64]),
 (151,Ti.mk (Kd.struct [Av.Fd.mk 0 1 Bool.true 150,Av.Fd.mk 1 1 Bool.false 4,Av.Fd.mk 2 1 Bool.false 26]) 3 40 [ZK.i IntKind.i64,ZK.b,ZK.l]),
 (152,Ti.mk (Kd.struct [Av.Fd.mk 0 1 Bool.true 150,Av.Fd.mk 1 1 Bool.false 4,Av.Fd.mk 2 1 Bool.false 26]) 3 40 [ZK.i IntKind.i64,ZK.b,ZK.l]),
 (153,Ti.mk Kd.func 1 8 [ZK.f]),
 (154,Ti.mk Kd.func 1 8 [ZK.f]),
 (155,Ti.mk Kd.func 1 8 [ZK.f]),
 (157,Ti.mk Kd.func 1 8 [ZK.f]),
 (158,Ti.mk Kd.func 1 8 [ZK.f]),
 (159,Ti.mk Kd.func 1 8 [ZK.f]),
 (160,Ti.mk Kd.func 1 8 [ZK.f]),
 (161,Ti.mk Kd.func 1 8 [ZK.f]),
 (162,Ti.mk Kd.func 1 8 [ZK.f]),
 (163,Ti.mk Kd.func 1 8 [ZK.f]),
 (164,Ti.mk (Kd.slice 3) 1 24 [ZK.l]),
 (165,Ti.mk Kd.func 1 8 [ZK.f]),
 (166,Ti.mk Kd.func 1 8 [ZK.f]),
 (168,Ti.mk Kd.func 1 8 [ZK.f]),
 (169,Ti.mk (Kd.ptr 150) 1 8 [ZK.p]),
 (171,Ti.mk Kd.func 1 8 [ZK.f]),
 (172,Ti.mk Kd.func 1 8 [ZK.f]),
 (173,Ti.mk Kd.func 1 8 [ZK.f]),
 (174,Ti.mk (Kd.struct [Av.Fd.mk 0 5 Bool.true 39,Av.Fd.mk 5 1 Bool.false 31,Av.Fd.mk 6 1 Bool.false 31]) 7 72 [ZK.b,ZK.i IntKind.u64,ZK.i IntKind.u64,ZK.s,ZK.s,ZK.i IntKind.u64,ZK.i IntKind.u64]),
 (175,Ti.mk (Kd.struct [Av.Fd.mk 0 5 Bool.true 39,Av.Fd.mk 5 1 Bool.false 31,Av.Fd.mk 6 1 Bool.false 31]) 7 72 [ZK.b,ZK.i IntKind.u64,ZK.i IntKind.u64,ZK.s,ZK.s,ZK.i IntKind.u64,ZK.i IntKind.u64]),
 (176,Ti.mk (Kd.struct [Av.Fd.mk 0 1 Bool.false 31,Av.Fd.mk 1 1 Bool.false 3,Av.Fd.mk 2 5 Bool.true 39,Av.Fd.mk 7 5 Bool.true 39,Av.Fd.mk 12 7 Bool.true 175,Av.Fd.mk 19 1 Bool.false 31]) 20 208 [ZK.i IntKind.u64,ZK.i IntKind.i64,ZK.b,ZK.i IntKind.u64,ZK.i IntKind.u64,ZK.s,ZK.s,ZK.b,ZK.i IntKind.u64,ZK.i IntKind.u64,ZK.s,ZK.s,ZK.b,ZK.i IntKind.u64,ZK.i IntKind.u64,ZK.s,ZK.s,ZK.i IntKind.u64,ZK.i IntKind.u64,ZK.i IntKind.u64]),
 (177,Ti.mk (Kd.struct [Av.Fd.mk 0 1 Bool.false 31,Av.Fd.mk 1 1 Bool.false 3,Av.Fd.mk 2 5 Bool.true 39,Av.Fd.mk 7 5 Bool.true 39,Av.Fd.mk 12 7 Bool.true 175,Av.Fd.mk 19 1 Bool.false 31]) 20 208 [ZK.i IntKind.u64,ZK.i IntKind.i64,ZK.b,ZK.i IntKind.u64,ZK.i IntKind.u64,ZK.s,ZK.s,ZK.b,ZK.i IntKind.u64,ZK.i IntKind.u64,ZK.s,ZK.s,ZK.b,ZK.i IntKind.u64,ZK.i IntKind.u64,ZK.s,ZK.s,ZK.i IntKind.u64,ZK.i IntKind.u64,ZK.i IntKind.u64]),
 (178,Ti.mk (Kd.slice 200) 1 24 [ZK.l]),
 (179,Ti.mk (Kd.struct [Av.Fd.mk 0 20 Bool.true 177,Av.Fd.mk 20 1 Bool.false 178]) 21 232 [ZK.i IntKind.u64,ZK.i IntKind.i64,ZK.b,ZK.i IntKind.u64,ZK.i IntKind.u64,ZK.s,ZK.s,ZK.b,ZK.i IntKind.u64,ZK.i IntKind.u64,ZK.s,ZK.s,ZK.b,ZK.i IntKind.u64,ZK.i IntKind.u64,ZK.s,ZK.s,ZK.i IntKind.u64,ZK.i IntKind.u64,ZK.i IntKind.u64,ZK.l]),
 (180,Ti.mk (Kd.struct [Av.Fd.mk 0 20 Bool.true 177,Av.Fd.mk 20 1 Bool.false 178]) 21 232 [ZK.i IntKind.u64,ZK.i IntKind.i64,ZK.b,ZK.i IntKind.u64,ZK.i IntKind.u64,ZK.s,ZK.s,ZK.b,ZK.i IntKind.u64,ZK.i IntKind.u64,ZK.s,ZK.s,ZK.b,ZK.i IntKind.u64,ZK.i IntKind.u64,ZK.s,ZK.s,ZK.i IntKind.u64,ZK.i IntKind.u64,ZK.i IntKind.u64,ZK.l]),
 (182,Ti.mk Kd.func 1 8 [ZK.f]),
 (183,Ti.mk Kd.func 1 8 [ZK.f]),
 (184,Ti.mk Kd.func 1 8 [ZK.f]),
 (185,Ti.mk Kd.func 1 8 [ZK.f]),
 (186,Ti.mk Kd.func 1 8 [ZK.f]),
 (187,Ti.mk Kd.func 1 8 [ZK.f]),
 (189,Ti.mk Kd.func 1 8 [ZK.f]),
 (191,Ti.mk Kd.func 1 8 [ZK.f]),
 (192,Ti.mk (Kd.slice 194) 1 24 [ZK.l]),
 (193,Ti.mk (Kd.struct [Av.Fd.mk 0 1 Bool.false 3,Av.Fd.mk 1 1 Bool.false 31,Av.Fd.mk 2 1 Bool.false 26,Av.Fd.mk 3 1 Bool.false 192]) 4 64 [ZK.i IntKind.i64,ZK.i IntKind.u64,ZK.l,ZK.l]),
 (194,Ti.mk (Kd.struct [Av.Fd.mk 0 1 Bool.false 3,Av.Fd.mk 1 1 Bool.false 31,Av.Fd.mk 2 1 Bool.false 26,Av.Fd.mk 3 1 Bool.false 192]) 4 64 [ZK.i IntKind.i64,ZK.i IntKind.u64,ZK.l,ZK.l]),
 (196,Ti.mk Kd.func 1 8 [ZK.f]),
 (198,Ti.mk Kd.func 1 8 [ZK.f]),
 (199,Ti.mk (Kd.struct [Av.Fd.mk 0 1 Bool.false 31,Av.Fd.mk 1 1 Bool.false 31,Av.Fd.mk 2 1 Bool.false 31,Av.Fd.mk 3 1 Bool.false 3,Av.Fd.mk 4 1 Bool.false 26]) 5 56 [ZK.i IntKind.u64,ZK.i IntKind.u64,ZK.i IntKind.u64,ZK.i IntKind.i64,ZK.l]),
 (200,Ti.mk (Kd.struct [Av.Fd.mk 0 1 Bool.false 31,Av.Fd.mk 1 1 Bool.false 31,Av.Fd.mk 2 1 Bool.false 31,Av.Fd.mk 3 1 Bool.false 3,Av.Fd.mk 4 1 Bool.false 26]) 5 56 [ZK.i IntKind.u64,ZK.i IntKind.u64,ZK.i IntKind.u64,ZK.i IntKind.i64,ZK.l]),
 (202,Ti.mk Kd.func 1 8 [ZK.f]),
 (203,Ti.mk Kd.func 1 8 [ZK.f]),
 (204,Ti.mk Kd.func 1 8 [ZK.f]),
 (206,Ti.mk Kd.func 1 8 [ZK.f]),
 (207,Ti.mk Kd.func 1 8 [ZK.f]),
 (209,Ti.mk Kd.func 1 8 [ZK.f]),
 (210,Ti.mk Kd.iface 1 16 [ZK.n]),
 (211,Ti.mk Kd.iface 1 16 [ZK.n]),
 (213,Ti.mk Kd.func 1 8 [ZK.f]),
 (214,Ti.mk (Kd.struct [Av.Fd.mk 0 1 Bool.false 28]) 1 8 [ZK.i IntKind.i64]),
 (215,Ti.mk (Kd.struct [Av.Fd.mk 0 1 Bool.false 28]) 1 8 [ZK.i IntKind.i64]),
 (217,Ti.mk (Kd.ptr 219) 1 8 [ZK.p]),
 (218,Ti.mk (Kd.struct [Av.Fd.mk 0 1 Bool.false 26,Av.Fd.mk 1 1 Bool.false 3,Av.Fd.mk 2 1 Bool.false 3]) 3 40 [ZK.l,ZK.i IntKind.i64,ZK.i IntKind.i64]),
 (219,Ti.mk (Kd.struct [Av.Fd.mk 0 1 Bool.false 26,Av.Fd.mk 1 1 Bool.false 3,Av.Fd.mk 2 1 Bool.false 3]) 3 40 [ZK.l,ZK.i IntKind.i64,ZK.i IntKind.i64]),
 (220,Ti.mk Kd.func 1 8 [ZK.f]),
 (222,Ti.mk Kd.func 1 8 [ZK.f]),
 (223,Ti.mk Kd.func 1 8 [ZK.f]),
 (225,Ti.mk Kd.func 1 8 [ZK.f]),
 (226,Ti.mk Kd.func 1 8 [ZK.f]),
 (228,Ti.mk Kd.func 1 8 [ZK.f]),
 (229,Ti.mk Kd.func 1 8 [ZK.f]),
 (230,Ti.mk Kd.func 1 8 [ZK.f]),
 (231,Ti.mk Kd.func 1 8 [ZK.f]),
 (232,Ti.mk Kd.func 1 8 [ZK.f]),
 (233,Ti.mk Kd.func 1 8 [ZK.f]),
 (234,Ti.mk (Kd.array 24 5) 24 24 [ZK.i IntKind.u8,ZK.i IntKind.u8,ZK.i IntKind.u8,ZK.i IntKind.u8,ZK.i IntKind.u8,ZK.i IntKind.u8,ZK.i IntKind.u8,ZK.i IntKind.u8,ZK.i IntKind.u8,ZK.i IntKind.u8,ZK.i IntKind.u8,ZK.i IntKind.u8,ZK.i IntKind.u8,ZK.i IntKind.u8,ZK.i IntKind.u8,ZK.i IntKind.u8,ZK.i IntKind.u8,ZK.i IntKind.u8,ZK.i IntKind.u8,ZK.i IntKind.u8,ZK.i IntKind.u8,ZK.i IntKind.u8,ZK.i IntKind.u8,ZK.i IntKind.u8]),
 (235,Ti.mk Kd.func 1 8 [ZK.f]),
 (236,Ti.mk Kd.func 1 8 [ZK.f]),
 (238,Ti.mk Kd.func 1 8 [ZK.f]),
 (239,Ti.mk Kd.func 1 8 [ZK.f]),
 (240,Ti.mk Kd.func 1 8 [ZK.f]),
 (241,Ti.mk (Kd.struct [Av.Fd.mk 0 1 Bool.false 3,Av.Fd.mk 1 1 Bool.false 31,Av.Fd.mk 2 1 Bool.false 4]) 3 24 [ZK.i IntKind.i64,ZK.i IntKind.u64,ZK.b]),
 (242,Ti.mk (Kd.struct [Av.Fd.mk 0 1 Bool.false 3,Av.Fd.mk 1 1 Bool.false 31,Av.Fd.mk 2 1 Bool.false 4]) 3 24 [ZK.i IntKind.i64,ZK.i IntKind.u64,ZK.b]),
 (243,Ti.mk Kd.func 1 8 [ZK.f]),
 (244,Ti.mk Kd.func 1 8 [ZK.f]),
 (245,Ti.mk Kd.func 1 8 [ZK.f]),
 (246,Ti.mk Kd.func 1 8 [ZK.f]),
 (247,Ti.mk Kd.func 1 8 [ZK.f]),
 (248,Ti.mk Kd.func 1 8 [ZK.f]),
 (249,Ti.mk Kd.func 1 8 [ZK.f]),
 (250,Ti.mk Kd.func 1 8 [ZK.f]),
 (251,Ti.mk Kd.func 1 8 [ZK.f]),
 (252,Ti.mk Kd.func 1 8 [ZK.f]),
 (254,Ti.mk Kd.func 1 8 [ZK.f]),
 (255,Ti.mk Kd.func 1 8 [ZK.f]),
 (256,Ti.mk Kd.func 1 8 [ZK.f]),
 (257,Ti.mk Kd.func 1 8 [ZK.f]),
 (258,Ti.mk Kd.func 1 8 [ZK.f]),
 (259,Ti.mk Kd.func 1 8 [ZK.f]),
 (260,Ti.mk Kd.func 1 8 [ZK.f]),
 (261,Ti.mk Kd.func 1 8 [ZK.f]),
 (262,Ti.mk Kd.func 1 8 [ZK.f]),
 (263,Ti.mk Kd.func 1 8 [ZK.f]),
 (264,Ti.mk Kd.func 1 8 [ZK.f]),
 (265,Ti.mk Kd.func 1 8 [ZK.f]),
 (266,Ti.mk (Kd.array 20 31) 20 160 [ZK.i IntKind.u64,ZK.i IntKind.u64,ZK.i IntKind.u64,ZK.i IntKind.u64,ZK.i IntKind.u64,ZK.i IntKind.u64,ZK.i IntKind.u64,ZK.i IntKind.u64,ZK.i IntKind.u64,ZK.i IntKind.u64,ZK.i IntKind.u64,ZK.i IntKind.u64,ZK.i IntKind.u64,ZK.i IntKind.u64,ZK.i IntKind.u64,ZK.i IntKind.u64,ZK.i IntKind.u64,ZK.i IntKind.u64,ZK.i IntKind.u64,ZK.i IntKind.u64]),
 (267,Ti.mk (Kd.int IntKind.u32) 1 4 [ZK.i IntKind.u32]),
 (268,Ti.mk (Kd.array 65 5) 65 65 [ZK.i IntKind.u8,ZK.i IntKind.u8,ZK.i IntKind.u8,ZK.i IntKind.u8,ZK.i IntKind.u8,ZK.i IntKind.u8,ZK.i IntKind.u8,ZK.i IntKind.u8,ZK.i IntKind.u8,ZK.i IntKind.u8,ZK.i IntKind.u8,ZK.i IntKind.u8,ZK.i IntKind.u8,ZK.i IntKind.u8,ZK.i IntKind.u8,ZK.i IntKind.u8,ZK.i IntKind.u8,ZK.i IntKind.u8,ZK.i IntKind.u8,ZK.i IntKind.u8,ZK.i IntKind.u8,ZK.i IntKind.u8,ZK.i IntKind.u8,ZK.i IntKind.u8,ZK.i IntKind.u8,ZK.i IntKind.u8,ZK.i IntKind.u8,ZK.i IntKind.u8,ZK.i IntKind.u8,ZK.i IntKind.u8,ZK.i IntKind.u8,ZK.i IntKind.u8,ZK.i IntKind.u8,ZK.i IntKind.u8,ZK.i IntKind.u8,ZK.i IntKind.u8,ZK.i IntKind.u8,ZK.i IntKind.u8,ZK.i IntKind.u8,ZK.i IntKind.u8,ZK.i IntKind.u8,ZK.i IntKind.u8,ZK.i IntKind.u8,ZK.i IntKind.u8,ZK.i IntKind.u8,ZK.i IntKind.u8,ZK.i IntKind.u8,ZK.i IntKind.u8,ZK.i IntKind.u8,ZK.i IntKind.u8,ZK.i IntKind.u8,ZK.i IntKind.u8,ZK.i IntKind.u8,ZK.i IntKind.u8,ZK.i IntKind.u8,ZK.i IntKind.u8,ZK.i IntKind.u8,ZK.i IntKind.u8,ZK.i IntKind.u8,ZK.i IntKind.u8,ZK.i IntKind.u8,ZK.i IntKind.u8,ZK.i IntKind.u8,ZK.i IntKind.u8,ZK.i IntKind.u8]),
 (269,Ti.mk Kd.func 1 8 [ZK.f]),
 (270,Ti.mk Kd.func 1 8 [ZK.f]),
 (271,Ti.mk (Kd.int IntKind.i64) 1 8 [ZK.i IntKind.i64]),
 (272,Ti.mk Kd.func 1 8 [ZK.f]),
 (273,Ti.mk Kd.func 1 8 [ZK.f]),
 (274,Ti.mk (Kd.ptr 299) 1 8 [ZK.p]),
 (275,Ti.mk Kd.func 1 8 [ZK.f]),
 (276,Ti.mk Kd.func 1 8 [ZK.f]),
 (278,Ti.mk Kd.func 1 8 [ZK.f]),
 (279,Ti.mk Kd.func 1 8 [ZK.f]),
 (280,Ti.mk Kd.func 1 8 [ZK.f]),
 (281,Ti.mk Kd.func 1 8 [ZK.f]),
 (282,Ti.mk (Kd.int IntKind.u16) 1 2 [ZK.i IntKind.u16]),
 (283,Ti.mk Kd.func 1 8 [ZK.f]),
 (284,Ti.mk Kd.func 1 8 [ZK.f]),
 (285,Ti.mk Kd.func 1 8 [ZK.f]),
 (286,Ti.mk Kd.func 1 8 [ZK.f]),
 (287,Ti.mk Kd.func 1 8 [ZK.f]),
 (288,Ti.mk Kd.func 1 8 [ZK.f]),
 (289,Ti.mk Kd.func 1 8 [ZK.f]),
 (291,Ti.mk Kd.func 1 8 [ZK.f]),
 (293,Ti.mk Kd.func 1 8 [ZK.f]),
 (294,Ti.mk Kd.func 1 8 [ZK.f]),
 (295,Ti.mk Kd.func 1 8 [ZK.f]),
 (296,Ti.mk Kd.func 1 8 [ZK.f]),
 (297,Ti.mk Kd.func 1 8 [ZK.f]),
 (298,Ti.mk (Kd.struct [Av.Fd.mk 0 1 Bool.false 9,Av.Fd.mk 1 1 Bool.false 9,Av.Fd.mk 2 1 Bool.false 211]) 3 48 [ZK.s,ZK.s,ZK.n]),
 (299,Ti.mk (Kd.struct [Av.Fd.mk 0 1 Bool.false 9,Av.Fd.mk 1 1 Bool.false 9,Av.Fd.mk 2 1 Bool.false 211]) 3 48 [ZK.s,ZK.s,ZK.n]),
 (300,Ti.mk Kd.func 1 8 [ZK.f]),
 (301,Ti.mk Kd.func 1 8 [ZK.f]),
 (302,Ti.mk Kd.func 1 8 [ZK.f]),
 (303,Ti.mk Kd.func 1 8 [ZK.f]),
 (305,Ti.mk Kd.func 1 8 [ZK.f]),
 (306,Ti.mk Kd.func 1 8 [ZK.f]),
 (307,Ti.mk Kd.func 1 8 [ZK.f]),
 (308,Ti.mk (Kd.array 32 5) 32 32 [ZK.i IntKind.u8,ZK.i IntKind.u8,ZK.i IntKind.u8,ZK.i IntKind.u8,ZK.i IntKind.u8,ZK.i IntKind.u8,ZK.i IntKind.u8,ZK.i IntKind.u8,ZK.i IntKind.u8,ZK.i IntKind.u8,ZK.i IntKind.u8,ZK.i IntKind.u8,ZK.i IntKind.u8,ZK.i IntKind.u8,ZK.i IntKind.u8,ZK.i IntKind.u8,ZK.i IntKind.u8,ZK.i IntKind.u8,ZK.i IntKind.u8,ZK.i IntKind.u8,ZK.i IntKind.u8,ZK.i IntKind.u8,ZK.i IntKind.u8,ZK.i IntKind.u8,ZK.i IntKind.u8,ZK.i IntKind.u8,ZK.i IntKind.u8,ZK.i IntKind.u8,ZK.i IntKind.u8,ZK.i IntKind.u8,ZK.i IntKind.u8,ZK.i IntKind.u8]),
 (309,Ti.mk (Kd.array 64 5) 64 64 [ZK.i IntKind.u8,ZK.i IntKind.u8,ZK.i IntKind.u8,ZK.i IntKind.u8,ZK.i IntKind.u8,ZK.i IntKind.u8,ZK.i IntKind.u8,ZK.i IntKind.u8,ZK.i IntKind.u8,ZK.i IntKind.u8,ZK.i IntKind.u8,ZK.i IntKind.u8,ZK.i IntKind.u8,ZK.i IntKind.u8,ZK.i IntKind.u8,ZK.i IntKind.u8,ZK.i IntKind.u8,ZK.i IntKind.u8,ZK.i IntKind.u8,ZK.i IntKind.u8,ZK.i IntKind.u8,ZK.i IntKind.u8,ZK.i IntKind.u8,ZK.i IntKind.u8,ZK.i IntKind.u8,ZK.i IntKind.u8,ZK.i IntKind.u8,ZK.i IntKind.u8,ZK.i IntKind.u8,ZK.i IntKind.u8,ZK.i IntKind.u8,ZK.i IntKind.u8,ZK.i IntKind.u8,ZK.i IntKind.u8,ZK.i IntKind.u8,ZK.i IntKind.u8,ZK.i IntKind.u8,ZK.i IntKind.u8,ZK.i IntKind.u8,ZK.i IntKind.u8,ZK.i IntKind.u8,ZK.i IntKind.u8,ZK.i IntKind.u8,ZK.i IntKind.u8,ZK.i IntKind.u8,ZK.i IntKind.u8,ZK.i IntKind.u8,ZK.i IntKind.u8,ZK.i IntKind.u8,ZK.i IntKind.u8,ZK.i IntKind.u8,ZK.i IntKind.u8,ZK.i IntKind.u8,ZK.i IntKind.u8,ZK.i IntKind.u8,ZK.i IntKind.u8,ZK.i IntKind.u8,ZK.i IntKind.u8,ZK.i IntKind.u8,ZK.i IntKind.u8,ZK.i IntKind.u8,ZK.i IntKind.u8,ZK.i IntKind.u8,ZK.i IntKind.u8]),
 (311,Ti.mk Kd.func 1 8 [ZK.f]),
 (312,Ti.mk (Kd.ptr 5) 1 8 [ZK.p]),
 (313,Ti.mk (Kd.ptr 315) 1 8 [ZK.p]),
 (314,Ti.mk (Kd.struct [Av.Fd.mk 0 1 Bool.false 9]) 1 16 [ZK.s]),
 (315,Ti.mk (Kd.struct [Av.Fd.mk 0 1 Bool.false 9]) 1 16 [ZK.s]),
 (316,Ti.mk Kd.func 1 8 [ZK.f]),
 (317,Ti.mk (Kd.array 256 5) 256 256 [ZK.i IntKind.u8,ZK.i IntKind.u8,ZK.i IntKind.u8,ZK.i IntKind.u8,ZK.i IntKind.u8,ZK.i IntKind.u8,ZK.i IntKind.u8,ZK.i IntKind.u8,ZK.i IntKind.u8,ZK.i IntKind.u8,ZK.i IntKind.u8,ZK.i IntKind.u8,ZK.i IntKind.u8,ZK.i IntKind.u8,ZK.i IntKind.u8,ZK.i IntKind.u8,ZK.i IntKind.u8,ZK.i IntKind.u8,ZK.i IntKind.u8,ZK.i IntKind.u8,ZK.i IntKind.u8,ZK.i IntKind.u8,ZK.i IntKind.u8,ZK.i IntKind.u8,ZK.i IntKind.u8,ZK.i IntKind.u8,ZK.i IntKind.u8,ZK.i IntKind.u8,ZK.i IntKind.u8,ZK.i IntKind.u8,ZK.i IntKind.u8,ZK.i IntKind.u8,ZK.i IntKind.u8,ZK.i IntKind.u8,ZK.i IntKind.u8,ZK.i IntKind.u8,ZK.i IntKind.u8,ZK.i IntKind.u8,ZK.i IntKind.u8,ZK.i IntKind.u8,ZK.i IntKind.u8,ZK.i IntKind.u8,ZK.i IntKind.u8,ZK.i IntKind.u8,ZK.i IntKind.u8,ZK.i IntKind.u8,ZK.i IntKind.u8,ZK.i IntKind.u8,ZK.i IntKind.u8,ZK.i IntKind.u8,ZK.i IntKind.u8,ZK.i IntKind.u8,ZK.i IntKind.u8,ZK.i IntKind.u8,ZK.i IntKind.u8,ZK.i IntKind.u8,ZK.i IntKind.u8,ZK.i IntKind.u8,ZK.i IntKind.u8,ZK.i IntKind.u8,ZK.i IntKind.u8,ZK.i IntKind.u8,ZK.i IntKind.u8,ZK.i IntKind.u8,ZK.i IntKind.u8,ZK.i IntKind.u8,ZK.i IntKind.u8,ZK.i IntKind.u8,ZK.i IntKind.u8,ZK.i IntKind.u8,ZK.i IntKind.u8,ZK.i IntKind.u8,ZK.i IntKind.u8,ZK.i IntKind.u8,ZK.i IntKind.u8,ZK.i IntKind.u8,ZK.i IntKind.u8,ZK.i IntKind.u8,ZK.i IntKind.u8,ZK.i IntKind.u8,ZK.i IntKind.u8,ZK.i IntKind.u8,ZK.i IntKind.u8,ZK.i IntKind.u8,ZK.i IntKind.u8,ZK.i IntKind.u8,ZK.i IntKind.u8,ZK.i IntKind.u8,ZK.i IntKind.u8,ZK.i IntKind.u8,ZK.i IntKind.u8,ZK.i IntKind.u8,ZK.i IntKind.u8,ZK.i IntKind.u8,ZK.i IntKind.u8,ZK.i IntKind.u8,ZK.i IntKind.u8,ZK.i IntKind.u8,ZK.i IntKind.u8,ZK.i IntKind.u8,ZK.i IntKind.u8,ZK.i IntKind.u8,ZK.i IntKind.u8,ZK.i IntKind.u8,ZK.i IntKind.u8,ZK.i IntKind.u8,ZK.i IntKind.u8,ZK.i IntKind.u8,ZK.i IntKind.u8,ZK.i IntKind.u8,ZK.i IntKind.u8,ZK.i IntKind.u8,ZK.i IntKind.u8,ZK.i IntKind.u8,ZK.i IntKind.u8,ZK.i IntKind.u8,ZK.i IntKind.u8,ZK.i IntKind.u8,ZK.i IntKind.u8,ZK.i IntKind.u8,ZK.i IntKind.u8,ZK.i IntKind.u8,ZK.i IntKind.u8,ZK.i IntKind.u8,ZK.i IntKind.u8,ZK.i IntKind.u8,ZK.i IntKind.u8,ZK.i IntKind.u8,ZK.i IntKind.u8,ZK.i IntKind.u8,ZK.i IntKind.u8,ZK.i IntKind.u8,ZK.i IntKind.u8,ZK.i IntKind.u8,ZK.i IntKind.u8,ZK.i IntKind.u8,ZK.i IntKind.u8,ZK.i IntKind.u8,ZK.i IntKind.u8,ZK.i IntKind.u8,ZK.i IntKind.u8,ZK.i IntKind.u8,ZK.i IntKind.u8,ZK.i IntKind.u8,ZK.i IntKind.u8,ZK.i IntKind.u8,ZK.i IntKind.u8,ZK.i IntKind.u8,ZK.i IntKind.u8,ZK.i IntKind.u8,ZK.i IntKind.u8,ZK.i IntKind.u8,ZK.i IntKind.u8,ZK.i IntKind.u8,ZK.i IntKind.u8,ZK.i IntKind.u8,ZK.i IntKind.u8,ZK.i IntKind.u8,ZK.i IntKind.u8,ZK.i IntKind.u8,ZK.i IntKind.u8,ZK.i IntKind.u8,ZK.i IntKind.u8,ZK.i IntKind.u8,ZK.i IntKind.u8,ZK.i IntKind.u8,ZK.i IntKind.u8,ZK.i IntKind.u8,ZK.i IntKind.u8,ZK.i IntKind.u8,ZK.i IntKind.u8,ZK.i IntKind.u8,ZK.i IntKind.u8,ZK.i IntKind.u8,ZK.i IntKind.u8,ZK.i IntKind.u8,ZK.i IntKind.u8,ZK.i IntKind.u8,ZK.i IntKind.u8,ZK.i IntKind.u8,ZK.i IntKind.u8,ZK.i IntKind.u8,ZK.i IntKind.u8,ZK.i IntKind.u8,ZK.i IntKind.u8,ZK.i IntKind.u8,ZK.i IntKind.u8,ZK.i IntKind.u8,ZK.i IntKind.u8,ZK.i IntKind.u8,ZK.i IntKind.u8,ZK.i IntKind.u8,ZK.i IntKind.u8,ZK.i IntKind.u8,ZK.i IntKind.u8,ZK.i IntKind.u8,ZK.i IntKind.u8,ZK.i IntKind.u8,ZK.i IntKind.u8,ZK.i IntKind.u8,ZK.i IntKind.u8,ZK.i IntKind.u8,ZK.i IntKind.u8,ZK.i IntKind.u8,ZK.i IntKind.u8,ZK.i IntKind.u8,ZK.i IntKind.u8,ZK.i IntKind.u8,ZK.i IntKind.u8,ZK.i IntKind.u8,ZK.i IntKind.u8,ZK.i IntKind.u8,ZK.i IntKind.u8,ZK.i IntKind.u8,ZK.i IntKind.u8,ZK.i IntKind.u8,ZK.i IntKind.u8,ZK.i IntKind.u8,ZK.i IntKind.u8,ZK.i IntKind.u8,ZK.i IntKind.u8,ZK.i IntKind.u8,ZK.i IntKind.u8,ZK.i IntKind.u8,ZK.i IntKind.u8,ZK.i IntKind.u8,ZK.i IntKind.u8,ZK.i IntKind.u8,ZK.i IntKind.u8,ZK.i IntKind.u8,ZK.i IntKind.u8,ZK.i IntKind.u8,ZK.i IntKind.u8,ZK.i IntKind.u8,ZK.i IntKind.u8,ZK.i IntKind.u8,ZK.i IntKind.u8,ZK.i IntKind.u8,ZK.i IntKind.u8,ZK.i IntKind.u8,ZK.i IntKind.u8,ZK.i IntKind.u8,ZK.i IntKind.u8,ZK.i IntKind.u8,ZK.i IntKind.u8,ZK.i IntKind.u8,ZK.i IntKind.u8,ZK.i IntKind.u8,ZK.i IntKind.u8,ZK.i IntKind.u8,ZK.i IntKind.u8,ZK.i IntKind.u8,ZK.i IntKind.u8,ZK.i IntKind.u8,ZK.i IntKind.u8,ZK.i IntKind.u8]),
 (318,Ti.mk (Kd.struct [Av.Fd.mk 0 1 Bool.false 5,Av.Fd.mk 1 1 Bool.false 5]) 2 2 [ZK.i IntKind.u8,ZK.i IntKind.u8]),
 (319,Ti.mk (Kd.struct [Av.Fd.mk 0 1 Bool.false 5,Av.Fd.mk 1 1 Bool.false 5]) 2 2 [ZK.i IntKind.u8,ZK.i IntKind.u8]),
 (320,Ti.mk (Kd.array 16 319) 32 32 [ZK.i IntKind.u8,ZK.i IntKind.u8,ZK.i IntKind.u8,ZK.i IntKind.u8,ZK.i IntKind.u8,ZK.i IntKind.u8,ZK.i IntKind.u8,ZK.i IntKind.u8,ZK.i IntKind.u8,ZK.i IntKind.u8,ZK.i IntKind.u8,ZK.i IntKind.u8,ZK.i IntKind.u8,ZK.i IntKind.u8,ZK.i IntKind.u8,ZK.i IntKind.u8,ZK.i IntKind.u8,ZK.i IntKind.u8,ZK.i IntKind.u8,ZK.i IntKind.u8,ZK.i IntKind.u8,ZK.i IntKind.u8,ZK.i IntKind.u8,ZK.i IntKind.u8,ZK.i IntKind.u8,ZK.i IntKind.u8,ZK.i IntKind.u8,ZK.i IntKind.u8,ZK.i IntKind.u8,ZK.i IntKind.u8,ZK.i IntKind.u8,ZK.i IntKind.u8]),
 (321,Ti.mk Kd.func 1 8 [ZK.f]),
 (322,Ti.mk Kd.func 1 8 [ZK.f]),
 (323,Ti.mk Kd.func 1 8 [ZK.f]),
 (324,Ti.mk Kd.func 1 8 [ZK.f]),
 (325,Ti.mk (Kd.struct [Av.Fd.mk 0 1 Bool.false 17,Av.Fd.mk 1 1 Bool.false 17,Av.Fd.mk 2 1 Bool.false 17,Av.Fd.mk 3 1 Bool.false 9]) 4 40 [ZK.p,ZK.p,ZK.p,ZK.s]),
 (326,Ti.mk (Kd.struct [Av.Fd.mk 0 1 Bool.false 17,Av.Fd.mk 1 1 Bool.false 17,Av.Fd.mk 2 1 Bool.false 17,Av.Fd.mk 3 1 Bool.false 9]) 4 40 [ZK.p,ZK.p,ZK.p,ZK.s]),
 (327,Ti.mk (Kd.array 0 16) 0 0 []),
 (328,Ti.mk (Kd.struct [Av.Fd.mk 0 0 Bool.true 327]) 0 0 []),
 (329,Ti.mk (Kd.struct [Av.Fd.mk 0 0 Bool.true 327]) 0 0 []),
 (330,Ti.mk (Kd.int IntKind.u8) 1 1 [ZK.i IntKind.u8]),
 (331,Ti.mk (Kd.int IntKind.u8) 1 1 [ZK.i IntKind.u8]),
 (332,Ti.mk Kd.func 1 8 [ZK.f]),
 (333,Ti.mk (Kd.int IntKind.i32) 1 4 [ZK.i IntKind.i32]),
 (334,Ti.mk (Kd.int IntKind.i32) 1 4 [ZK.i IntKind.i32]),
 (335,Ti.mk (Kd.struct [Av.Fd.mk 0 1 Bool.false 12,Av.Fd.mk 1 1 Bool.false 12,Av.Fd.mk 2 1 Bool.false 267,Av.Fd.mk 3 1 Bool.false 330,Av.Fd.mk 4 1 Bool.false 5,Av.Fd.mk 5 1 Bool.false 5,Av.Fd.mk 6 1 Bool.false 331,Av.Fd.mk 7 1 Bool.false 332,Av.Fd.mk 8 1 Bool.false 312,Av.Fd.mk 9 1 Bool.false 333,Av.Fd.mk 10 1 Bool.false 334]) 11 48 [ZK.i IntKind.u64,ZK.i IntKind.u64,ZK.i IntKind.u32,ZK.i IntKind.u8,ZK.i IntKind.u8,ZK.i IntKind.u8,ZK.i IntKind.u8,ZK.f,ZK.p,ZK.i IntKind.i32,ZK.i IntKind.i32]),
 (336,Ti.mk (Kd.struct [Av.Fd.mk 0 1 Bool.false 12,Av.Fd.mk 1 1 Bool.false 12,Av.Fd.mk 2 1 Bool.false 267,Av.Fd.mk 3 1 Bool.false 330,Av.Fd.mk 4 1 Bool.false 5,Av.Fd.mk 5 1 Bool.false 5,Av.Fd.mk 6 1 Bool.false 331,Av.Fd.mk 7 1 Bool.false 332,Av.Fd.mk 8 1 Bool.false 312,Av.Fd.mk 9 1 Bool.false 333,Av.Fd.mk 10 1 Bool.false 334]) 11 48 [ZK.i IntKind.u64,ZK.i IntKind.u64,ZK.i IntKind.u32,ZK.i IntKind.u8,ZK.i IntKind.u8,ZK.i IntKind.u8,ZK.i IntKind.u8,ZK.f,ZK.p,ZK.i IntKind.i32,ZK.i IntKind.i32])]
theorem Za:chk Tryz.prog tt=true:=by kernel_rfl
theorem ZF:Tryz.prog.follows .mixedOrders=true:=by kernel_rfl
abbrev byE (l:List UInt8):D:=.sl .ext (l.map E.byte)
theorem YH (l:List UInt8):Uni 1 (l.map E.byte):=Uni.map (f:=E.byte) (fun _=>rfl) l
theorem Vp [Known](b:List UInt8)(hb:b.length<=140737488351232):AP Tryz.prog 77 [byE b] (byE b) []:=by
 have hU:=YH b
 cases b with
 | nil=>
  refine AP.ofA (Zl Tryz.func77 Z Tryz.ntmps77 Z Z ?_)
  repeat'(first|(apply Ig Za;(iterate 5 exact Z);intro b hbn)|(apply Zi Za;exact Z)|(apply Zg Za;exact Z)|(apply Zu Za;exact Z)|(apply WZ;exact Z;all_goals intro hb)|refine Oj Za Z Z Z Z Z Z Z Z Z Z Z Z ?_|refine Wg Za Z Z Z Z Z Z ?_)
  all_goals(apply Zs [];(apply Zc Za;exact Z);(iterate 4 exact Z))
  all_goals rfl
 | cons c b=>
  refine AP.ofA (Zl Tryz.func77 Z Tryz.ntmps77 Z Z ?_)
  repeat'(first|(apply Ig Za;(iterate 5 exact Z);intro b hbn;(have hbn2:=hbn (List.cons_ne_nil _ _));subst hbn2;clear hbn)|(apply Zi Za;exact Z)|(apply Zg Za;exact Z)|(apply Zu Za;exact Z)|(apply Zf;exact Z;(first|with_reducible assumption|(solve|simp only[bn])))|refine Oj Za Z Z Z Z Z Z Z Z Z Z Z Z ?_|(apply Z4 Za;(iterate 6 exact Z);(first|with_reducible assumption|exact Z|rotate_left);exact Z;exact Z;(first|exact Zm rfl|with_reducible assumption|rotate_left);(first|exact Zm rfl|with_reducible assumption|rotate_left);(first|exact Qb|rotate_left);(first|exact Qb|rotate_left);(first|exact Qb|rotate_left);exact Z;exact Z))
  all_goals first|(apply Zs [];(apply Zc Za;exact Z);(iterate 4 exact Z))|skip
  all_goals first|rfl|(simp at hb ⊢;(try unfold maxLen);omega)
theorem Wn [Known](a b:List UInt8):AP Tryz.prog 56 [byE a,byE b] (.bool (a==b)) []:=by
 refine AP.ofA (Zl Tryz.func56 Z Tryz.ntmps56 Z Z ?_)
 repeat'(first|(apply Zi Za;exact Z)|(apply Zg Za;exact Z)|refine Vl Za Z Z Z Z Z Z Z Z Z ?_)
 all_goals(apply Zs [];(apply Zc Za;exact Z);(iterate 4 exact Z))
 all_goals rfl
def okB (m:Nat)(c:UInt8):Bool:=(97<=c.toNat&&c.toNat<=122)||(48<=c.toNat&&c.toNat<=57)||c.toNat==45||c.toNat==m
theorem Kk {m:Nat}{c:UInt8}:okB m c=true ↔ (97<=(c.toNat:Int)/\(c.toNat:Int)<=122)\/(48<=(c.toNat:Int)/\(c.toNat:Int)<=57)\/(c.toNat:Int)=45\/(c.toNat:Int)=(m:Int):=by
 simp only[okB,Bool.or_eq_true,Bool.and_eq_true,decide_eq_true_eq,beq_iff_eq]
 omega
theorem Ha (s:ByteArray)(m:Nat)(hm:m<128)(w:World)(B:Bool)(hB:s.data.toList.all (okB m)=B) :
  Calls Tryz.prog 135 #[.string s,.int .i32 (m:Int)] w fun e w'=>e=.returned (.bool B)/\Below w.heap.size w w':=by
 have hT:(∀ j,j<s.size->∀ c,s.data.toList[j]?=some c->okB m c=true)->B=true:=fun h=>by
  rw[<- hB,List.all_eq_true]
  intro x hx
  obtain⟨j,hj⟩:=List.getElem?_of_mem hx
  have hlt:=(List.getElem?_eq_some_iff.1 hj).1
  exact h j (by simpa using hlt) x hj
 have hF:∀(j:Nat) (c:UInt8),s.data.toList[j]?=some c->¬ okB m c=true->B=false:=fun j c hj hc=>by
  rw[<- hB,List.all_eq_false]
  exact⟨c,List.mem_of_getElem? hj,hc⟩
 clear hB
 go_enter Tryz.func135,Tryz.ntmps135
 go_wp2
 go_loopw [] (fun w'=>∃ pos,w'=w.iter s pos/\pos<=s.size/\Hid (∀ j,j<pos->∀ c,s.data.toList[j]?=some c->okB m c=true)) (fun w'=>s.size-w'.iterPos w.heap.size)
 case atStart=>exact⟨0,rfl,Nat.zero_le _,fun j hj=>by omega⟩
 case round=>
  obtain⟨pos,rfl,hps,hall⟩:=hrel
  have hb:∀ p,Below w.heap.size w (w.iter s p):=fun p=>(Below.refl _ _).alloc (Nat.le_refl _) _
  by_cases hp:pos<s.size
  ·have hget:s.data.toList[pos]?=some (s[pos]'hp):=by
    have hlt:pos<s.data.toList.length:=by simpa using hp
    rw[List.getElem?_eq_getElem hlt];rfl
   by_cases ha:(s[pos]'hp).toNat<128
   ·obtain⟨c,hc⟩:∃ c,c=s[pos]'hp:=⟨_,rfl⟩
    have hnx:∀ ty,(Instr.next (.pointer (some ⟨w.heap.size,0,none⟩)) true ty).run Tryz.prog (w.iter s pos)=.ok (.tuple #[.bool true,.int .i64 pos,.int .i32 (c.toNat:Int)]) (w.iter s (pos+1)):=fun ty=>by
     rw[hc];exact run_next_ascii w s pos ty hp ha
    rw[<- hc]at hget ha
    clear hc
    have hbad:=hid (hF pos c hget)
    have hstep:Hid (okB m c=true->∀ j,j<pos+1->∀ c,s.data.toList[j]?=some c->okB m c=true):=fun hc j hj c' hj'=>by
     rcases Nat.lt_or_ge j pos with h|h
     ·exact hall j h c' hj'
     ·have:j=pos:=by omega
      subst this
      rw[hget]at hj'
      injection hj' with hj'
      subst hj'
      exact hc
    clear hT hF hget
    go_wp2
    all_goals first
     | (go_ret
        have hBf:=hbad (fun h=>by rw[Kk]at h;clear hbad hstep hnx;(try simp only[bne_iff_ne,ne_eq,bne_eq_false_iff_eq]at *);omega)
        subst hBf
        exact⟨rfl,hb _⟩)
     | (refine⟨⟨pos+1,rfl,by omega,hstep ?_⟩,?_⟩
        ·rw[Kk]
         clear hbad hstep hnx
         try simp only[bne_iff_ne,ne_eq,bne_eq_false_iff_eq]at *
         omega
        ·simp;omega)
   ·obtain⟨hd1,hd2⟩:=decode_high s pos hp (by omega)
    have hle:=decode_le s pos
    have hnx:∀ ty,(Instr.next (.pointer (some ⟨w.heap.size,0,none⟩)) true ty).run Tryz.prog (w.iter s pos)=_:=fun ty=>run_next_any w s pos ty hp
    have hBf:=hF pos _ hget (fun h=>by rw[Kk]at h;omega)
    clear hT hF hget
    subst hBf
    generalize Utf8.decode s pos=dd at hd1 hd2 hle hnx
    have n1:¬ ((dd.1:Int)<97):=by omega
    have n2:((dd.1:Int)>122):=by omega
    have n3:¬ ((dd.1:Int)<48):=by omega
    have n4:((dd.1:Int)>57):=by omega
    have n5:¬ ((dd.1:Int)=45):=by omega
    have n6:¬ ((dd.1:Int)=(m:Int)):=by omega
    go_wp2
    all_goals first
     | (go_ret;exact⟨rfl,hb _⟩)
     | (exfalso;clear hnx hb hall;(try simp only[bne_iff_ne,ne_eq,bne_eq_false_iff_eq]at *);omega)
  ·have hnx:∀ ty,(Instr.next (.pointer (some ⟨w.heap.size,0,none⟩)) true ty).run Tryz.prog (w.iter s pos)=_:=fun ty=>run_next_end w s pos ty hp
   have hBt:=hT (fun j hj=>hall j (by omega))
   subst hBt
   go_wp2
   go_ret
   exact⟨rfl,hb _⟩
theorem I9 [Known](s:List UInt8)(m:Nat)(hm:m<128):AP Tryz.prog 135 [.str s,.int .i32 (m:Int)] (.bool (s.all (okB m))) []:=by
 refine⟨fun g w vs hmem hl hv=>?_⟩
 obtain⟨v0,v1,rfl⟩:∃ v0 v1,vs=[v0,v1]:=by
  match vs,hl with
  | [v0,v1],_=>exact⟨v0,v1,rfl⟩
 have h0:=(hv 0 _ _ rfl rfl).str_inv.1
 have h1:=(hv 1 _ _ rfl rfl).int_inv
 subst h0 h1
 exact(Ha ⟨s.toArray⟩ m hm w _ rfl).mono fun e w' ⟨he,hb⟩=>Uy hmem hb he (.bool _)
structure EidV where
 i:Bool
 n:Nat
 s:Nat
 h:List UInt8
 d:List UInt8
 deriving DecidableEq
abbrev eC (x:EidV):List D:=[.bool x.i,.int .u64 (x.n:Int),.int .u64 (x.s:Int),.str x.h,.str x.d]
def ZN:EidV:=⟨false,0,0,[],[]⟩
def isZ (x:EidV):Bool:=x.i==false&&((x.n:Int)==0&&((x.s:Int)==0&&(x.h==[]&&(x.d==[]&&true))))
def Yh (x:EidV):Bool:=
 if isZ x then true
 else if x.i then(x.i==true&&((x.n:Int)==(x.n:Int)&&((x.s:Int)==(x.s:Int)&&(x.h==[]&&(x.d==[]&&true)))))&&decide ((x.n:Int) ≥ 1)&&decide ((x.n:Int)<=4294967295)&&decide ((x.s:Int)<=4294967295)
 else(x.i==false&&((x.n:Int)==0&&((x.s:Int)==0&&(x.h==x.h&&(x.d==x.d&&true)))))&&decide ((x.h.length:Int) ≥ 1)&&decide ((x.h.length:Int)<=16)&&decide ((x.d.length:Int)<=24)&&x.h.all (okB 45)&&x.d.all (okB 47)
theorem N5 {x:EidV}(h:isZ x=true):Yh x=true:=by unfold Yh;rw[if_pos h]
theorem Ga {x:EidV}(h:isZ x=false)(hi:x.i=true):Yh x=((x.i==true&&((x.n:Int)==(x.n:Int)&&((x.s:Int)==(x.s:Int)&&(x.h==[]&&(x.d==[]&&true)))))&&decide ((x.n:Int) ≥ 1)&&decide ((x.n:Int)<=4294967295)&&decide ((x.s:Int)<=4294967295)):=by
 unfold Yh;rw[if_neg (by rw[h];decide),if_pos hi]
theorem Gb {x:EidV}(h:isZ x=false)(hi:x.i=false):Yh x=((x.i==false&&((x.n:Int)==0&&((x.s:Int)==0&&(x.h==x.h&&(x.d==x.d&&true)))))&&decide ((x.h.length:Int) ≥ 1)&&decide ((x.h.length:Int)<=16)&&decide ((x.d.length:Int)<=24)&&x.h.all (okB 45)&&x.d.all (okB 47)):=by
 unfold Yh;rw[if_neg (by rw[h];decide),if_neg (by rw[hi];decide)]
theorem WH [Known](x:EidV):AP Tryz.prog 123 [.agg (eC x)] (.bool (Yh x)) []:=by
 refine AP.ofA (Zl Tryz.func123 Z Tryz.ntmps123 Z Z ?_)
 cases hz:isZ x with
 | true=>
  rw[N5 hz]
  unfold isZ at hz
  repeat'(first|(apply Zi Za;exact Z)|(apply Zg Za;exact Z)|(apply Zu Za;exact Z)|(apply Zd;exact Z;(first|with_reducible assumption|(solve|simp only[bn])))|refine VF Za Z Z Z Z Qk Qk Z Z Z ?_)
  (apply Zs [];(apply Zc Za;exact Z);(iterate 4 exact Z))
  all_goals rfl
 | false=>
  cases hi:x.i with
  | true=>
   rw[Ga hz hi]
   unfold isZ at hz
   repeat'(first|(apply Zi Za;exact Z)|(apply Zg Za;exact Z)|(apply Zu Za;exact Z)|(apply Ze;(iterate 3 exact Z);(first|with_reducible assumption|(solve|simp only[bn])))|(apply Zv;(iterate 3 exact Z);(first|with_reducible assumption|(solve|simp only[bn])))|(apply YF;exact Z;exact Z;all_goals intro hb)|(apply Zk;exact Z;(first|with_reducible assumption|(solve|simp only[bn]));exact Z;exact Z)|(apply Zj;exact Z;(first|with_reducible assumption|(solve|simp only[bn]));exact Z;exact Z)|(apply Zd;exact Z;(first|with_reducible assumption|(solve|simp only[bn])))|(apply Zf;exact Z;(first|with_reducible assumption|(solve|simp only[bn])))|refine VF Za Z Z Z Z Qk Qk Z Z Z ?_)
   all_goals(apply Zs [];(apply Zc Za;exact Z);(iterate 4 exact Z))
   all_goals first|rfl|(clear hi hz;simp only[*];done)|(clear hi hz;simp only[*];simp only[Bool.and_true,Bool.true_and,Bool.and_false,Bool.false_and];done)
  | false=>
   rw[Gb hz hi]
   unfold isZ at hz
   repeat'(first|(apply Zb (I9 x.h 45 (by decide));kernel_rfl;(iterate 4 exact Z))|(apply Zb (I9 x.d 47 (by decide));kernel_rfl;(iterate 4 exact Z))|(apply Zi Za;exact Z)|(apply Zg Za;exact Z)|(apply Zu Za;exact Z)|(apply Ze;(iterate 3 exact Z);(first|with_reducible assumption|(solve|simp only[bn])))|(apply Zv;(iterate 3 exact Z);(first|with_reducible assumption|(solve|simp only[bn])))|(apply YF;exact Z;exact Z;all_goals intro hb)|(apply Zk;exact Z;(first|with_reducible assumption|(solve|simp only[bn]));exact Z;exact Z)|(apply Zj;exact Z;(first|with_reducible assumption|(solve|simp only[bn]));exact Z;exact Z)|(apply Zf;exact Z;(first|with_reducible assumption|(solve|simp only[bn])))|refine Ud Za Z Z Z Z ?_|refine VF Za Z Z Z Z Qk Qk Z Z Z ?_)
   all_goals(apply Zs [];(apply Zc Za;exact Z);(iterate 4 exact Z))
   all_goals first|rfl|(clear hi hz;simp only[*];done)|(clear hi hz;simp only[*];simp only[Bool.and_true,Bool.true_and,Bool.and_false,Bool.false_and];done)
end Go.Proofs.YtkdpfkjlheajhaaGreatDoor
end
section
open Go.RowKit Go.Pl
namespace Go.Pl
variable {P:Program} {t:TypeId}
theorem Gc {α β γ δ ε:Type}{R0:Rep α}{R1:Rep β}{R2:Rep γ}{R3:Rep δ}{R4:Rep ε}{fs:Array Field}{f0 f1 f2 f3 f4:Field}(hs:P.underlying t=some (.struct fs))(hfs:fs = #[f0,f1,f2,f3,f4])
  (h00:f0.offset=0) (h01:f1.offset=R0.n) (h02:f2.offset=R0.n+R1.n) (h03:f3.offset=R0.n+R1.n+R2.n) (h04:f4.offset=R0.n+R1.n+R2.n+R3.n)
  (hc0:P.cellsOf f0.type=R0.n) (hc1:P.cellsOf f1.type=R1.n) (hc2:P.cellsOf f2.type=R2.n) (hc3:P.cellsOf f3.type=R3.n) (hc4:P.cellsOf f4.type=R4.n) (hc:P.cellsOf t=R0.n+(R1.n+(R2.n+(R3.n+R4.n))))
  (h0:Wz P f0.type R0) (h1:Wz P f1.type R1) (h2:Wz P f2.type R2) (h3:Wz P f3.type R3) (h4:Wz P f4.type R4):Wz P t (R0.prod (R1.prod (R2.prod (R3.prod R4)))):=by
 intro H enc W spare held fuel cs y h
 obtain⟨xs,n,_,_,hl,hxl,hg⟩:=DataW.trod_struct hs h
 subst hfs
 have e0:=hg 0 f0 rfl
 have e1:=hg 1 f1 rfl
 have e2:=hg 2 f2 rfl
 have e3:=hg 3 f3 rfl
 have e4:=hg 4 f4 rfl
 rw[h00,hc0,List.drop_zero]at e0
 rw[h01,hc1]at e1
 rw[h02,hc2]at e2
 rw[h03,hc3]at e3
 rw[h04,hc4]at e4
 have hn:xs.length=5:=hxl
 have hx0:xs[0]?=some (xs[0]'(by omega)):=List.getElem?_eq_getElem (by omega)
 have hx1:xs[1]?=some (xs[1]'(by omega)):=List.getElem?_eq_getElem (by omega)
 have hx2:xs[2]?=some (xs[2]'(by omega)):=List.getElem?_eq_getElem (by omega)
 have hx3:xs[3]?=some (xs[3]'(by omega)):=List.getElem?_eq_getElem (by omega)
 have hx4:xs[4]?=some (xs[4]'(by omega)):=List.getElem?_eq_getElem (by omega)
 obtain⟨x0,k0⟩:=h0 H enc W spare held n _ _ (e0.trans hx0)
 obtain⟨x1,k1⟩:=h1 H enc W spare held n _ _ (e1.trans hx1)
 obtain⟨x2,k2⟩:=h2 H enc W spare held n _ _ (e2.trans hx2)
 obtain⟨x3,k3⟩:=h3 H enc W spare held n _ _ (e3.trans hx3)
 obtain⟨x4,k4⟩:=h4 H enc W spare held n _ _ (e4.trans hx4)
 refine⟨(x0,x1,x2,x3,x4),cs.take R0.n,cs.drop R0.n,(List.take_append_drop _ _).symm,k0,(cs.drop R0.n).take R1.n,(cs.drop R0.n).drop R1.n,(List.take_append_drop _ _).symm,k1,
  ((cs.drop R0.n).drop R1.n).take R2.n,((cs.drop R0.n).drop R1.n).drop R2.n,(List.take_append_drop _ _).symm,?_,(((cs.drop R0.n).drop R1.n).drop R2.n).take R3.n,(((cs.drop R0.n).drop R1.n).drop R2.n).drop R3.n,(List.take_append_drop _ _).symm,?_,?_⟩
 ·rw[List.drop_drop];exact k2
 ·rw[List.drop_drop,List.drop_drop,show R0.n+(R1.n+R2.n)=R0.n+R1.n+R2.n from by omega];exact k3
 ·rw[List.drop_drop,List.drop_drop,List.drop_drop,show R0.n+(R1.n+(R2.n+R3.n))=R0.n+R1.n+R2.n+R3.n from by omega]
  rw[List.take_of_length_le (i:=R4.n) (by rw[List.length_drop];omega)]at k4
  exact k4
abbrev RE:Rep (Bool × Nat × Nat × List UInt8 × List UInt8):=Rep.bool.prod (Rep.u64.prod (Rep.u64.prod (Rep.str.prod Rep.str)))
end Go.Pl
end
section
open Go.RowKit Go.Pl
namespace Go.Proofs.YtkdpfkjlheajhaaGreatDoor
theorem RH:Wz Tryz.prog 39 RE:=
 Gc Tryz.underlying39 rfl rfl rfl rfl rfl rfl (by kernel_rfl) (by kernel_rfl) (by kernel_rfl) (by kernel_rfl) (by kernel_rfl) (by kernel_rfl) (Kb Tryz.underlying4) (Vi Tryz.underlying31) (Vi Tryz.underlying31) (K7 Tryz.underlying9) (K7 Tryz.underlying9)
end Go.Proofs.YtkdpfkjlheajhaaGreatDoor
end
section
open Go.RowKit Go.Pl Go.Av
namespace Go.Proofs.YtkdpfkjlheajhaaGreatDoor
set_option maxHeartbeats 4000000
abbrev eqE (a b:EidV):Bool:=a.i==b.i&&((a.n:Int)==(b.n:Int)&&((a.s:Int)==(b.s:Int)&&(a.h==b.h&&(a.d==b.d&&true))))
theorem H9 {a b:EidV}:eqE a b=true ↔ a=b:=by
 obtain⟨i,n,s,h,d⟩:=a
 obtain⟨i',n',s',h',d'⟩:=b
 simp only[eqE,Bool.and_eq_true,beq_iff_eq,EidV.mk.injEq]
 constructor
 ·rintro⟨h1,h2,h3,h4,h5,_⟩
  exact⟨h1,by omega,by omega,h4,h5⟩
 ·rintro⟨h1,h2,h3,h4,h5⟩
  exact⟨h1,by omega,by omega,h4,h5,trivial⟩
theorem Ta:ToE RE (fun x=>.agg [.bool x.1,.int .u64 (x.2.1:Int),.int .u64 (x.2.2.1:Int),.str x.2.2.2.1,.str x.2.2.2.2]):=
 ToE.bool.prod (ToE.u64.prod (ToE.u64.prod (ToE.str.prod ToE.str)))
abbrev XE:=Bool × Nat × Nat × List UInt8 × List UInt8
def XE.v (x:XE):EidV:=⟨x.1,x.2.1,x.2.2.1,x.2.2.2.1,x.2.2.2.2⟩
end Go.Proofs.YtkdpfkjlheajhaaGreatDoor
end
section
open Go.RowKit Go.Pl Go.Av
namespace Go.Proofs.YtkdpfkjlheajhaaGreatDoor
theorem Qe {p:Prop}(h:p:=by(apply Zs [];(apply Zc Za;exact Z);(iterate 4 exact Z));all_goals rfl):p:=h
end Go.Proofs.YtkdpfkjlheajhaaGreatDoor
end
