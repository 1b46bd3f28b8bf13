/- The types of this seat's program, laid open: which kind each is of, its size, its zero. -/
import Derived.Test.YtmljabhmajehnaaDoorN03
import Derived.Test.YtmljabhmajehnaaDoorProg
import Derived.Test.YtmljabhmajehnaaDoorN09
import Derived.Test.YtmljabhmajehnaaDoorN07
import Derived.Laws.RangeAny
import Derived.LoopTactic
import Derived.Test.YtmljabhmajehnaaDoorN08
import Derived.Lib.Strings
import Derived.Lib.Slices
import Derived.Lib.Walk
import Derived.Lib.Bytealg
import Derived.LaidEql
set_option linter.unusedVariables false
set_option linter.unusedSimpArgs false
section
open Go.RowKit Go.Pl Go.Av
namespace Go.Proofs.YtmljabhmajehnaaDoor
set_option maxHeartbeats 4000000
def tt:Tab:=[(1,Ti.mk Kd.func 1 8 [ZK.f]),
 (2,Ti.mk (Kd.int IntKind.i64) 1 8 [ZK.i IntKind.i64]),
 (3,Ti.mk (Kd.int IntKind.i64) 1 8 [ZK.i IntKind.i64]),
 (4,Ti.mk Kd.bool 1 1 [ZK.b]),
 (5,Ti.mk (Kd.int IntKind.u8) 1 1 [ZK.i IntKind.u8]),
 (6,Ti.mk (Kd.int IntKind.u8) 1 1 [ZK.i IntKind.u8]),
 (7,Ti.mk (Kd.struct [Av.Fd.mk 0 1 Bool.false 2,Av.Fd.mk 1 1 Bool.false 3,Av.Fd.mk 2 1 Bool.false 4,Av.Fd.mk 3 1 Bool.false 6]) 4 24 [ZK.i IntKind.i64,ZK.i IntKind.i64,ZK.b,ZK.i IntKind.u8]),
 (8,Ti.mk (Kd.struct [Av.Fd.mk 0 1 Bool.false 2,Av.Fd.mk 1 1 Bool.false 3,Av.Fd.mk 2 1 Bool.false 4,Av.Fd.mk 3 1 Bool.false 6]) 4 24 [ZK.i IntKind.i64,ZK.i IntKind.i64,ZK.b,ZK.i IntKind.u8]),
 (9,Ti.mk Kd.str 1 16 [ZK.s]),
 (10,Ti.mk Kd.str 1 16 [ZK.s]),
 (11,Ti.mk Kd.str 1 16 [ZK.s]),
 (12,Ti.mk (Kd.int IntKind.u64) 1 8 [ZK.i IntKind.u64]),
 (13,Ti.mk (Kd.struct [Av.Fd.mk 0 1 Bool.false 9,Av.Fd.mk 1 1 Bool.false 12]) 2 24 [ZK.s,ZK.i IntKind.u64]),
 (14,Ti.mk (Kd.struct [Av.Fd.mk 0 1 Bool.false 9,Av.Fd.mk 1 1 Bool.false 12]) 2 24 [ZK.s,ZK.i IntKind.u64]),
 (15,Ti.mk (Kd.ptr 169) 1 8 [ZK.p]),
 (16,Ti.mk (Kd.ptr 172) 1 8 [ZK.p]),
 (17,Ti.mk (Kd.ptr 181) 1 8 [ZK.p]),
 (18,Ti.mk (Kd.struct [Av.Fd.mk 0 1 Bool.false 17]) 1 8 [ZK.p]),
 (19,Ti.mk (Kd.struct [Av.Fd.mk 0 1 Bool.false 17]) 1 8 [ZK.p]),
 (20,Ti.mk Kd.iface 1 16 [ZK.n]),
 (21,Ti.mk (Kd.int IntKind.i32) 1 4 [ZK.i IntKind.i32]),
 (22,Ti.mk (Kd.int IntKind.u64) 1 8 [ZK.i IntKind.u64]),
 (23,Ti.mk (Kd.struct [Av.Fd.mk 0 1 Bool.false 4,Av.Fd.mk 1 1 Bool.false 22,Av.Fd.mk 2 1 Bool.false 22,Av.Fd.mk 3 1 Bool.false 9,Av.Fd.mk 4 1 Bool.false 9]) 5 56 [ZK.b,ZK.i IntKind.u64,ZK.i IntKind.u64,ZK.s,ZK.s]),
 (24,Ti.mk (Kd.struct [Av.Fd.mk 0 1 Bool.false 4,Av.Fd.mk 1 1 Bool.false 22,Av.Fd.mk 2 1 Bool.false 22,Av.Fd.mk 3 1 Bool.false 9,Av.Fd.mk 4 1 Bool.false 9]) 5 56 [ZK.b,ZK.i IntKind.u64,ZK.i IntKind.u64,ZK.s,ZK.s]),
 (25,Ti.mk (Kd.struct [Av.Fd.mk 0 5 Bool.true 24,Av.Fd.mk 5 1 Bool.false 22,Av.Fd.mk 6 1 Bool.false 22]) 7 72 [ZK.b,ZK.i IntKind.u64,ZK.i IntKind.u64,ZK.s,ZK.s,ZK.i IntKind.u64,ZK.i IntKind.u64]),
 (26,Ti.mk (Kd.struct [Av.Fd.mk 0 5 Bool.true 24,Av.Fd.mk 5 1 Bool.false 22,Av.Fd.mk 6 1 Bool.false 22]) 7 72 [ZK.b,ZK.i IntKind.u64,ZK.i IntKind.u64,ZK.s,ZK.s,ZK.i IntKind.u64,ZK.i IntKind.u64]),
 (27,Ti.mk (Kd.struct [Av.Fd.mk 0 1 Bool.false 4,Av.Fd.mk 1 1 Bool.false 4,Av.Fd.mk 2 1 Bool.false 4,Av.Fd.mk 3 1 Bool.false 22,Av.Fd.mk 4 1 Bool.false 22,Av.Fd.mk 5 7 Bool.true 26]) 12 96 [ZK.b,ZK.b,ZK.b,ZK.i IntKind.u64,ZK.i IntKind.u64,ZK.b,ZK.i IntKind.u64,ZK.i IntKind.u64,ZK.s,ZK.s,ZK.i IntKind.u64,ZK.i IntKind.u64]),
 (28,Ti.mk (Kd.struct [Av.Fd.mk 0 1 Bool.false 4,Av.Fd.mk 1 1 Bool.false 4,Av.Fd.mk 2 1 Bool.false 4,Av.Fd.mk 3 1 Bool.false 22,Av.Fd.mk 4 1 Bool.false 22,Av.Fd.mk 5 7 Bool.true 26]) 12 96 [ZK.b,ZK.b,ZK.b,ZK.i IntKind.u64,ZK.i IntKind.u64,ZK.b,ZK.i IntKind.u64,ZK.i IntKind.u64,ZK.s,ZK.s,ZK.i IntKind.u64,ZK.i IntKind.u64]),
 (29,Ti.mk (Kd.struct [Av.Fd.mk 0 1 Bool.false 22,Av.Fd.mk 1 1 Bool.false 3,Av.Fd.mk 2 5 Bool.true 24,Av.Fd.mk 7 5 Bool.true 24,Av.Fd.mk 12 7 Bool.true 26,Av.Fd.mk 19 1 Bool.false 22]) 20 208 [ZK.i IntKind.u64,ZK.i IntKind.i64,ZK.b,ZK.i IntKind.u64,ZK.i IntKind.u64,ZK.s,ZK.s,ZK.b,ZK.i IntKind.u64,ZK.i IntKind.u64,ZK.s,ZK.s,ZK.b,ZK.i IntKind.u64,ZK.i IntKind.u64,ZK.s,ZK.s,ZK.i IntKind.u64,ZK.i IntKind.u64,ZK.i IntKind.u64]),
 (30,Ti.mk (Kd.struct [Av.Fd.mk 0 1 Bool.false 22,Av.Fd.mk 1 1 Bool.false 3,Av.Fd.mk 2 5 Bool.true 24,Av.Fd.mk 7 5 Bool.true 24,Av.Fd.mk 12 7 Bool.true 26,Av.Fd.mk 19 1 Bool.false 22]) 20 208 [ZK.i IntKind.u64,ZK.i IntKind.i64,ZK.b,ZK.i IntKind.u64,ZK.i IntKind.u64,ZK.s,ZK.s,ZK.b,ZK.i IntKind.u64,ZK.i IntKind.u64,ZK.s,ZK.s,ZK.b,ZK.i IntKind.u64,ZK.i IntKind.u64,ZK.s,ZK.s,ZK.i IntKind.u64,ZK.i IntKind.u64,ZK.i IntKind.u64]),
 (31,Ti.mk (Kd.slice 41) 1 24 [ZK.l]),
 (32,Ti.mk (Kd.struct [Av.Fd.mk 0 20 Bool.true 30,Av.Fd.mk 20 1 Bool.false 31]) 21 232 [ZK.i IntKind.u64,ZK.i IntKind.i64,ZK.b,ZK.i IntKind.u64,ZK.i IntKind.u64,ZK.s,ZK.s,ZK.b,ZK.i IntKind.u64,ZK.i IntKind.u64,ZK.s,ZK.s,ZK.b,ZK.i IntKind.u64,ZK.i IntKind.u64,ZK.s,ZK.s,ZK.i IntKind.u64,ZK.i IntKind.u64,ZK.i IntKind.u64,ZK.l]),
 (33,Ti.mk (Kd.struct [Av.Fd.mk 0 20 Bool.true 30,Av.Fd.mk 20 1 Bool.false 31]) 21 232 [ZK.i IntKind.u64,ZK.i IntKind.i64,ZK.b,ZK.i IntKind.u64,ZK.i IntKind.u64,ZK.s,ZK.s,ZK.b,ZK.i IntKind.u64,ZK.i IntKind.u64,ZK.s,ZK.s,ZK.b,ZK.i IntKind.u64,ZK.i IntKind.u64,ZK.s,ZK.s,ZK.i IntKind.u64,ZK.i IntKind.u64,ZK.i IntKind.u64,ZK.l]),
 (34,Ti.mk (Kd.int IntKind.i64) 1 8 [ZK.i IntKind.i64]),
 (36,Ti.mk Kd.func 1 8 [ZK.f]),
 (37,Ti.mk Kd.func 1 8 [ZK.f]),
 (38,Ti.mk Kd.func 1 8 [ZK.f]),
 (39,Ti.mk (Kd.slice 5) 1 24 [ZK.l]),
 (40,Ti.mk (Kd.struct [Av.Fd.mk 0 1 Bool.false 22,Av.Fd.mk 1 1 Bool.false 22,Av.Fd.mk 2 1 Bool.false 22,Av.Fd.mk 3 1 Bool.false 3,Av.Fd.mk 4 1 Bool.false 39]) 5 56 [ZK.i IntKind.u64,ZK.i IntKind.u64,ZK.i IntKind.u64,ZK.i IntKind.i64,ZK.l]),
 (41,Ti.mk (Kd.struct [Av.Fd.mk 0 1 Bool.false 22,Av.Fd.mk 1 1 Bool.false 22,Av.Fd.mk 2 1 Bool.false 22,Av.Fd.mk 3 1 Bool.false 3,Av.Fd.mk 4 1 Bool.false 39]) 5 56 [ZK.i IntKind.u64,ZK.i IntKind.u64,ZK.i IntKind.u64,ZK.i IntKind.i64,ZK.l]),
 (43,Ti.mk Kd.func 1 8 [ZK.f]),
 (44,Ti.mk Kd.func 1 8 [ZK.f]),
 (46,Ti.mk Kd.func 1 8 [ZK.f]),
 (47,Ti.mk Kd.func 1 8 [ZK.f]),
 (48,Ti.mk Kd.func 1 8 [ZK.f]),
 (49,Ti.mk Kd.func 1 8 [ZK.f]),
 (50,Ti.mk Kd.func 1 8 [ZK.f]),
 (51,Ti.mk Kd.func 1 8 [ZK.f]),
 (52,Ti.mk Kd.func 1 8 [ZK.f]),
 (53,Ti.mk Kd.func 1 8 [ZK.f]),
 (54,Ti.mk Kd.func 1 8 [ZK.f]),
 (55,Ti.mk Kd.func 1 8 [ZK.f]),
 (57,Ti.mk Kd.func 1 8 [ZK.f]),
 (58,Ti.mk (Kd.slice 60) 1 24 [ZK.l]),
 (59,Ti.mk (Kd.struct [Av.Fd.mk 0 1 Bool.false 3,Av.Fd.mk 1 1 Bool.false 22,Av.Fd.mk 2 1 Bool.false 39,Av.Fd.mk 3 1 Bool.false 58]) 4 64 [ZK.i IntKind.i64,ZK.i IntKind.u64,ZK.l,ZK.l]),
 (60,Ti.mk (Kd.struct [Av.Fd.mk 0 1 Bool.false 3,Av.Fd.mk 1 1 Bool.false 22,Av.Fd.mk 2 1 Bool.false 39,Av.Fd.mk 3 1 Bool.false 58]) 4 64 [ZK.i IntKind.i64,ZK.i IntKind.u64,ZK.l,ZK.l]),
 (62,Ti.mk Kd.func 1 8 [ZK.f]),
 (64,Ti.mk Kd.func 1 8 [ZK.f]),
 (66,Ti.mk Kd.func 1 8 [ZK.f]),
 (67,Ti.mk Kd.func 1 8 [ZK.f]),
 (69,Ti.mk Kd.func 1 8 [ZK.f]),
 (70,Ti.mk Kd.func 1 8 [ZK.f]),
 (71,Ti.mk Kd.func 1 8 [ZK.f]),
 (72,Ti.mk Kd.func 1 8 [ZK.f]),
 (73,Ti.mk Kd.func 1 8 [ZK.f]),
 (74,Ti.mk Kd.func 1 8 [ZK.f]),
 (75,Ti.mk Kd.func 1 8 [ZK.f]),
 (77,Ti.mk Kd.func 1 8 [ZK.f]),
 (78,Ti.mk Kd.func 1 8 [ZK.f]),
 (79,Ti.mk Kd.func 1 8 [ZK.f]),
 (80,Ti.mk Kd.func 1 8 [ZK.f]),
 (81,Ti.mk Kd.func 1 8 [ZK.f]),
 (82,Ti.mk Kd.func 1 8 [ZK.f]),
 (83,Ti.mk (Kd.struct [Av.Fd.mk 0 1 Bool.false 34]) 1 8 [ZK.i IntKind.i64]),
 (84,Ti.mk (Kd.struct [Av.Fd.mk 0 1 Bool.false 34]) 1 8 [ZK.i IntKind.i64]),
 (86,Ti.mk (Kd.ptr 88) 1 8 [ZK.p]),
 (87,Ti.mk (Kd.struct [Av.Fd.mk 0 1 Bool.false 39,Av.Fd.mk 1 1 Bool.false 3,Av.Fd.mk 2 1 Bool.false 3]) 3 40 [ZK.l,ZK.i IntKind.i64,ZK.i IntKind.i64]),
 (88,Ti.mk (Kd.struct [Av.Fd.mk 0 1 Bool.false 39,Av.Fd.mk 1 1 Bool.false 3,Av.Fd.mk 2 1 Bool.false 3]) 3 40 [ZK.l,ZK.i IntKind.i64,ZK.i IntKind.i64]),
 (89,Ti.mk Kd.func 1 8 [ZK.f]),
 (91,Ti.mk Kd.func 1 8 [ZK.f]),
 (93,Ti.mk Kd.func 1 8 [ZK.f]),
 (94,Ti.mk Kd.func 1 8 [ZK.f]),
 (95,Ti.mk Kd.func 1 8 [ZK.f]),
 (96,Ti.mk Kd.func 1 8 [ZK.f]),
 (97,Ti.mk Kd.func 1 8 [ZK.f]),
 (98,Ti.mk Kd.func 1 8 [ZK.f]),
 (99,Ti.mk (Kd.slice 4) 1 24 [ZK.l]),
 (100,Ti.mk Kd.func 1 8 [ZK.f]),
 (101,Ti.mk Kd.func 1 8 [ZK.f]),
 (102,Ti.mk Kd.func 1 8 [ZK.f]),
 (103,Ti.mk Kd.func 1 8 [ZK.f]),
 (104,Ti.mk Kd.func 1 8 [ZK.f]),
 (105,Ti.mk (Kd.struct [Av.Fd.mk 0 1 Bool.false 3,Av.Fd.mk 1 1 Bool.false 22,Av.Fd.mk 2 1 Bool.false 4]) 3 24 [ZK.i IntKind.i64,ZK.i IntKind.u64,ZK.b]),
 (106,Ti.mk (Kd.struct [Av.Fd.mk 0 1 Bool.false 3,Av.Fd.mk 1 1 Bool.false 22,Av.Fd.mk 2 1 Bool.false 4]) 3 24 [ZK.i IntKind.i64,ZK.i IntKind.u64,ZK.b]),
 (107,Ti.mk Kd.func 1 8 [ZK.f]),
 (108,Ti.mk Kd.func 1 8 [ZK.f]),
 (109,Ti.mk Kd.func 1 8 [ZK.f]),
 (110,Ti.mk Kd.func 1 8 [ZK.f]),
 (111,Ti.mk Kd.func 1 8 [ZK.f]),
 (112,Ti.mk Kd.func 1 8 [ZK.f]),
 (113,Ti.mk Kd.func 1 8 [ZK.f]),
 (115,Ti.mk Kd.func 1 8 [ZK.f]),
 (116,Ti.mk (Kd.slice 22) 1 24 [ZK.l]),
 (118,Ti.mk Kd.func 1 8 [ZK.f]),
 (119,Ti.mk Kd.func 1 8 [ZK.f]),
 (120,Ti.mk Kd.func 1 8 [ZK.f]),
 (121,Ti.mk Kd.func 1 8 [ZK.f]),
 (122,Ti.mk Kd.func 1 8 [ZK.f]),
 (123,Ti.mk Kd.func 1 8 [ZK.f]),
 (124,Ti.mk Kd.func 1 8 [ZK.f]),
 (125,Ti.mk Kd.func 1 8 [ZK.f]),
 (126,Ti.mk Kd.func 1 8 [ZK.f]),
 (128,Ti.mk Kd.func 1 8 [ZK.f]),
 (130,Ti.mk Kd.func 1 8 [ZK.f]),
 (131,Ti.mk Kd.func 1 8 [ZK.f]),
 (133,Ti.mk Kd.func 1 8 [ZK.f]),
 (134,Ti.mk Kd.func 1 8 [ZK.f]),
 (135,Ti.mk Kd.func 1 8 [ZK.f]),
 (136,Ti.mk (Kd.int IntKind.u16) 1 2 [ZK.i IntKind.u16]),
 (137,Ti.mk Kd.func 1 8 [ZK.f]),
 (138,Ti.mk (Kd.int IntKind.u64) 1 8 [ZK.i IntKind.u64]),
 (139,Ti.mk (Kd.int IntKind.u32) 1 4 [ZK.i IntKind.u32]),
 (140,Ti.mk Kd.func 1 8 [ZK.f]),
 (142,Ti.mk Kd.func 1 8 [ZK.f]),
 (144,Ti.mk Kd.func 1 8 [ZK.f]),
 (145,Ti.mk Kd.func 1 8 [ZK.f]),
 (146,Ti.mk Kd.func 1 8 [ZK.f]),
 (147,Ti.mk Kd.func 1 8 [ZK.f]),
 (148,Ti.mk Kd.func 1 8 [ZK.f]),
 (149,Ti.mk Kd.func 1 8 [ZK.f]),
 (151,Ti.mk Kd.func 1 8 [ZK.f]),
 (152,Ti.mk Kd.func 1 8 [ZK.f]),
 (153,Ti.mk Kd.func 1 8 [ZK.f]),
 (154,Ti.mk Kd.func 1 8 [ZK.f]),
 (155,Ti.mk Kd.func 1 8 [ZK.f]),
 (156,Ti.mk (Kd.array 256 5) 256 256 [ZK.i IntKind.u8,ZK.i IntKind.u8,ZK.i IntKind.u8,ZK.i IntKind.u8,ZK.i IntKind.u8,ZK.i IntKind.u8,ZK.i IntKind.u8,ZK.i IntKind.u8,ZK.i IntKind.u8,ZK.i IntKind.u8,ZK.i IntKind.u8,ZK.i IntKind.u8,ZK.i IntKind.u8,ZK.i IntKind.u8,ZK.i IntKind.u8,ZK.i IntKind.u8,ZK.i IntKind.u8,ZK.i IntKind.u8,ZK.i IntKind.u8,ZK.i IntKind.u8,ZK.i IntKind.u8,ZK.i IntKind.u8,ZK.i IntKind.u8,ZK.i IntKind.u8,ZK.i IntKind.u8,ZK.i IntKind.u8,ZK.i IntKind.u8,ZK.i IntKind.u8,ZK.i IntKind.u8,ZK.i IntKind.u8,ZK.i IntKind.u8,ZK.i IntKind.u8,ZK.i IntKind.u8,ZK.i IntKind.u8,ZK.i IntKind.u8,ZK.i IntKind.u8,ZK.i IntKind.u8,ZK.i IntKind.u8,ZK.i IntKind.u8,ZK.i IntKind.u8,ZK.i IntKind.u8,ZK.i IntKind.u8,ZK.i IntKind.u8,ZK.i IntKind.u8,ZK.i IntKind.u8,ZK.i IntKind.u8,ZK.i IntKind.u8,ZK.i IntKind.u8,ZK.i IntKind.u8,ZK.i IntKind.u8,ZK.i IntKind.u8,ZK.i IntKind.u8,ZK.i IntKind.u8,ZK.i IntKind.u8,ZK.i IntKind.u8,ZK.i IntKind.u8,ZK.i IntKind.u8,ZK.i IntKind.u8,ZK.i IntKind.u8,ZK.i IntKind.u8,ZK.i IntKind.u8,ZK.i IntKind.u8,ZK.i IntKind.u8,ZK.i IntKind.u8,ZK.i IntKind.u8,ZK.i IntKind.u8,ZK.i IntKind.u8,ZK.i IntKind.u8,ZK.i IntKind.u8,ZK.i IntKind.u8,ZK.i IntKind.u8,ZK.i IntKind.u8,ZK.i IntKind.u8,ZK.i IntKind.u8,ZK.i IntKind.u8,ZK.i IntKind.u8,ZK.i IntKind.u8,ZK.i IntKind.u8,ZK.i IntKind.u8,ZK.i IntKind.u8,ZK.i IntKind.u8,ZK.i IntKind.u8,ZK.i IntKind.u8,ZK.i IntKind.u8,ZK.i IntKind.u8,ZK.i IntKind.u8,ZK.i IntKind.u8,ZK.i IntKind.u8,ZK.i IntKind.u8,ZK.i IntKind.u8,ZK.i IntKind.u8,ZK.i IntKind.u8,ZK.i IntKind.u8,ZK.i IntKind.u8,ZK.i IntKind.u8,ZK.i IntKind.u8,ZK.i IntKind.u8,ZK.i IntKind.u8,ZK.i IntKind.u8,ZK.i IntKind.u8,ZK.i IntKind.u8,ZK.i IntKind.u8,ZK.i IntKind.u8,ZK.i IntKind.u8,ZK.i IntKind.u8,ZK.i IntKind.u8,ZK.i IntKind.u8,ZK.i IntKind.u8,ZK.i IntKind.u8,ZK.i IntKind.u8,ZK.i IntKind.u8,ZK.i IntKind.u8,ZK.i IntKind.u8,ZK.i IntKind.u8,ZK.i IntKind.u8,ZK.i IntKind.u8,ZK.i IntKind.u8,ZK.i IntKind.u8,ZK.i IntKind.u8,ZK.i IntKind.u8,ZK.i IntKind.u8,ZK.i IntKind.u8,ZK.i IntKind.u8,ZK.i IntKind.u8,ZK.i IntKind.u8,ZK.i IntKind.u8,ZK.i IntKind.u8,ZK.i IntKind.u8,ZK.i IntKind.u8,ZK.i IntKind.u8,ZK.i IntKind.u8,ZK.i IntKind.u8,ZK.i IntKind.u8,ZK.i IntKind.u8,ZK.i IntKind.u8,ZK.i IntKind.u8,ZK.i IntKind.u8,ZK.i IntKind.u8,ZK.i IntKind.u8,ZK.i IntKind.u8,ZK.i IntKind.u8,ZK.i IntKind.u8,ZK.i IntKind.u8,ZK.i IntKind.u8,ZK.i IntKind.u8,ZK.i IntKind.u8,ZK.i IntKind.u8,ZK.i IntKind.u8,ZK.i IntKind.u8,ZK.i IntKind.u8,ZK.i IntKind.u8,ZK.i IntKind.u8,ZK.i IntKind.u8,ZK.i IntKind.u8,ZK.i IntKind.u8,ZK.i IntKind.u8,ZK.i IntKind.u8,ZK.i IntKind.u8,ZK.i IntKind.u8,ZK.i IntKind.u8,ZK.i IntKind.u8,ZK.i IntKind.u8,ZK.i IntKind.u8,ZK.i IntKind.u8,ZK.i IntKind.u8,ZK.i IntKind.u8,ZK.i IntKind.u8,ZK.i IntKind.u8,ZK.i IntKind.u8,ZK.i IntKind.u8,ZK.i IntKind.u8,ZK.i IntKind.u8,ZK.i IntKind.u8,ZK.i IntKind.u8,ZK.i IntKind.u8,ZK.i IntKind.u8,ZK.i IntKind.u8,ZK.i IntKind.u8,ZK.i IntKind.u8,ZK.i IntKind.u8,ZK.i IntKind.u8,ZK.i IntKind.u8,ZK.i IntKind.u8,ZK.i IntKind.u8,ZK.i IntKind.u8,ZK.i IntKind.u8,ZK.i IntKind.u8,ZK.i IntKind.u8,ZK.i IntKind.u8,ZK.i IntKind.u8,ZK.i IntKind.u8,ZK.i IntKind.u8,ZK.i IntKind.u8,ZK.i IntKind.u8,ZK.i IntKind.u8,ZK.i IntKind.u8,ZK.i IntKind.u8,ZK.i IntKind.u8,ZK.i IntKind.u8,ZK.i IntKind.u8,ZK.i IntKind.u8,ZK.i IntKind.u8,ZK.i IntKind.u8,ZK.i IntKind.u8,ZK.i IntKind.u8,ZK.i IntKind.u8,ZK.i IntKind.u8,ZK.i IntKind.u8,ZK.i IntKind.u8,ZK.i IntKind.u8,ZK.i IntKind.u8,ZK.i IntKind.u8,ZK.i IntKind.u8,ZK.i IntKind.u8,ZK.i IntKind.u8,ZK.i IntKind.u8,ZK.i IntKind.u8,ZK.i IntKind.u8,ZK.i IntKind.u8,ZK.i IntKind.u8,ZK.i IntKind.u8,ZK.i IntKind.u8,ZK.i IntKind.u8,ZK.i IntKind.u8,ZK.i IntKind.u8,ZK.i IntKind.u8,ZK.i IntKind.u8,ZK.i IntKind.u8,ZK.i IntKind.u8,ZK.i IntKind.u8,ZK.i IntKind.u8,ZK.i IntKind.u8,ZK.i IntKind.u8,ZK.i IntKind.u8,ZK.i IntKind.u8,ZK.i IntKind.u8,ZK.i IntKind.u8,ZK.i IntKind.u8,ZK.i IntKind.u8,ZK.i IntKind.u8,ZK.i IntKind.u8,ZK.i IntKind.u8,ZK.i IntKind.u8,ZK.i IntKind.u8,ZK.i IntKind.u8,ZK.i IntKind.u8,ZK.i IntKind.u8,ZK.i IntKind.u8,ZK.i IntKind.u8,ZK.i IntKind.u8,ZK.i IntKind.u8,ZK.i IntKind.u8,ZK.i IntKind.u8,ZK.i IntKind.u8,ZK.i IntKind.u8,ZK.i IntKind.u8]),
 (157,Ti.mk (Kd.struct [Av.Fd.mk 0 1 Bool.false 5,Av.Fd.mk 1 1 Bool.false 5]) 2 2 [ZK.i IntKind.u8,ZK.i IntKind.u8]),
 (158,Ti.mk (Kd.struct [Av.Fd.mk 0 1 Bool.false 5,Av.Fd.mk 1 1 Bool.false 5]) 2 2 [ZK.i IntKind.u8,ZK.i IntKind.u8]),
 (159,Ti.mk (Kd.array 16 158) 32 32 [ZK.i IntKind.u8,ZK.i IntKind.u8,ZK.i IntKind.u8,ZK.i IntKind.u8,ZK.i IntKind.u8,ZK.i IntKind.u8,ZK.i IntKind.u8,ZK.i IntKind.u8,ZK.i IntKind.u8,ZK.i IntKind.u8,ZK.i IntKind.u8,ZK.i IntKind.u8,ZK.i IntKind.u8,ZK.i IntKind.u8,ZK.i IntKind.u8,ZK.i IntKind.u8,ZK.i IntKind.u8,ZK.i IntKind.u8,ZK.i IntKind.u8,ZK.i IntKind.u8,ZK.i IntKind.u8,ZK.i IntKind.u8,ZK.i IntKind.u8,ZK.i IntKind.u8,ZK.i IntKind.u8,ZK.i IntKind.u8,ZK.i IntKind.u8,ZK.i IntKind.u8,ZK.i IntKind.u8,ZK.i IntKind.u8,ZK.i IntKind.u8,ZK.i IntKind.u8]),
 (160,Ti.mk Kd.func 1 8 [ZK.f]),
 (161,Ti.mk Kd.func 1 8 [ZK.f]),
 (162,Ti.mk Kd.func 1 8 [ZK.f]),
 (163,Ti.mk Kd.func 1 8 [ZK.f]),
 (164,Ti.mk Kd.func 1 8 [ZK.f]),
 (166,Ti.mk Kd.func 1 8 [ZK.f]),
 (167,Ti.mk Kd.func 1 8 [ZK.f]),
 (168,Ti.mk (Kd.struct [Av.Fd.mk 0 1 Bool.false 17,Av.Fd.mk 1 1 Bool.false 17,Av.Fd.mk 2 1 Bool.false 17,Av.Fd.mk 3 1 Bool.false 9]) 4 40 [ZK.p,ZK.p,ZK.p,ZK.s]),
 (169,Ti.mk (Kd.struct [Av.Fd.mk 0 1 Bool.false 17,Av.Fd.mk 1 1 Bool.false 17,Av.Fd.mk 2 1 Bool.false 17,Av.Fd.mk 3 1 Bool.false 9]) 4 40 [ZK.p,ZK.p,ZK.p,ZK.s]),
 (170,Ti.mk (Kd.array 0 16) 0 0 []),
 (171,Ti.mk (Kd.struct [Av.Fd.mk 0 0 Bool.true 170]) 0 0 []),
 (172,Ti.mk (Kd.struct [Av.Fd.mk 0 0 Bool.true 170]) 0 0 []),
 (173,Ti.mk Kd.func 1 8 [ZK.f]),
 (174,Ti.mk (Kd.int IntKind.u8) 1 1 [ZK.i IntKind.u8]),
 (175,Ti.mk (Kd.int IntKind.u8) 1 1 [ZK.i IntKind.u8]),
 (176,Ti.mk Kd.func 1 8 [ZK.f]),
 (177,Ti.mk (Kd.ptr 5) 1 8 [ZK.p]),
 (178,Ti.mk (Kd.int IntKind.i32) 1 4 [ZK.i IntKind.i32]),
 (179,Ti.mk (Kd.int IntKind.i32) 1 4 [ZK.i IntKind.i32]),
 (180,Ti.mk (Kd.struct [Av.Fd.mk 0 1 Bool.false 12,Av.Fd.mk 1 1 Bool.false 12,Av.Fd.mk 2 1 Bool.false 139,Av.Fd.mk 3 1 Bool.false 174,Av.Fd.mk 4 1 Bool.false 5,Av.Fd.mk 5 1 Bool.false 5,Av.Fd.mk 6 1 Bool.false 175,Av.Fd.mk 7 1 Bool.false 176,Av.Fd.mk 8 1 Bool.false 177,Av.Fd.mk 9 1 Bool.false 178,Av.Fd.mk 10 1 Bool.false 179]) 11 48 [ZK.i IntKind.u64,ZK.i IntKind.u64,ZK.i IntKind.u32,ZK.i IntKind.u8,ZK.i IntKind.u8,ZK.i IntKind.u8,ZK.i IntKind.u8,ZK.f,ZK.p,ZK.i IntKind.i32,ZK.i IntKind.i32]),
 (181,Ti.mk (Kd.struct [Av.Fd.mk 0 1 Bool.false 12,Av.Fd.mk 1 1 Bool.false 12,Av.Fd.mk 2 1 Bool.false 139,Av.Fd.mk 3 1 Bool.false 174,Av.Fd.mk 4 1 Bool.false 5,Av.Fd.mk 5 1 Bool.false 5,Av.Fd.mk 6 1 Bool.false 175,Av.Fd.mk 7 1 Bool.false 176,Av.Fd.mk 8 1 Bool.false 177,Av.Fd.mk 9 1 Bool.false 178,Av.Fd.mk 10 1 Bool.false 179]) 11 48 [ZK.i IntKind.u64,ZK.i IntKind.u64,ZK.i IntKind.u32,ZK.i IntKind.u8,ZK.i IntKind.u8,ZK.i IntKind.u8,ZK.i IntKind.u8,ZK.f,ZK.p,ZK.i IntKind.i32,ZK.i IntKind.i32])]
theorem Za:chk Tryd.prog tt=true:=by kernel_rfl
theorem ZF:Tryd.prog.follows .mixedOrders=true:=by kernel_rfl
abbrev byE (l:List UInt8):D:=.sl .ext (l.map E.byte)
theorem YK (l:List UInt8):Uni 1 (l.map E.byte):=Uni.map (f:=E.byte) (fun _=>rfl) l
def okB (m:Nat)(c:UInt8):Bool:=(97<=c.toNat&&c.toNat<=122)||(48<=c.toNat&&c.toNat<=57)||c.toNat==45||c.toNat==m
theorem JA {m:Nat}{c:UInt8}:okB m c=true ↔ (97<=(c.toNat:Int)/\(c.toNat:Int)<=122)\/(48<=(c.toNat:Int)/\(c.toNat:Int)<=57)\/(c.toNat:Int)=45\/(c.toNat:Int)=(m:Int):=by
 simp only[okB,Bool.or_eq_true,Bool.and_eq_true,decide_eq_true_eq,beq_iff_eq]
 omega
theorem ON (s:ByteArray)(m:Nat)(hm:m<128)(w:World)(B:Bool)(hB:s.data.toList.all (okB m)=B) :
  Calls Tryd.prog 84 #[.string s,.int .i32 (m:Int)] w fun e w'=>e=.returned (.bool B)/\Below w.heap.size w w':=by
 have hT:(∀ j,j<s.size->∀ c,s.data.toList[j]?=some c->okB m c=true)->B=true:=fun h=>by
  rw[<- hB,List.all_eq_true]
  intro x hx
  obtain⟨j,hj⟩:=List.getElem?_of_mem hx
  have hlt:=(List.getElem?_eq_some_iff.1 hj).1
  exact h j (by simpa using hlt) x hj
 have hF:∀(j:Nat) (c:UInt8),s.data.toList[j]?=some c->¬ okB m c=true->B=false:=fun j c hj hc=>by
  rw[<- hB,List.all_eq_false]
  exact⟨c,List.mem_of_getElem? hj,hc⟩
 clear hB
 go_enter Tryd.func84,Tryd.ntmps84
 go_wp2
 go_loopw [] (fun w'=>∃ pos,w'=w.iter s pos/\pos<=s.size/\Hid (∀ j,j<pos->∀ c,s.data.toList[j]?=some c->okB m c=true)) (fun w'=>s.size-w'.iterPos w.heap.size)
 case atStart=>exact⟨0,rfl,Nat.zero_le _,fun j hj=>by omega⟩
 case round=>
  obtain⟨pos,rfl,hps,hall⟩:=hrel
  have hb:∀ p,Below w.heap.size w (w.iter s p):=fun p=>(Below.refl _ _).alloc (Nat.le_refl _) _
  by_cases hp:pos<s.size
  ·have hget:s.data.toList[pos]?=some (s[pos]'hp):=by
    have hlt:pos<s.data.toList.length:=by simpa using hp
    rw[List.getElem?_eq_getElem hlt];rfl
   by_cases ha:(s[pos]'hp).toNat<128
   ·obtain⟨c,hc⟩:∃ c,c=s[pos]'hp:=⟨_,rfl⟩
    have hnx:∀ ty,(Instr.next (.pointer (some ⟨w.heap.size,0,none⟩)) true ty).run Tryd.prog (w.iter s pos)=.ok (.tuple #[.bool true,.int .i64 pos,.int .i32 (c.toNat:Int)]) (w.iter s (pos+1)):=fun ty=>by
     rw[hc];exact run_next_ascii w s pos ty hp ha
    rw[<- hc]at hget ha
    clear hc
    have hbad:=hid (hF pos c hget)
    have hstep:Hid (okB m c=true->∀ j,j<pos+1->∀ c,s.data.toList[j]?=some c->okB m c=true):=fun hc j hj c' hj'=>by
     rcases Nat.lt_or_ge j pos with h|h
     ·exact hall j h c' hj'
     ·have:j=pos:=by omega
      subst this
      rw[hget]at hj'
      injection hj' with hj'
      subst hj'
      exact hc
    clear hT hF hget
    go_wp2
    all_goals first
     | (go_ret
        have hBf:=hbad (fun h=>by rw[JA]at h;clear hbad hstep hnx;(try simp only[bne_iff_ne,ne_eq,bne_eq_false_iff_eq]at *);omega)
        subst hBf
        exact⟨rfl,hb _⟩)
     | (refine⟨⟨pos+1,rfl,by omega,hstep ?_⟩,?_⟩
        ·rw[JA]
         clear hbad hstep hnx
         try simp only[bne_iff_ne,ne_eq,bne_eq_false_iff_eq]at *
         omega
        ·simp;omega)
   ·obtain⟨hd1,hd2⟩:=decode_high s pos hp (by omega)
    have hle:=decode_le s pos
    have hnx:∀ ty,(Instr.next (.pointer (some ⟨w.heap.size,0,none⟩)) true ty).run Tryd.prog (w.iter s pos)=_:=fun ty=>run_next_any w s pos ty hp
    have hBf:=hF pos _ hget (fun h=>by rw[JA]at h;omega)
    clear hT hF hget
    subst hBf
    generalize Utf8.decode s pos=dd at hd1 hd2 hle hnx
    have n1:¬ ((dd.1:Int)<97):=by omega
    have n2:((dd.1:Int)>122):=by omega
    have n3:¬ ((dd.1:Int)<48):=by omega
    have n4:((dd.1:Int)>57):=by omega
    have n5:¬ ((dd.1:Int)=45):=by omega
    have n6:¬ ((dd.1:Int)=(m:Int)):=by omega
    go_wp2
    all_goals first
     | (go_ret;exact⟨rfl,hb _⟩)
     | (exfalso;clear hnx hb hall;(try simp only[bne_iff_ne,ne_eq,bne_eq_false_iff_eq]at *);omega)
  ·have hnx:∀ ty,(Instr.next (.pointer (some ⟨w.heap.size,0,none⟩)) true ty).run Tryd.prog (w.iter s pos)=_:=fun ty=>run_next_end w s pos ty hp
   have hBt:=hT (fun j hj=>hall j (by omega))
   subst hBt
   go_wp2
   go_ret
   exact⟨rfl,hb _⟩
theorem KL [Known](s:List UInt8)(m:Nat)(hm:m<128):AP Tryd.prog 84 [.str s,.int .i32 (m:Int)] (.bool (s.all (okB m))) []:=by
 refine⟨fun g w vs hmem hl hv=>?_⟩
 obtain⟨v0,v1,rfl⟩:∃ v0 v1,vs=[v0,v1]:=by
  match vs,hl with
  | [v0,v1],_=>exact⟨v0,v1,rfl⟩
 have h0:=(hv 0 _ _ rfl rfl).str_inv.1
 have h1:=(hv 1 _ _ rfl rfl).int_inv
 subst h0 h1
 exact(ON ⟨s.toArray⟩ m hm w _ rfl).mono fun e w' ⟨he,hb⟩=>KE hmem hb he (.bool _)
structure EidV where
 i:Bool
 n:Nat
 s:Nat
 h:List UInt8
 d:List UInt8
 deriving DecidableEq
abbrev eC (x:EidV):List D:=[.bool x.i,.int .u64 (x.n:Int),.int .u64 (x.s:Int),.str x.h,.str x.d]
def Yl:EidV:=⟨false,0,0,[],[]⟩
def isZ (x:EidV):Bool:=x.i==false&&((x.n:Int)==0&&((x.s:Int)==0&&(x.h==[]&&(x.d==[]&&true))))
def Z8 (x:EidV):Bool:=
 if isZ x then true
 else if x.i then(x.i==true&&((x.n:Int)==(x.n:Int)&&((x.s:Int)==(x.s:Int)&&(x.h==[]&&(x.d==[]&&true)))))&&decide ((x.n:Int) ≥ 1)&&decide ((x.n:Int)<=4294967295)&&decide ((x.s:Int)<=4294967295)
 else(x.i==false&&((x.n:Int)==0&&((x.s:Int)==0&&(x.h==x.h&&(x.d==x.d&&true)))))&&decide ((x.h.length:Int) ≥ 1)&&decide ((x.h.length:Int)<=16)&&decide ((x.d.length:Int)<=24)&&x.h.all (okB 45)&&x.d.all (okB 47)
theorem Ht {x:EidV}(h:isZ x=true):Z8 x=true:=by unfold Z8;rw[if_pos h]
theorem KM {x:EidV}(h:isZ x=false)(hi:x.i=true):Z8 x=((x.i==true&&((x.n:Int)==(x.n:Int)&&((x.s:Int)==(x.s:Int)&&(x.h==[]&&(x.d==[]&&true)))))&&decide ((x.n:Int) ≥ 1)&&decide ((x.n:Int)<=4294967295)&&decide ((x.s:Int)<=4294967295)):=by
 unfold Z8;rw[if_neg (by rw[h];decide),if_pos hi]
theorem KN {x:EidV}(h:isZ x=false)(hi:x.i=false):Z8 x=((x.i==false&&((x.n:Int)==0&&((x.s:Int)==0&&(x.h==x.h&&(x.d==x.d&&true)))))&&decide ((x.h.length:Int) ≥ 1)&&decide ((x.h.length:Int)<=16)&&decide ((x.d.length:Int)<=24)&&x.h.all (okB 45)&&x.d.all (okB 47)):=by
 unfold Z8;rw[if_neg (by rw[h];decide),if_neg (by rw[hi];decide)]
theorem Vc [Known](x:EidV):AP Tryd.prog 63 [.agg (eC x)] (.bool (Z8 x)) []:=by
 refine AP.ofA (Zl Tryd.func63 Z Tryd.ntmps63 Z Z ?_)
 cases hz:isZ x with
 | true=>
  rw[Ht hz]
  unfold isZ at hz
  repeat'(first|(apply Zg Za;exact Z)|(apply Zf Za;exact Z)|(apply Zs Za;exact Z)|(apply Zd;exact Z;(first|with_reducible assumption|(solve|simp only[bn])))|refine Uh Za Z Z Z Z Qk Qk Z Z Z ?_)
  (apply Zr [];(apply Zc Za;exact Z);(iterate 4 exact Z))
  all_goals rfl
 | false=>
  cases hi:x.i with
  | true=>
   rw[KM hz hi]
   unfold isZ at hz
   repeat'(first|(apply Zg Za;exact Z)|(apply Zf Za;exact Z)|(apply Zs Za;exact Z)|(apply Ze;(iterate 3 exact Z);(first|with_reducible assumption|(solve|simp only[bn])))|(apply Zt;(iterate 3 exact Z);(first|with_reducible assumption|(solve|simp only[bn])))|(apply YP;exact Z;exact Z;all_goals intro hb)|(apply Zk;exact Z;(first|with_reducible assumption|(solve|simp only[bn]));exact Z;exact Z)|(apply Zi;exact Z;(first|with_reducible assumption|(solve|simp only[bn]));exact Z;exact Z)|(apply Zd;exact Z;(first|with_reducible assumption|(solve|simp only[bn])))|(apply Zh;exact Z;(first|with_reducible assumption|(solve|simp only[bn])))|refine Uh Za Z Z Z Z Qk Qk Z Z Z ?_)
   all_goals(apply Zr [];(apply Zc Za;exact Z);(iterate 4 exact Z))
   all_goals first|rfl|(clear hi hz;simp only[*];done)|(clear hi hz;simp only[*];simp only[Bool.and_true,Bool.true_and,Bool.and_false,Bool.false_and];done)
  | false=>
   rw[KN hz hi]
   unfold isZ at hz
   repeat'(first|(apply Zb (KL x.h 45 (by decide));kernel_rfl;(iterate 4 exact Z))|(apply Zb (KL x.d 47 (by decide));kernel_rfl;(iterate 4 exact Z))|(apply Zg Za;exact Z)|(apply Zf Za;exact Z)|(apply Zs Za;exact Z)|(apply Ze;(iterate 3 exact Z);(first|with_reducible assumption|(solve|simp only[bn])))|(apply Zt;(iterate 3 exact Z);(first|with_reducible assumption|(solve|simp only[bn])))|(apply YP;exact Z;exact Z;all_goals intro hb)|(apply Zk;exact Z;(first|with_reducible assumption|(solve|simp only[bn]));exact Z;exact Z)|(apply Zi;exact Z;(first|with_reducible assumption|(solve|simp only[bn]));exact Z;exact Z)|(apply Zh;exact Z;(first|with_reducible assumption|(solve|simp only[bn])))|refine W5 Za Z Z Z Z ?_|refine Uh Za Z Z Z Z Qk Qk Z Z Z ?_)
   all_goals(apply Zr [];(apply Zc Za;exact Z);(iterate 4 exact Z))
   all_goals first|rfl|(clear hi hz;simp only[*];done)|(clear hi hz;simp only[*];simp only[Bool.and_true,Bool.true_and,Bool.and_false,Bool.false_and];done)
def VK (c:UInt8):List UInt8->List UInt8 × List UInt8 × Bool
 | []=>([],[],false)
 | x::s=>if x=c then([],s,true) else(x::(VK c s).1,(VK c s).2.1,(VK c s).2.2)
theorem IA {c:UInt8}:∀ {s:List UInt8},c ∉ s->VK c s=(s,[],false)
 | [],_=>rfl
 | x::s,h=>by
  have h1:¬ x=c:=fun e=>h (by rw[e];exact List.mem_cons_self ..)
  have h2:=IA (c:=c) (s:=s) fun hm=>h (List.mem_cons_of_mem _ hm)
  rw[VK,if_neg h1,h2]
theorem JB {c:UInt8}:∀ {a b:List UInt8},c ∉ a->VK c (a++c::b)=(a,b,true)
 | [],b,_=>by rw[List.nil_append,VK,if_pos rfl]
 | x::a,b,h=>by
  have h1:¬ x=c:=fun e=>h (by rw[e];exact List.mem_cons_self ..)
  have h2:=JB (c:=c) (a:=a) (b:=b) fun hm=>h (List.mem_cons_of_mem _ hm)
  rw[List.cons_append,VK,if_neg h1,h2]
def Ul (p s:List UInt8):List UInt8 × Bool:=if s.take p.length==p then(s.drop p.length,true) else(s,false)
theorem KO (p r:List UInt8):Ul p (p++r)=(r,true):=by
 unfold Ul
 rw[List.take_left,beq_self_eq_true,if_pos rfl,List.drop_left]
theorem TG {p s:List UInt8}(h:(s.take p.length==p)=false):Ul p s=(s,false):=by
 unfold Ul;rw[h];rfl
def ppV (s:List UInt8):EidV × Bool:=
 (⟨false,0,0,(VK 47 (Ul [47,47] s).1).1,(VK 47 (Ul [47,47] s).1).2.1⟩,(Ul [47,47] s).2&&((VK 47 (Ul [47,47] s).1).2.2&&((VK 47 (Ul [47,47] s).1).1 != []&&Z8 ⟨false,0,0,(VK 47 (Ul [47,47] s).1).1,(VK 47 (Ul [47,47] s).1).2.1⟩)))
theorem TH {x:EidV}:isZ x=true ↔ x=Yl:=by
 obtain⟨i,n,s,h,d⟩:=x
 simp only[isZ,Yl,Bool.and_eq_true,beq_iff_eq,EidV.mk.injEq]
 constructor
 ·rintro⟨h1,h2,h3,h4,h5,_⟩
  exact⟨h1,by omega,by omega,h4,h5⟩
 ·rintro⟨h1,h2,h3,h4,h5⟩
  exact⟨h1,by omega,by omega,h4,h5,trivial⟩
theorem OO {m:Nat}{c:UInt8}{l:List UInt8}(hl:l.all (okB m)=true)(h:okB m c=false):c ∉ l:=fun hm=>by
 have:=List.all_eq_true.1 hl c hm
 rw[h]at this;cases this
set_option maxRecDepth 100000 in
theorem Hu (s:ByteArray)(c:Int)(w:World):Calls Tryd.prog 103 #[.string s,.int .u8 c] w fun e w'=>e=.returned (.int .i64 (Lib.indexByte s.data.toList c.toNat.toUInt8))/\w'=w:=by
 go_enter Tryd.func103,Tryd.ntmps103
 go_wp2
 rw[run_callFunc_extern Tryd.func107 (by kernel_rfl) (by kernel_rfl) (by kernel_rfl) (e:=Extern.BytealgIndexByte.indexByte) (by kernel_rfl),Lib.run_indexByteString]
 simp only[Result.andThen]
 rw[Oper.upon_value]
 go_wp2
 go_ret
 exact⟨rfl,rfl⟩
theorem NU [Known](s:List UInt8)(c:Int):AP Tryd.prog 103 [.str s,.int .u8 c] (.int .i64 (Lib.indexByte s c.toNat.toUInt8)) []:=by
 refine⟨fun g w vs hmem hl hv=>?_⟩
 obtain⟨v0,v1,rfl⟩:∃ v0 v1,vs=[v0,v1]:=by
  match vs,hl with
  | [v0,v1],_=>exact⟨v0,v1,rfl⟩
 have h0:=(hv 0 _ _ rfl rfl).str_inv.1
 have h1:=(hv 1 _ _ rfl rfl).int_inv
 subst h0 h1
 exact(Hu ⟨s.toArray⟩ c w).mono fun e w' ⟨he,hb⟩=>KE hmem (hb ▸ Below.refl _ _) he (.int _ _)
theorem Xo [Known](s p:List UInt8)(hs:s.length<=4611686018427387904)(hp:p.length<=4611686018427387904):AP Tryd.prog 100 [.str s,.str p] (.bool (s.take p.length==p)) []:=by
 by_cases h:p.length<=s.length
 ·have t1:decide ((s.length:Int) ≥ (p.length:Int))=true:=decide_eq_true (by omega)
  have hq:((p.length:Nat):Int).toNat<=s.length:=by rw[Int.toNat_natCast];exact h
  have hs2:(s.take ((p.length:Nat):Int).toNat).drop 0=s.take p.length:=by rw[Int.toNat_natCast,List.drop_zero]
  generalize s.take p.length=s2 at *
  refine AP.ofA (Zl Tryd.func100 Z Tryd.ntmps100 Z Z ?_)
  repeat'(first|refine Uu Za Z Z Z Z (.dft _) (.lit _ _ _ _ rfl (Int.natCast_nonneg _)) (Nat.zero_le _) hq hs2 ?_|(apply Zg Za;exact Z)|(apply Zf Za;exact Z)|refine Ze Z Z Z Qt ?_|refine Zk Z Qt Z Z ?_|refine W5 Za Z Z Z Z ?_)
  all_goals(apply Zr [];(apply Zc Za;exact Z);(iterate 4 exact Z))
  all_goals rfl
 ·have t1:decide ((s.length:Int) ≥ (p.length:Int))=false:=decide_eq_false (by omega)
  have e:(s.take p.length==p)=false:=by
   rw[beq_eq_false_iff_ne]
   intro e
   have:=congrArg List.length e
   rw[List.length_take]at this
   omega
  rw[e]
  refine AP.ofA (Zl Tryd.func100 Z Tryd.ntmps100 Z Z ?_)
  repeat'(first|(apply Zg Za;exact Z)|(apply Zf Za;exact Z)|refine Zt Z Z Z Qt ?_|refine Zi Z Qt Z Z ?_|refine W5 Za Z Z Z Z ?_)
  all_goals(apply Zr [];(apply Zc Za;exact Z);(iterate 4 exact Z))
  all_goals rfl
theorem OP [Known](p r:List UInt8)(hs:(p++r).length<=4611686018427387904):AP Tryd.prog 82 [.str (p++r),.str p] (.tup [.str r,.bool true]) []:=by
 have hH:=Xo (p++r) p hs (by rw[List.length_append]at hs;omega)
 rw[List.take_left,beq_self_eq_true]at hH
 have hq:((p.length:Nat):Int).toNat<=(p++r).length:=by rw[Int.toNat_natCast,List.length_append];omega
 have hs2:((p++r).take (p++r).length).drop ((p.length:Nat):Int).toNat=r:=by rw[Int.toNat_natCast,List.take_length,List.drop_left]
 have hC:AP Tryd.prog 95 [.str (p++r),.str p] (.tup [.str r,.bool true]) []:=by
  generalize p++r=s at *
  refine AP.ofA (Zl Tryd.func95 Z Tryd.ntmps95 Z Z ?_)
  repeat'(first|(apply Zb (hH);kernel_rfl;(iterate 4 exact Z))|refine Uu Za Z Z Z Z (.lit _ _ _ _ rfl (Int.natCast_nonneg _)) (.dft _) hq (Nat.le_refl _) hs2 ?_|(apply Zg Za;exact Z)|(apply Zf Za;exact Z)|(apply Zs Za;exact Z)|refine Zh Z Qt ?_|refine W5 Za Z Z Z Z ?_)
  all_goals(apply Zr [];(apply Zc Za;exact Z);(iterate 4 exact Z))
  all_goals rfl
 refine AP.ofA (Zl Tryd.func82 Z Tryd.ntmps82 Z Z ?_)
 repeat'(first|(apply Zb (hC);kernel_rfl;(iterate 4 exact Z))|(apply Zg Za;exact Z)|(apply Zf Za;exact Z))
 all_goals(apply Zr [];(apply Zc Za;exact Z);(iterate 4 exact Z))
 all_goals rfl
theorem OQ [Known](s p:List UInt8)(hs:s.length<=4611686018427387904)(hp:p.length<=4611686018427387904)(h:(s.take p.length==p)=false):AP Tryd.prog 82 [.str s,.str p] (.tup [.str s,.bool false]) []:=by
 have hH:=Xo s p hs hp
 rw[h]at hH
 have hC:AP Tryd.prog 95 [.str s,.str p] (.tup [.str s,.bool false]) []:=by
  refine AP.ofA (Zl Tryd.func95 Z Tryd.ntmps95 Z Z ?_)
  repeat'(first|(apply Zb (hH);kernel_rfl;(iterate 4 exact Z))|(apply Zg Za;exact Z)|(apply Zf Za;exact Z)|(apply Zs Za;exact Z)|refine Zd Z Qt ?_)
  all_goals(apply Zr [];(apply Zc Za;exact Z);(iterate 4 exact Z))
  all_goals rfl
 refine AP.ofA (Zl Tryd.func82 Z Tryd.ntmps82 Z Z ?_)
 repeat'(first|(apply Zb (hC);kernel_rfl;(iterate 4 exact Z))|(apply Zg Za;exact Z)|(apply Zf Za;exact Z))
 all_goals(apply Zr [];(apply Zc Za;exact Z);(iterate 4 exact Z))
 all_goals rfl
theorem Gi (s p:List UInt8):(∃ r,s=p++r)\/(s.take p.length==p)=false:=by
 cases h:s.take p.length==p with
 | true=>
  refine .inl ⟨s.drop p.length,?_⟩
  have:=beq_iff_eq.1 h
  conv=>lhs;rw[<- List.take_append_drop p.length s,this]
 | false=>exact .inr rfl
theorem Hv:∀ {l:List UInt8} {c:UInt8},c ∉ l->Lib.indexByte l c = -1
 | [],_,_=>rfl
 | x::l,c,h=>by
  have h1:¬ x=c:=fun e=>h (by rw[e];exact List.mem_cons_self ..)
  have h2:=Hv (l:=l) (c:=c) fun hm=>h (List.mem_cons_of_mem _ hm)
  simp[Lib.indexByte,h1,h2]
theorem IB:∀ {a b:List UInt8} {c:UInt8},c ∉ a->Lib.indexByte (a++c::b) c=(a.length:Int)
 | [],b,c,_=>by simp[Lib.indexByte]
 | x::a,b,c,h=>by
  have h1:¬ x=c:=fun e=>h (by rw[e];exact List.mem_cons_self ..)
  have h2:=IB (a:=a) (b:=b) (c:=c) fun hm=>h (List.mem_cons_of_mem _ hm)
  rw[List.cons_append]
  simp only[Lib.indexByte,h2,List.length_cons,beq_iff_eq,h1,if_false]
  (repeat' split)<;>omega
theorem Xp [Known](s:List UInt8)(c:UInt8):AP Tryd.prog 101 [.str s,.str [c]] (.int .i64 (Lib.indexByte s c)) []:=by
 have hI:=NU s (c.toNat:Int)
 have e:((c.toNat:Int)).toNat.toUInt8=c:=by rw[Int.toNat_natCast];simp
 rw[e]at hI
 have t0:((([c]:List UInt8).length:Int)==0)=false:=rfl
 have t1:((([c]:List UInt8).length:Int)==1)=true:=rfl
 by_cases hs:[c]=s
 ·subst hs
  have t2:([c]==[c])=true:=by simp
  have e0:Lib.indexByte [c] c=0:=by simp[Lib.indexByte]
  rw[e0]
  refine AP.ofA (Zl Tryd.func101 Z Tryd.ntmps101 Z Z ?_)
  repeat'(first|(apply Zg Za;exact Z)|(apply Zf Za;exact Z)|(apply Zs Za;exact Z)|refine Ze Z Z Z Qt ?_|refine Zi Z Qt Z Z ?_|refine Zd Z Qt ?_|refine W5 Za Z Z Z Z ?_)
  all_goals(apply Zr [];(apply Zc Za;exact Z);(iterate 4 exact Z))
  all_goals rfl
 ·have t2:([c]==s)=false:=by simpa using hs
  refine AP.ofA (Zl Tryd.func101 Z Tryd.ntmps101 Z Z ?_)
  repeat'(first|(apply Zb (hI);kernel_rfl;(iterate 4 exact Z))|refine Tv Za Z Z Z Z Z Qd Z ?_|(apply Zg Za;exact Z)|(apply Zf Za;exact Z)|(apply Zs Za;exact Z)|refine Ze Z Z Z Qt ?_|refine Zi Z Qt Z Z ?_|refine Zd Z Qt ?_|refine Zh Z Qt ?_|refine W5 Za Z Z Z Z ?_)
  all_goals(apply Zr [];(apply Zc Za;exact Z);(iterate 4 exact Z))
  all_goals rfl
theorem TI [Known](s:List UInt8)(c:UInt8)(h:c ∉ s):AP Tryd.prog 83 [.str s,.str [c]] (.tup [.str s,.str [],.bool false]) []:=by
 have hI:=Xp s c
 rw[Hv h]at hI
 have hC:AP Tryd.prog 96 [.str s,.str [c]] (.tup [.str s,.str [],.bool false]) []:=by
  refine AP.ofA (Zl Tryd.func96 Z Tryd.ntmps96 Z Z ?_)
  repeat'(first|(apply Zb (hI);kernel_rfl;(iterate 4 exact Z))|(apply Zg Za;exact Z)|(apply Zf Za;exact Z)|refine Zh Z Qt ?_)
  all_goals(apply Zr [];(apply Zc Za;exact Z);(iterate 4 exact Z))
  all_goals rfl
 refine AP.ofA (Zl Tryd.func83 Z Tryd.ntmps83 Z Z ?_)
 repeat'(first|(apply Zb (hC);kernel_rfl;(iterate 4 exact Z))|(apply Zg Za;exact Z)|(apply Zf Za;exact Z))
 all_goals(apply Zr [];(apply Zc Za;exact Z);(iterate 4 exact Z))
 all_goals rfl
theorem TJ [Known](a b:List UInt8)(c:UInt8)(h:c ∉ a)(hl:(a++c::b).length<=4611686018427387904):AP Tryd.prog 83 [.str (a++c::b),.str [c]] (.tup [.str a,.str b,.bool true]) []:=by
 have hI:=Xp (a++c::b) c
 rw[IB h]at hI
 have hal:a.length+1<=(a++c::b).length:=by rw[List.length_append,List.length_cons];omega
 have t1:decide ((a.length:Int) ≥ 0)=true:=decide_eq_true (by omega)
 have e1:IntKind.i64.wrap ((a.length:Int)+(([c]:List UInt8).length:Int))=((a.length+1:Nat):Int):=by
  rw[IntWalk.i64_in _ (by simp;omega)];simp
 have q1:((a.length:Nat):Int).toNat<=(a++c::b).length:=by rw[Int.toNat_natCast];omega
 have q2:((a.length+1:Nat):Int).toNat<=(a++c::b).length:=by rw[Int.toNat_natCast];omega
 have s1:((a++c::b).take ((a.length:Nat):Int).toNat).drop 0=a:=by rw[Int.toNat_natCast,List.drop_zero,List.take_left]
 have s2:((a++c::b).take (a++c::b).length).drop ((a.length+1:Nat):Int).toNat=b:=by
  rw[Int.toNat_natCast,List.take_length,show a.length+1=(a++[c]).length by simp,show a++c::b=(a++[c])++b by simp,List.drop_left]
 have hC:AP Tryd.prog 96 [.str (a++c::b),.str [c]] (.tup [.str a,.str b,.bool true]) []:=by
  generalize a++c::b=s at *
  refine AP.ofA (Zl Tryd.func96 Z Tryd.ntmps96 Z Z ?_)
  repeat'(first|rw[e1]|(apply Zb (hI);kernel_rfl;(iterate 4 exact Z))|refine Uu Za Z Z Z Z (.dft _) (.lit _ _ _ _ rfl (Int.natCast_nonneg _)) (Nat.zero_le _) q1 s1 ?_|refine Uu Za Z Z Z Z (.lit _ _ _ _ rfl (Int.natCast_nonneg _)) (.dft _) q2 (Nat.le_refl _) s2 ?_|(apply Zg Za;exact Z)|(apply Zf Za;exact Z)|refine Zd Z Qt ?_|refine W5 Za Z Z Z Z ?_|(apply Zm 10 ZF;decide +kernel;kernel_rfl;kernel_rfl;kernel_rfl;exact Z;exact Z)|(apply Zq;(iterate 4 exact Z))|exact AE.nil _ _ _ _|(apply Zu;exact Z)|(apply ZB;exact Z;exact Z;decide +kernel;exact Z)|(apply ZC;exact Z)|exact AO.nil _ _ _|(apply Zp;(decide +kernel))|exact AOs.nil|exact ZH rfl rfl)
  all_goals(apply Zr [];(apply Zc Za;exact Z);(iterate 4 exact Z))
  all_goals rfl
 refine AP.ofA (Zl Tryd.func83 Z Tryd.ntmps83 Z Z ?_)
 repeat'(first|(apply Zb (hC);kernel_rfl;(iterate 4 exact Z))|(apply Zg Za;exact Z)|(apply Zf Za;exact Z))
 all_goals(apply Zr [];(apply Zc Za;exact Z);(iterate 4 exact Z))
 all_goals rfl
theorem Xq (c:UInt8):∀ s:List UInt8,(c ∉ s)\/∃ a b,s=a++c::b/\c ∉ a
 | []=>.inl (by simp)
 | x::s=>by
  by_cases e:x=c
  ·subst e;exact .inr ⟨[],s,rfl,by simp⟩
  ·rcases Xq c s with h|⟨a,b,rfl,h⟩
   ·refine .inl fun hm=>?_
    rcases List.mem_cons.1 hm with h2|h2
    ·exact e h2.symm
    ·exact h h2
   ·refine .inr ⟨x::a,b,rfl,fun hm=>?_⟩
    rcases List.mem_cons.1 hm with h2|h2
    ·exact e h2.symm
    ·exact h h2
end Go.Proofs.YtmljabhmajehnaaDoor
end
section
open Go.RowKit Go.Pl
namespace Go.Av
section
variable {P:Program} {Q:X->St->Prop} {n:Nat} {ee:Nat × Nat} {tm:List (Nat × D)} {bx:List (List D)} {fr:List Fr}
variable {ops:Array Oper} {rest:List Oper} {t ty:Nat} {pos:String} {after:Array Edge}
end
end Go.Av
end
section
open Go.RowKit Go.Pl Go.Av
namespace Go.Proofs.YtmljabhmajehnaaDoor
set_option maxHeartbeats 4000000
theorem Hw (p s:List UInt8):(Ul p s).1.length<=s.length:=by
 unfold Ul
 split
 ·simp
 ·exact Nat.le_refl _
theorem NV [Known](s:List UInt8)(c:UInt8)(hl:s.length<=4611686018427387904):AP Tryd.prog 83 [.str s,.str [c]] (.tup [.str (VK c s).1,.str (VK c s).2.1,.bool (VK c s).2.2]) []:=by
 rcases Xq c s with h|⟨a,b,rfl,h⟩
 ·rw[IA h];exact TI s c h
 ·rw[JB h];exact TJ a b c h hl
theorem Gj [Known](s p:List UInt8)(hs:s.length<=4611686018427387904)(hp:p.length<=4611686018427387904):AP Tryd.prog 82 [.str s,.str p] (.tup [.str (Ul p s).1,.bool (Ul p s).2]) []:=by
 rcases Gi s p with⟨r,rfl⟩ | h
 ·rw[KO];exact OP p r hs
 ·rw[TG h];exact OQ s p hs hp h
theorem MD [Known](s:List UInt8)(hs:s.length<=140737488351232):AP Tryd.prog 61 [.str s] (.tup [.agg (eC (ppV s).1),.bool (ppV s).2]) []:=by
 have hP:=Gj s [47,47] (by omega) (by decide)
 have hl:=Hw [47,47] s
 unfold ppV
 dsimp only
 generalize (Ul [47,47] s).1=r at *
 generalize (Ul [47,47] s).2=ok at *
 have hC:=NV r 47 (by omega)
 generalize (VK 47 r).1=a at *
 generalize (VK 47 r).2.1=b at *
 generalize (VK 47 r).2.2=k at *
 have hR:=Vc ⟨false,0,0,a,b⟩
 generalize Z8 ⟨false,0,0,a,b⟩=R at *
 replace hR:AP Tryd.prog _ [.agg [.bool false,.int .u64 0,.int .u64 0,.str a,.str b]] (.bool R) []:=hR
 show AP Tryd.prog _ _ (.tup [.agg [.bool false,.int .u64 0,.int .u64 0,.str a,.str b],_]) _
 obtain⟨ne,h1⟩:∃ ne,(a != [])=ne:=⟨_,rfl⟩
 rw[h1]
 cases ok with
 | false=>
  refine AP.ofA (Zl Tryd.func61 Z Tryd.ntmps61 Z Z ?_)
  repeat'(first|(apply Zb (hP);kernel_rfl;(iterate 4 exact Z))|(apply Zb (hC);kernel_rfl;(iterate 4 exact Z))|(apply Zg Za;exact Z)|(apply Zf Za;exact Z)|refine Zt Z Z Z Qt ?_|refine Zi Z Qt Z Z ?_|(apply Zm 14 ZF;decide +kernel;kernel_rfl;kernel_rfl;kernel_rfl;exact Z;exact Z)|(apply Zq;(iterate 4 exact Z))|exact AE.nil _ _ _ _|(apply Zu;exact Z)|(apply Uj;exact Z)|(apply ZB;exact Z;exact Z;decide +kernel;exact Z)|(apply ZC;exact Z)|(apply QW;exact Z)|exact AO.nil _ _ _|(apply Zp;(decide +kernel))|(apply Z1;(iterate 3 exact Z))|exact AOs.nil|exact ZH rfl rfl|exact UT rfl)
  all_goals(apply Zr [];(apply Zc Za;exact Z);(iterate 4 exact Z))
  all_goals rfl
 | true=>
  cases k with
  | false=>
   refine AP.ofA (Zl Tryd.func61 Z Tryd.ntmps61 Z Z ?_)
   repeat'(first|(apply Zb (hP);kernel_rfl;(iterate 4 exact Z))|(apply Zb (hC);kernel_rfl;(iterate 4 exact Z))|(apply Zg Za;exact Z)|(apply Zf Za;exact Z)|refine Ze Z Z Z Qt ?_|refine Zt Z Z Z Qt ?_|refine Zk Z Qt Z Z ?_|refine Zi Z Qt Z Z ?_|(apply Zm 14 ZF;decide +kernel;kernel_rfl;kernel_rfl;kernel_rfl;exact Z;exact Z)|(apply Zq;(iterate 4 exact Z))|exact AE.nil _ _ _ _|(apply Zu;exact Z)|(apply Uj;exact Z)|(apply ZB;exact Z;exact Z;decide +kernel;exact Z)|(apply ZC;exact Z)|(apply QW;exact Z)|exact AO.nil _ _ _|(apply Zp;(decide +kernel))|(apply Z1;(iterate 3 exact Z))|exact AOs.nil|exact ZH rfl rfl|exact UT rfl)
   all_goals(apply Zr [];(apply Zc Za;exact Z);(iterate 4 exact Z))
   all_goals rfl
  | true=>
   cases ne<;>cases R
   all_goals
    refine AP.ofA (Zl Tryd.func61 Z Tryd.ntmps61 Z Z ?_)
    repeat'(first|rw[h1]|(apply Zb (hP);kernel_rfl;(iterate 4 exact Z))|(apply Zb (hC);kernel_rfl;(iterate 4 exact Z))|(apply Zb (hR);kernel_rfl;(iterate 4 exact Z))|(apply Zg Za;exact Z)|(apply Zf Za;exact Z)|refine Ze Z Z Z Qt ?_|refine Zt Z Z Z Qt ?_|refine Zk Z Qt Z Z ?_|refine Zi Z Qt Z Z ?_|(apply Zm 14 ZF;decide +kernel;kernel_rfl;kernel_rfl;kernel_rfl;exact Z;exact Z)|(apply Zq;(iterate 4 exact Z))|exact AE.nil _ _ _ _|(apply Zu;exact Z)|(apply Uj;exact Z)|(apply ZB;exact Z;exact Z;decide +kernel;exact Z)|(apply ZC;exact Z)|(apply QW;exact Z)|exact AO.nil _ _ _|(apply Zp;(decide +kernel))|(apply Z1;(iterate 3 exact Z))|exact AOs.nil|exact ZH rfl rfl|exact UT rfl)
    all_goals(apply Zr [];(apply Zc Za;exact Z);(iterate 4 exact Z))
    all_goals rfl
end Go.Proofs.YtmljabhmajehnaaDoor
end
section
open Go.RowKit Go.Pl Go.Av
namespace Go.Proofs.YtmljabhmajehnaaDoor
theorem Qe {p:Prop}(h:p:=by(apply Zr [];(apply Zc Za;exact Z);(iterate 4 exact Z));all_goals rfl):p:=h
end Go.Proofs.YtmljabhmajehnaaDoor
end
