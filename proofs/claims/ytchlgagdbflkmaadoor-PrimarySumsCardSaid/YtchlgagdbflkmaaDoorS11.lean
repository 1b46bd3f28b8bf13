/- The types of this seat's program, laid open: which kind each is of, its size, its zero. -/
import Derived.Test.YtchlgagdbflkmaaDoorS03
import Derived.Test.YtchlgagdbflkmaaDoorProg
import Derived.Test.YtchlgagdbflkmaaDoorS10
import Derived.Test.YtchlgagdbflkmaaDoorS01
set_option linter.unusedVariables false
set_option linter.unusedSimpArgs false
section
open Go.RowKit Go.Pl Go.Av
namespace Go.Proofs.YtchlgagdbflkmaaDoor
def tt:Tab:=[(1,Ti.mk Kd.func 1 8 [ZK.f]),
 (2,Ti.mk (Kd.int IntKind.i64) 1 8 [ZK.i IntKind.i64]),
 (3,Ti.mk (Kd.int IntKind.i64) 1 8 [ZK.i IntKind.i64]),
 (4,Ti.mk Kd.bool 1 1 [ZK.b]),
 (5,Ti.mk (Kd.int IntKind.u8) 1 1 [ZK.i IntKind.u8]),
 (6,Ti.mk (Kd.int IntKind.u8) 1 1 [ZK.i IntKind.u8]),
 (7,Ti.mk (Kd.struct [Av.Fd.mk 0 1 Bool.false 2,Av.Fd.mk 1 1 Bool.false 3,Av.Fd.mk 2 1 Bool.false 4,Av.Fd.mk 3 1 Bool.false 6]) 4 24 [ZK.i IntKind.i64,ZK.i IntKind.i64,ZK.b,ZK.i IntKind.u8]),
 (8,Ti.mk (Kd.struct [Av.Fd.mk 0 1 Bool.false 2,Av.Fd.mk 1 1 Bool.false 3,Av.Fd.mk 2 1 Bool.false 4,Av.Fd.mk 3 1 Bool.false 6]) 4 24 [ZK.i IntKind.i64,ZK.i IntKind.i64,ZK.b,ZK.i IntKind.u8]),
 (9,Ti.mk Kd.str 1 16 [ZK.s]),
 (10,Ti.mk Kd.str 1 16 [ZK.s]),
 (11,Ti.mk Kd.str 1 16 [ZK.s]),
 (12,Ti.mk (Kd.int IntKind.u64) 1 8 [ZK.i IntKind.u64]),
 (13,Ti.mk (Kd.struct [Av.Fd.mk 0 1 Bool.false 9,Av.Fd.mk 1 1 Bool.false 12]) 2 24 [ZK.s,ZK.i IntKind.u64]),
 (14,Ti.mk (Kd.struct [Av.Fd.mk 0 1 Bool.false 9,Av.Fd.mk 1 1 Bool.false 12]) 2 24 [ZK.s,ZK.i IntKind.u64]),
 (15,Ti.mk (Kd.ptr 111) 1 8 [ZK.p]),
 (16,Ti.mk (Kd.ptr 114) 1 8 [ZK.p]),
 (17,Ti.mk (Kd.ptr 123) 1 8 [ZK.p]),
 (18,Ti.mk (Kd.struct [Av.Fd.mk 0 1 Bool.false 17]) 1 8 [ZK.p]),
 (19,Ti.mk (Kd.struct [Av.Fd.mk 0 1 Bool.false 17]) 1 8 [ZK.p]),
 (20,Ti.mk Kd.iface 1 16 [ZK.n]),
 (21,Ti.mk (Kd.int IntKind.i32) 1 4 [ZK.i IntKind.i32]),
 (22,Ti.mk (Kd.slice 27) 1 24 [ZK.l]),
 (23,Ti.mk Kd.func 1 8 [ZK.f]),
 (24,Ti.mk (Kd.int IntKind.u64) 1 8 [ZK.i IntKind.u64]),
 (25,Ti.mk (Kd.slice 5) 1 24 [ZK.l]),
 (26,Ti.mk (Kd.struct [Av.Fd.mk 0 1 Bool.false 3,Av.Fd.mk 1 1 Bool.false 24,Av.Fd.mk 2 1 Bool.false 25,Av.Fd.mk 3 1 Bool.false 22]) 4 64 [ZK.i IntKind.i64,ZK.i IntKind.u64,ZK.l,ZK.l]),
 (27,Ti.mk (Kd.struct [Av.Fd.mk 0 1 Bool.false 3,Av.Fd.mk 1 1 Bool.false 24,Av.Fd.mk 2 1 Bool.false 25,Av.Fd.mk 3 1 Bool.false 22]) 4 64 [ZK.i IntKind.i64,ZK.i IntKind.u64,ZK.l,ZK.l]),
 (28,Ti.mk Kd.func 1 8 [ZK.f]),
 (29,Ti.mk Kd.func 1 8 [ZK.f]),
 (30,Ti.mk (Kd.int IntKind.i64) 1 8 [ZK.i IntKind.i64]),
 (32,Ti.mk Kd.func 1 8 [ZK.f]),
 (34,Ti.mk Kd.func 1 8 [ZK.f]),
 (35,Ti.mk Kd.func 1 8 [ZK.f]),
 (36,Ti.mk Kd.func 1 8 [ZK.f]),
 (37,Ti.mk (Kd.struct [Av.Fd.mk 0 1 Bool.false 4,Av.Fd.mk 1 1 Bool.false 24,Av.Fd.mk 2 1 Bool.false 24,Av.Fd.mk 3 1 Bool.false 9,Av.Fd.mk 4 1 Bool.false 9]) 5 56 [ZK.b,ZK.i IntKind.u64,ZK.i IntKind.u64,ZK.s,ZK.s]),
 (38,Ti.mk (Kd.struct [Av.Fd.mk 0 1 Bool.false 4,Av.Fd.mk 1 1 Bool.false 24,Av.Fd.mk 2 1 Bool.false 24,Av.Fd.mk 3 1 Bool.false 9,Av.Fd.mk 4 1 Bool.false 9]) 5 56 [ZK.b,ZK.i IntKind.u64,ZK.i IntKind.u64,ZK.s,ZK.s]),
 (39,Ti.mk (Kd.struct [Av.Fd.mk 0 5 Bool.true 38,Av.Fd.mk 5 1 Bool.false 24,Av.Fd.mk 6 1 Bool.false 24]) 7 72 [ZK.b,ZK.i IntKind.u64,ZK.i IntKind.u64,ZK.s,ZK.s,ZK.i IntKind.u64,ZK.i IntKind.u64]),
 (40,Ti.mk (Kd.struct [Av.Fd.mk 0 5 Bool.true 38,Av.Fd.mk 5 1 Bool.false 24,Av.Fd.mk 6 1 Bool.false 24]) 7 72 [ZK.b,ZK.i IntKind.u64,ZK.i IntKind.u64,ZK.s,ZK.s,ZK.i IntKind.u64,ZK.i IntKind.u64]),
 (41,Ti.mk (Kd.struct [Av.Fd.mk 0 1 Bool.false 24,Av.Fd.mk 1 1 Bool.false 3,Av.Fd.mk 2 5 Bool.true 38,Av.Fd.mk 7 5 Bool.true 38,Av.Fd.mk 12 7 Bool.true 40,Av.Fd.mk 19 1 Bool.false 24]) 20 208 [ZK.i IntKind.u64,ZK.i IntKind.i64,ZK.b,ZK.i IntKind.u64,ZK.i IntKind.u64,ZK.s,ZK.s,ZK.b,ZK.i IntKind.u64,ZK.i IntKind.u64,ZK.s,ZK.s,ZK.b,ZK.i IntKind.u64,ZK.i IntKind.u64,ZK.s,ZK.s,ZK.i IntKind.u64,ZK.i IntKind.u64,ZK.i IntKind.u64]),
 (42,Ti.mk (Kd.struct [Av.Fd.mk 0 1 Bool.false 24,Av.Fd.mk 1 1 Bool.false 3,Av.Fd.mk 2 5 Bool.true 38,Av.Fd.mk 7 5 Bool.true 38,Av.Fd.mk 12 7 Bool.true 40,Av.Fd.mk 19 1 Bool.false 24]) 20 208 [ZK.i IntKind.u64,ZK.i IntKind.i64,ZK.b,ZK.i IntKind.u64,ZK.i IntKind.u64,ZK.s,ZK.s,ZK.b,ZK.i IntKind.u64,ZK.i IntKind.u64,ZK.s,ZK.s,ZK.b,ZK.i IntKind.u64,ZK.i IntKind.u64,ZK.s,ZK.s,ZK.i IntKind.u64,ZK.i IntKind.u64,ZK.i IntKind.u64]),
 (44,Ti.mk Kd.func 1 8 [ZK.f]),
 (45,Ti.mk Kd.func 1 8 [ZK.f]),
 (46,Ti.mk Kd.func 1 8 [ZK.f]),
 (47,Ti.mk Kd.func 1 8 [ZK.f]),
 (48,Ti.mk Kd.func 1 8 [ZK.f]),
 (50,Ti.mk Kd.func 1 8 [ZK.f]),
 (51,Ti.mk Kd.func 1 8 [ZK.f]),
 (52,Ti.mk Kd.func 1 8 [ZK.f]),
 (53,Ti.mk Kd.func 1 8 [ZK.f]),
 (54,Ti.mk Kd.func 1 8 [ZK.f]),
 (55,Ti.mk Kd.func 1 8 [ZK.f]),
 (56,Ti.mk Kd.func 1 8 [ZK.f]),
 (57,Ti.mk Kd.func 1 8 [ZK.f]),
 (59,Ti.mk Kd.func 1 8 [ZK.f]),
 (61,Ti.mk Kd.func 1 8 [ZK.f]),
 (62,Ti.mk Kd.func 1 8 [ZK.f]),
 (63,Ti.mk Kd.func 1 8 [ZK.f]),
 (64,Ti.mk Kd.func 1 8 [ZK.f]),
 (65,Ti.mk Kd.func 1 8 [ZK.f]),
 (66,Ti.mk (Kd.int IntKind.u16) 1 2 [ZK.i IntKind.u16]),
 (67,Ti.mk Kd.func 1 8 [ZK.f]),
 (68,Ti.mk (Kd.int IntKind.u64) 1 8 [ZK.i IntKind.u64]),
 (69,Ti.mk (Kd.int IntKind.u32) 1 4 [ZK.i IntKind.u32]),
 (70,Ti.mk Kd.func 1 8 [ZK.f]),
 (71,Ti.mk Kd.func 1 8 [ZK.f]),
 (72,Ti.mk Kd.func 1 8 [ZK.f]),
 (73,Ti.mk Kd.func 1 8 [ZK.f]),
 (74,Ti.mk Kd.func 1 8 [ZK.f]),
 (75,Ti.mk Kd.func 1 8 [ZK.f]),
 (76,Ti.mk Kd.func 1 8 [ZK.f]),
 (78,Ti.mk Kd.func 1 8 [ZK.f]),
 (79,Ti.mk (Kd.slice 24) 1 24 [ZK.l]),
 (81,Ti.mk Kd.func 1 8 [ZK.f]),
 (82,Ti.mk Kd.func 1 8 [ZK.f]),
 (83,Ti.mk Kd.func 1 8 [ZK.f]),
 (84,Ti.mk Kd.func 1 8 [ZK.f]),
 (86,Ti.mk Kd.func 1 8 [ZK.f]),
 (88,Ti.mk Kd.func 1 8 [ZK.f]),
 (89,Ti.mk Kd.func 1 8 [ZK.f]),
 (90,Ti.mk Kd.func 1 8 [ZK.f]),
 (91,Ti.mk (Kd.struct [Av.Fd.mk 0 1 Bool.false 3,Av.Fd.mk 1 1 Bool.false 24,Av.Fd.mk 2 1 Bool.false 4]) 3 24 [ZK.i IntKind.i64,ZK.i IntKind.u64,ZK.b]),
 (92,Ti.mk (Kd.struct [Av.Fd.mk 0 1 Bool.false 3,Av.Fd.mk 1 1 Bool.false 24,Av.Fd.mk 2 1 Bool.false 4]) 3 24 [ZK.i IntKind.i64,ZK.i IntKind.u64,ZK.b]),
 (93,Ti.mk Kd.func 1 8 [ZK.f]),
 (94,Ti.mk Kd.func 1 8 [ZK.f]),
 (95,Ti.mk (Kd.array 256 5) 256 256 [ZK.i IntKind.u8,ZK.i IntKind.u8,ZK.i IntKind.u8,ZK.i IntKind.u8,ZK.i IntKind.u8,ZK.i IntKind.u8,ZK.i IntKind.u8,ZK.i IntKind.u8,ZK.i IntKind.u8,ZK.i IntKind.u8,ZK.i IntKind.u8,ZK.i IntKind.u8,ZK.i IntKind.u8,ZK.i IntKind.u8,ZK.i IntKind.u8,ZK.i IntKind.u8,ZK.i IntKind.u8,ZK.i IntKind.u8,ZK.i IntKind.u8,ZK.i IntKind.u8,ZK.i IntKind.u8,ZK.i IntKind.u8,ZK.i IntKind.u8,ZK.i IntKind.u8,ZK.i IntKind.u8,ZK.i IntKind.u8,ZK.i IntKind.u8,ZK.i IntKind.u8,ZK.i IntKind.u8,ZK.i IntKind.u8,ZK.i IntKind.u8,ZK.i IntKind.u8,ZK.i IntKind.u8,ZK.i IntKind.u8,ZK.i IntKind.u8,ZK.i IntKind.u8,ZK.i IntKind.u8,ZK.i IntKind.u8,ZK.i IntKind.u8,ZK.i IntKind.u8,ZK.i IntKind.u8,ZK.i IntKind.u8,ZK.i IntKind.u8,ZK.i IntKind.u8,ZK.i IntKind.u8,ZK.i IntKind.u8,ZK.i IntKind.u8,ZK.i IntKind.u8,ZK.i IntKind.u8,ZK.i IntKind.u8,ZK.i IntKind.u8,ZK.i IntKind.u8,ZK.i IntKind.u8,ZK.i IntKind.u8,ZK.i IntKind.u8,ZK.i IntKind.u8,ZK.i IntKind.u8,ZK.i IntKind.u8,ZK.i IntKind.u8,ZK.i IntKind.u8,ZK.i IntKind.u8,ZK.i IntKind.u8,ZK.i IntKind.u8,ZK.i IntKind.u8,ZK.i IntKind.u8,ZK.i IntKind.u8,ZK.i IntKind.u8,ZK.i IntKind.u8,ZK.i IntKind.u8,ZK.i IntKind.u8,ZK.i IntKind.u8,ZK.i IntKind.u8,ZK.i IntKind.u8,ZK.i IntKind.u8,ZK.i IntKind.u8,ZK.i IntKind.u8,ZK.i IntKind.u8,ZK.i IntKind.u8,ZK.i IntKind.u8,ZK.i IntKind.u8,ZK.i IntKind.u8,ZK.i IntKind.u8,ZK.i IntKind.u8,ZK.i IntKind.u8,ZK.i IntKind.u8,ZK.i IntKind.u8,ZK.i IntKind.u8,ZK.i IntKind.u8,ZK.i IntKind.u8,ZK.i IntKind.u8,ZK.i IntKind.u8,ZK.i IntKind.u8,ZK.i IntKind.u8,ZK.i IntKind.u8,ZK.i IntKind.u8,ZK.i IntKind.u8,ZK.i IntKind.u8,ZK.i IntKind.u8,ZK.i IntKind.u8,ZK.i IntKind.u8,ZK.i IntKind.u8,ZK.i IntKind.u8,ZK.i IntKind.u8,ZK.i IntKind.u8,ZK.i IntKind.u8,ZK.i IntKind.u8,ZK.i IntKind.u8,ZK.i IntKind.u8,ZK.i IntKind.u8,ZK.i IntKind.u8,ZK.i IntKind.u8,ZK.i IntKind.u8,ZK.i IntKind.u8,ZK.i IntKind.u8,ZK.i IntKind.u8,ZK.i IntKind.u8,ZK.i IntKind.u8,ZK.i IntKind.u8,ZK.i IntKind.u8,ZK.i IntKind.u8,ZK.i IntKind.u8,ZK.i IntKind.u8,ZK.i IntKind.u8,ZK.i IntKind.u8,ZK.i IntKind.u8,ZK.i IntKind.u8,ZK.i IntKind.u8,ZK.i IntKind.u8,ZK.i IntKind.u8,ZK.i IntKind.u8,ZK.i IntKind.u8,ZK.i IntKind.u8,ZK.i IntKind.u8,ZK.i IntKind.u8,ZK.i IntKind.u8,ZK.i IntKind.u8,ZK.i IntKind.u8,ZK.i IntKind.u8,ZK.i IntKind.u8,ZK.i IntKind.u8,ZK.i IntKind.u8,ZK.i IntKind.u8,ZK.i IntKind.u8,ZK.i IntKind.u8,ZK.i IntKind.u8,ZK.i IntKind.u8,ZK.i IntKind.u8,ZK.i IntKind.u8,ZK.i IntKind.u8,ZK.i IntKind.u8,ZK.i IntKind.u8,ZK.i IntKind.u8,ZK.i IntKind.u8,ZK.i IntKind.u8,ZK.i IntKind.u8,ZK.i IntKind.u8,ZK.i IntKind.u8,ZK.i IntKind.u8,ZK.i IntKind.u8,ZK.i IntKind.u8,ZK.i IntKind.u8,ZK.i IntKind.u8,ZK.i IntKind.u8,ZK.i IntKind.u8,ZK.i IntKind.u8,ZK.i IntKind.u8,ZK.i IntKind.u8,ZK.i IntKind.u8,ZK.i IntKind.u8,ZK.i IntKind.u8,ZK.i IntKind.u8,ZK.i IntKind.u8,ZK.i IntKind.u8,ZK.i IntKind.u8,ZK.i IntKind.u8,ZK.i IntKind.u8,ZK.i IntKind.u8,ZK.i IntKind.u8,ZK.i IntKind.u8,ZK.i IntKind.u8,ZK.i IntKind.u8,ZK.i IntKind.u8,ZK.i IntKind.u8,ZK.i IntKind.u8,ZK.i IntKind.u8,ZK.i IntKind.u8,ZK.i IntKind.u8,ZK.i IntKind.u8,ZK.i IntKind.u8,ZK.i IntKind.u8,ZK.i IntKind.u8,ZK.i IntKind.u8,ZK.i IntKind.u8,ZK.i IntKind.u8,ZK.i IntKind.u8,ZK.i IntKind.u8,ZK.i IntKind.u8,ZK.i IntKind.u8,ZK.i IntKind.u8,ZK.i IntKind.u8,ZK.i IntKind.u8,ZK.i IntKind.u8,ZK.i IntKind.u8,ZK.i IntKind.u8,ZK.i IntKind.u8,ZK.i IntKind.u8,ZK.i IntKind.u8,ZK.i IntKind.u8,ZK.i IntKind.u8,ZK.i IntKind.u8,ZK.i IntKind.u8,ZK.i IntKind.u8,ZK.i IntKind.u8,ZK.i IntKind.u8,ZK.i IntKind.u8,ZK.i IntKind.u8,ZK.i IntKind.u8,ZK.i IntKind.u8,ZK.i IntKind.u8,ZK.i IntKind.u8,ZK.i IntKind.u8,ZK.i IntKind.u8,ZK.i IntKind.u8,ZK.i IntKind.u8,ZK.i IntKind.u8,ZK.i IntKind.u8,ZK.i IntKind.u8,ZK.i IntKind.u8,ZK.i IntKind.u8,ZK.i IntKind.u8,ZK.i IntKind.u8,ZK.i IntKind.u8,ZK.i IntKind.u8,ZK.i IntKind.u8,ZK.i IntKind.u8,ZK.i IntKind.u8,ZK.i IntKind.u8,ZK.i IntKind.u8,ZK.i IntKind.u8,ZK.i IntKind.u8,ZK.i IntKind.u8,ZK.i IntKind.u8,ZK.i IntKind.u8,ZK.i IntKind.u8,ZK.i IntKind.u8,ZK.i IntKind.u8,ZK.i IntKind.u8,ZK.i IntKind.u8,ZK.i IntKind.u8,ZK.i IntKind.u8,ZK.i IntKind.u8,ZK.i IntKind.u8,ZK.i IntKind.u8,ZK.i IntKind.u8,ZK.i IntKind.u8,ZK.i IntKind.u8]),
 (96,Ti.mk (Kd.struct [Av.Fd.mk 0 1 Bool.false 5,Av.Fd.mk 1 1 Bool.false 5]) 2 2 [ZK.i IntKind.u8,ZK.i IntKind.u8]),
 (97,Ti.mk (Kd.struct [Av.Fd.mk 0 1 Bool.false 5,Av.Fd.mk 1 1 Bool.false 5]) 2 2 [ZK.i IntKind.u8,ZK.i IntKind.u8]),
 (98,Ti.mk (Kd.array 16 97) 32 32 [ZK.i IntKind.u8,ZK.i IntKind.u8,ZK.i IntKind.u8,ZK.i IntKind.u8,ZK.i IntKind.u8,ZK.i IntKind.u8,ZK.i IntKind.u8,ZK.i IntKind.u8,ZK.i IntKind.u8,ZK.i IntKind.u8,ZK.i IntKind.u8,ZK.i IntKind.u8,ZK.i IntKind.u8,ZK.i IntKind.u8,ZK.i IntKind.u8,ZK.i IntKind.u8,ZK.i IntKind.u8,ZK.i IntKind.u8,ZK.i IntKind.u8,ZK.i IntKind.u8,ZK.i IntKind.u8,ZK.i IntKind.u8,ZK.i IntKind.u8,ZK.i IntKind.u8,ZK.i IntKind.u8,ZK.i IntKind.u8,ZK.i IntKind.u8,ZK.i IntKind.u8,ZK.i IntKind.u8,ZK.i IntKind.u8,ZK.i IntKind.u8,ZK.i IntKind.u8]),
 (99,Ti.mk Kd.func 1 8 [ZK.f]),
 (100,Ti.mk Kd.func 1 8 [ZK.f]),
 (101,Ti.mk Kd.func 1 8 [ZK.f]),
 (102,Ti.mk Kd.func 1 8 [ZK.f]),
 (103,Ti.mk Kd.func 1 8 [ZK.f]),
 (104,Ti.mk Kd.func 1 8 [ZK.f]),
 (105,Ti.mk Kd.func 1 8 [ZK.f]),
 (106,Ti.mk Kd.func 1 8 [ZK.f]),
 (108,Ti.mk Kd.func 1 8 [ZK.f]),
 (109,Ti.mk Kd.func 1 8 [ZK.f]),
 (110,Ti.mk (Kd.struct [Av.Fd.mk 0 1 Bool.false 17,Av.Fd.mk 1 1 Bool.false 17,Av.Fd.mk 2 1 Bool.false 17,Av.Fd.mk 3 1 Bool.false 9]) 4 40 [ZK.p,ZK.p,ZK.p,ZK.s]),
 (111,Ti.mk (Kd.struct [Av.Fd.mk 0 1 Bool.false 17,Av.Fd.mk 1 1 Bool.false 17,Av.Fd.mk 2 1 Bool.false 17,Av.Fd.mk 3 1 Bool.false 9]) 4 40 [ZK.p,ZK.p,ZK.p,ZK.s]),
 (112,Ti.mk (Kd.array 0 16) 0 0 []),
 (113,Ti.mk (Kd.struct [Av.Fd.mk 0 0 Bool.true 112]) 0 0 []),
 (114,Ti.mk (Kd.struct [Av.Fd.mk 0 0 Bool.true 112]) 0 0 []),
 (115,Ti.mk Kd.func 1 8 [ZK.f]),
 (116,Ti.mk (Kd.int IntKind.u8) 1 1 [ZK.i IntKind.u8]),
 (117,Ti.mk (Kd.int IntKind.u8) 1 1 [ZK.i IntKind.u8]),
 (118,Ti.mk Kd.func 1 8 [ZK.f]),
 (119,Ti.mk (Kd.ptr 5) 1 8 [ZK.p]),
 (120,Ti.mk (Kd.int IntKind.i32) 1 4 [ZK.i IntKind.i32]),
 (121,Ti.mk (Kd.int IntKind.i32) 1 4 [ZK.i IntKind.i32]),
 (122,Ti.mk (Kd.struct [Av.Fd.mk 0 1 Bool.false 12,Av.Fd.mk 1 1 Bool.false 12,Av.Fd.mk 2 1 Bool.false 69,Av.Fd.mk 3 1 Bool.false 116,Av.Fd.mk 4 1 Bool.false 5,Av.Fd.mk 5 1 Bool.false 5,Av.Fd.mk 6 1 Bool.false 117,Av.Fd.mk 7 1 Bool.false 118,Av.Fd.mk 8 1 Bool.false 119,Av.Fd.mk 9 1 Bool.false 120,Av.Fd.mk 10 1 Bool.false 121]) 11 48 [ZK.i IntKind.u64,ZK.i IntKind.u64,ZK.i IntKind.u32,ZK.i IntKind.u8,ZK.i IntKind.u8,ZK.i IntKind.u8,ZK.i IntKind.u8,ZK.f,ZK.p,ZK.i IntKind.i32,ZK.i IntKind.i32]),
 (123,Ti.mk (Kd.struct [Av.Fd.mk 0 1 Bool.false 12,Av.Fd.mk 1 1 Bool.false 12,Av.Fd.mk 2 1 Bool.false 69,Av.Fd.mk 3 1 Bool.false 116,Av.Fd.mk 4 1 Bool.false 5,Av.Fd.mk 5 1 Bool.false 5,Av.Fd.mk 6 1 Bool.false 117,Av.Fd.mk 7 1 Bool.false 118,Av.Fd.mk 8 1 Bool.false 119,Av.Fd.mk 9 1 Bool.false 120,Av.Fd.mk 10 1 Bool.false 121]) 11 48 [ZK.i IntKind.u64,ZK.i IntKind.u64,ZK.i IntKind.u32,ZK.i IntKind.u8,ZK.i IntKind.u8,ZK.i IntKind.u8,ZK.i IntKind.u8,ZK.f,ZK.p,ZK.i IntKind.i32,ZK.i IntKind.i32])]
theorem Za:chk Tryd.prog tt=true:=by kernel_rfl
theorem ZG:Tryd.prog.follows .mixedOrders=true:=by kernel_rfl
abbrev byE (l:List UInt8):D:=.sl .ext (l.map E.byte)
theorem Yo (l:List UInt8):Uni 1 (l.map E.byte):=Uni.map (f:=E.byte) (fun _=>rfl) l
end Go.Proofs.YtchlgagdbflkmaaDoor
end
section
open Go.RowKit Go.Pl
namespace Go.Proofs.YtchlgagdbflkmaaDoor
abbrev Hd:=Int × Nat × Bool
def hv (h:Hd):Value:=.agg #[.int .i64 h.1,.int .u64 (h.2.1:Int),.bool h.2.2]
def QQ (m:Int):Bool:=decide (2<=m/\m<=5\/m=7)
def Z5 (h:Hd):Bool:=if h.2.2 then decide (h.2.1=0)&&QQ h.1 else decide (0<=h.1/\h.1<=7)
def ZN (n:Nat):Nat:=if n<24 then 0 else if n<256 then 1 else if n<65536 then 2 else if n<4294967296 then 4 else 8
def Ys (n:Nat):Nat:=if n<24 then n else if n<256 then 24 else if n<65536 then 25 else if n<4294967296 then 26 else 27
def UN (h:Hd):Nat:=if Z5 h then(if h.2.2 then 1 else 1+ZN h.2.1) else 0
def beN (n k:Nat):List UInt8:=(List.range k).map (fun i=>UInt8.ofNat (n/256 ^ (k-1-i)))
def Wk (m i:Nat):UInt8:=UInt8.ofNat (32*m+i)
def Z6 (h:Hd):List UInt8:=if h.2.2 then [Wk h.1.toNat 31] else Wk h.1.toNat (Ys h.2.1)::beN h.2.1 (ZN h.2.1)
theorem Qj (n:Nat):ZN n<=8:=by
 unfold ZN
 repeat' split
 all_goals omega
theorem J3 (n:Nat):Ys n<=27:=by
 unfold Ys
 repeat' split
 all_goals omega
theorem HQ (M i:Nat)(hM:M<=7)(hi:i<32):bits .or .u8 ((M:Int)*32) (i:Int)=((32*M+i:Nat):Int):=by
 have h:=u8_or ((M:Int)*32) (i:Int) (by omega) (by omega) (by omega) (by omega)
 rw[h,show((M:Int)*32).toNat=32*M from by omega,Int.toNat_natCast]
 rw[nat_join 5 (32*M) i (by omega) (by omega)]
theorem Yw (n k:Nat):(beN n k).length=k:=by simp[beN]
theorem VP (n k i:Nat)(h:i<k):(beN n k).take (i+1)=(beN n k).take i++[UInt8.ofNat (n/256 ^ (k-1-i))]:=by
 rw[List.take_succ_eq_append_getElem (by rw[Yw];exact h)]
 simp[beN]
def UO (l:List UInt8):Nat:=l.foldl (fun a c=>256*a+c.toNat) 0
def Kx (b:List UInt8)(p:Nat):Hd × Nat × Nat:=
 match b.drop p with
 | []=>((0,0,false),0,8)
 | c::r=>
  if c.toNat % 32<24 then(((c.toNat/32:Nat),c.toNat % 32,false),p+1,0)
  else if c.toNat % 32=31/\QQ (c.toNat/32:Nat)=true then(((c.toNat/32:Nat),0,true),p+1,0)
  else if 27<c.toNat % 32 then((0,0,false),0,3)
  else if r.length<2 ^ (c.toNat % 32-24) then((0,0,false),0,8)
  else(((c.toNat/32:Nat),UO (r.take (2 ^ (c.toNat % 32-24))),false),p+1+2 ^ (c.toNat % 32-24),0)
theorem XV (l:List UInt8)(c:UInt8):UO (l++[c])=256*UO l+c.toNat:=by simp[UO]
theorem OZ (h:Hd):UN h<=9:=by
 unfold UN
 have:=Qj h.2.1
 split
 ·split<;>omega
 ·omega
theorem Wr (m i:Nat)(hm:m<=7)(hi:i<32):(Wk m i).toNat=32*m+i:=V0 (by omega)
theorem K1 (n k:Nat)(h:n<256 ^ k):UO (beN n k)=n:=by
 have key:∀ i,i<=k->UO ((beN n k).take i)=n/256 ^ (k-i):=by
  intro i
  induction i with
  | zero=>intro _;simp[UO];exact(Nat.div_eq_of_lt h).symm
  | succ i ih=>
   intro hi
   rw[VP n k i (by omega),XV,ih (by omega),UInt8.toNat_ofNat']
   have e:256 ^ (k-i)=256 ^ (k-1-i)*256:=by rw[<- Nat.pow_succ];congr 1;omega
   rw[e,<- Nat.div_div_eq_div_mul,show k-(i+1)=k-1-i from by omega]
   omega
 have:=key k (Nat.le_refl _)
 rwa [List.take_of_length_le (by rw[Yw];exact Nat.le_refl _),Nat.sub_self,Nat.pow_zero,Nat.div_one]at this
theorem Uc (n:Nat)(hn:n<18446744073709551616):(n<24/\ZN n=0/\Ys n=n)\/(24<=n/\ZN n=2 ^ (Ys n-24)/\24<=Ys n/\Ys n<=27/\n<256 ^ ZN n):=by
 unfold ZN Ys
 by_cases h1:n<24
 ·simp[h1]
 right
 refine⟨by omega,?_⟩
 by_cases h2:n<256
 ·simp[h1,h2]
 by_cases h3:n<65536
 ·simp[h1,h2,h3]
 by_cases h4:n<4294967296
 ·simp[h1,h2,h3,h4]
 ·simp[h1,h2,h3,h4];omega
theorem Wg (h:Hd)(hr:Z5 h=true):(Z6 h).length=UN h:=by
 unfold Z6 UN
 rw[if_pos hr]
 split
 ·rfl
 ·simp[Yw];omega
theorem UP {h:Hd}(hr:Z5 h=true):0<=h.1/\h.1<=7:=by
 obtain⟨m,n,o⟩:=h
 cases o<;>simp[Z5,QQ]at hr<;>dsimp only<;>omega
theorem Jw {m:Int}{n:Nat}(hr:Z5 (m,n,true)=true):n=0/\QQ m=true:=by
 simpa[Z5]using hr
theorem XW (h:Hd)(hr:Z5 h=true)(hn:h.2.1<18446744073709551616)(a c:List UInt8):Kx (a++Z6 h++c) a.length=(h,a.length+(Z6 h).length,0):=by
 obtain⟨m,n,o⟩:=h
 obtain⟨hm0,hm7⟩:=UP hr
 dsimp only at hn hm0 hm7
 obtain⟨M,rfl⟩:∃ M:Nat,m=(M:Int):=⟨m.toNat,by omega⟩
 have hM:M<=7:=by omega
 unfold Kx
 rw[List.append_assoc,List.drop_left]
 cases o with
 | true=>
  obtain⟨rfl,hmay⟩:=Jw hr
  simp only[Z6,if_true,Int.toNat_natCast,List.cons_append,List.nil_append]
  rw[Wr M 31 hM (by decide)]
  rw[if_neg (by omega),show(32*M+31)/32=M from by omega,if_pos ⟨by omega,hmay⟩]
  rfl
 | false=>
  have hw:Z6 ((M:Int),n,false)=Wk M (Ys n)::beN n (ZN n):=by simp[Z6]
  rw[hw]
  simp only[List.cons_append]
  rcases Uc n hn with⟨h1,h2,h3⟩ | ⟨h1,h2,h3,h4,h5⟩
  ·rw[Wr M (Ys n) hM (by omega),h3,h2]
   rw[if_pos (by omega),show(32*M+n)/32=M from by omega,show(32*M+n) % 32=n from by omega]
   simp[beN]
  ·rw[Wr M (Ys n) hM (by omega)]
   have e1:(32*M+Ys n)/32=M:=by omega
   have e2:(32*M+Ys n) % 32=Ys n:=by omega
   rw[e1,e2,if_neg (by omega),if_neg (by omega),if_neg (by omega),<- h2]
   rw[if_neg (by rw[List.length_append,Yw];omega)]
   rw[List.take_append_of_le_length (by rw[Yw];exact Nat.le_refl _),List.take_of_length_le (by rw[Yw];exact Nat.le_refl _),K1 n _ h5]
   rw[List.length_cons,Yw]
   congr 2
   omega
end Go.Proofs.YtchlgagdbflkmaaDoor
end
section
open Go.RowKit Go.Pl
namespace Go.Proofs.YtchlgagdbflkmaaDoor
def inB (c lo hi:Nat):Bool:=decide (lo<=c)&&decide (c<=hi)
def ptN (c:Nat):Nat:=if c<128 then 1 else if inB c 194 223 then 2 else if inB c 224 239 then 3 else if inB c 240 244 then 4 else 0
def YC (c:Nat):Nat:=if c=224 then 160 else if c=240 then 144 else 128
def YD (c:Nat):Nat:=if c=237 then 159 else if c=244 then 143 else 191
def pt:List UInt8->Nat
 | []=>0
 | c::r=>match ptN c.toNat with
  | 1=>1
  | 2=>(match r with|c1::_=>if inB c1.toNat (YC c.toNat) (YD c.toNat) then 2 else 0|_=>0)
  | 3=>(match r with|c1::c2::_=>if inB c1.toNat (YC c.toNat) (YD c.toNat)&&inB c2.toNat 128 191 then 3 else 0|_=>0)
  | 4=>(match r with|c1::c2::c3::_=>if inB c1.toNat (YC c.toNat) (YD c.toNat)&&(inB c2.toNat 128 191&&inB c3.toNat 128 191) then 4 else 0|_=>0)
  | _=>0
def Vq:Nat->List UInt8->Bool
 | _,[]=>true
 | 0,_=>false
 | f+1,c::r=>match pt (c::r) with
  | 0=>false
  | k+1=>Vq f (r.drop k)
def ZA (b:List UInt8):Bool:=Vq b.length b
theorem UQ:∀(f g:Nat) (b:List UInt8),b.length<=f->b.length<=g->Vq f b=Vq g b
 | _,_,[],_,_=>by simp[Vq]
 | 0,_,c::r,h,_=>by simp at h
 | _+1,0,c::r,_,h=>by simp at h
 | f+1,g+1,c::r,h1,h2=>by
  simp only[Vq]
  split
  ·rfl
  ·rename_i k _
   simp at h1 h2
   exact UQ f g _ (by simp;omega) (by simp;omega)
theorem Yt (c:UInt8)(r:List UInt8):ZA (c::r)=match pt (c::r) with|0=>false|k+1=>ZA (r.drop k):=by
 show Vq (r.length+1) (c::r)=_
 rw[Vq]
 split
 ·rfl
 ·exact UQ _ _ _ (by simp) (Nat.le_refl _)
inductive It where
 | mk (k:Int) (n:Nat) (b:List UInt8) (l:List It)
 deriving Inhabited
def It.k:It->Int | .mk k _ _ _=>k
def It.n:It->Nat | .mk _ n _ _=>n
def It.b:It->List UInt8 | .mk _ _ b _=>b
def It.l:It->List It | .mk _ _ _ l=>l
mutual
def It.beq:It->It->Bool
 | .mk k n b l,.mk k' n' b' l'=>(k==k')&&((n==n')&&((b==b')&&It.beqs l l'))
def It.beqs:List It->List It->Bool
 | [],[]=>true
 | x::l,y::l'=>match It.beq x y with|true=>It.beqs l l' | false=>false
 | _,_=>false
end
mutual
theorem It.beq_iff:∀ {x y:It},It.beq x y=true ↔ x=y
 | .mk k n b l,.mk k' n' b' l'=>by
  simp only[It.beq,Bool.and_eq_true,beq_iff_eq,It.mk.injEq]
  rw[It.beqs_iff]
theorem It.beqs_iff:∀ {l l':List It},It.beqs l l'=true ↔ l=l'
 | [],[]=>by simp[It.beqs]
 | [],y::l'=>by simp[It.beqs]
 | x::l,[]=>by simp[It.beqs]
 | x::l,y::l'=>by
  simp only[It.beqs,List.cons.injEq]
  cases h:It.beq x y with
  | true=>simp only[It.beq_iff.1 h,true_and];exact It.beqs_iff
  | false=>simp only[Bool.false_eq_true,false_iff,not_and];intro e;rw[It.beq_iff.2 e]at h;cases h
end
instance:DecidableEq It:=fun x y=>if h:It.beq x y=true then .isTrue (It.beq_iff.1 h) else .isFalse fun e=>h (It.beq_iff.2 e)
def Vh (k:Int)(n:Nat)(b:List UInt8)(l:List It):Bool:=
 if k=0 then b.isEmpty&&l.isEmpty else if k=2 then decide (n=0)&&l.isEmpty else if k=3 then decide (n=0)&&(l.isEmpty&&ZA b) else if k=4 then decide (n=0)&&b.isEmpty else false
mutual
def Yz:It->Nat->Nat->Option Nat
 | .mk k n b l,d,m=>if 6<d then none else if m<1 then none else match Vh k n b l with
  | false=>none
  | true=>Yu l (d+1) (m-1)
def Yu:List It->Nat->Nat->Option Nat
 | [],_,m=>some m
 | y::l,d,m=>match Yz y d m with
  | none=>none
  | some r=>Yu l d r
end
def ZB (x:It):Bool:=(Yz x 1 256).isSome
mutual
def wfI:It->Prop
 | .mk _ n b l=>n<18446744073709551616/\b.length<=140737488351232/\l.length<=2199023255488/\wfs l
def wfs:List It->Prop
 | []=>True
 | x::l=>wfI x/\wfs l
end
def It.hn:It->Nat | .mk k n b l=>if k=2 then b.length else if k=3 then b.length else if k=4 then l.length else n
mutual
def ZC:It->List UInt8
 | .mk k n b l=>(if Z5 (k,(It.mk k n b l).hn,false) then Z6 (k,(It.mk k n b l).hn,false) else [])++(b++ZH l)
def ZH:List It->List UInt8
 | []=>[]
 | x::l=>ZC x++ZH l
end
abbrev Res (α:Type):=Except Nat α
def rdS:List UInt8->Res (Hd × List UInt8)
 | []=>.error 8
 | c::r=>
  if c.toNat % 32<24 then .ok (((c.toNat/32:Nat),c.toNat % 32,false),r)
  else if c.toNat % 32=31/\QQ (c.toNat/32:Nat)=true then .ok (((c.toNat/32:Nat),0,true),r)
  else if 27<c.toNat % 32 then .error 3
  else if r.length<2 ^ (c.toNat % 32-24) then .error 8
  else .ok (((c.toNat/32:Nat),UO (r.take (2 ^ (c.toNat % 32-24))),false),r.drop (2 ^ (c.toNat % 32-24)))
def Uy (h:Hd)(s:List UInt8):Res (List UInt8 × List UInt8):=
 if h.2.1<=s.length then(if h.1=3/\ZA (s.take h.2.1)=false then .error 3 else .ok (s.take h.2.1,s.drop h.2.1)) else .error 8
def Hp:List UInt8->Bool
 | c::_=>c==255
 | []=>false
def Hq (m:Int):Nat->List UInt8->List UInt8->Res (List UInt8 × List UInt8)
 | 0,_,_=>.error 99
 | f+1,acc,s=>match Hp s with
  | true=>.ok (acc,s.tail)
  | false=>match rdS s with
   | .error e=>.error e
   | .ok (p,r)=>if p.1=m/\p.2.2=false then(match Uy p r with
     | .error e=>.error e
     | .ok (c,r2)=>Hq m f (acc++c) r2) else .error 3
def XX (it:Nat->List UInt8->Res (It × List UInt8 × Nat)):Nat->List It->Nat->List UInt8->Res (List It × List UInt8 × Nat)
 | 0,acc,m,s=>.ok (acc,s,m)
 | f+1,acc,m,s=>match it m s with
  | .error e=>.error e
  | .ok (x,r,m')=>XX it f (acc++[x]) m' r
def Hr (it:Nat->List UInt8->Res (It × List UInt8 × Nat)):Nat->List It->Nat->List UInt8->Res (List It × List UInt8 × Nat)
 | 0,_,_,_=>.error 99
 | f+1,acc,m,s=>match Hp s with
  | true=>.ok (acc,s.tail,m)
  | false=>match it m s with
   | .error e=>.error e
   | .ok (x,r,m')=>Hr it f (acc++[x]) m' r
def okK (k:Int):Bool:=k==0||(k==2||(k==3||k==4))
def O0 (h:Hd)(r:List UInt8):Res (List UInt8 × List UInt8):=match h.2.2 with
 | true=>Hq h.1 (r.length+1) [] r
 | false=>Uy h r
def G1 (it:Nat->List UInt8->Res (It × List UInt8 × Nat))(h:Hd)(m:Nat)(r:List UInt8):Res (List It × List UInt8 × Nat):=match h.2.2 with
 | true=>Hr it (r.length+1) [] m r
 | false=>if h.2.1<=r.length then XX it h.2.1 [] m r else .error 8
def Vd (it:Nat->List UInt8->Res (It × List UInt8 × Nat))(h:Hd)(m:Nat)(r:List UInt8):Res (It × List UInt8 × Nat):=
 if h.1=0 then .ok (.mk 0 h.2.1 [] [],r,m)
 else if h.1=4 then(match G1 it h m r with
  | .error e=>.error e
  | .ok (l,r2,m2)=>.ok (.mk 4 0 [] l,r2,m2))
 else match O0 h r with
  | .error e=>.error e
  | .ok (c,r2)=>.ok (.mk h.1 0 c [],r2,m)
def Vr:Nat->Nat->List UInt8->Res (It × List UInt8 × Nat)
 | 0,m,s=>match rdS s with
  | .error e=>.error e
  | .ok (h,r)=>if okK h.1=false then .error 3 else .error 9
 | d+1,m,s=>match rdS s with
  | .error e=>.error e
  | .ok (h,r)=>if okK h.1=false then .error 3 else if m=0 then .error 2 else Vd (Vr d) h (m-1) r
end Go.Proofs.YtchlgagdbflkmaaDoor
end
section
open Go.RowKit Go.Pl
namespace Go.Proofs.YtchlgagdbflkmaaDoor
theorem XY {s r:List UInt8}{h:Hd}(e:rdS s=.ok (h,r)):∃ pre,s=pre++r/\0<pre.length:=by
 cases s with
 | nil=>simp[rdS]at e
 | cons c t=>
  simp only[rdS]at e
  split at e
  ·injection e with e;injection e with e1 e2;subst e2;exact⟨[c],rfl,by simp⟩
  split at e
  ·injection e with e;injection e with e1 e2;subst e2;exact⟨[c],rfl,by simp⟩
  split at e
  ·cases e
  split at e
  ·cases e
  ·injection e with e;injection e with e1 e2;subst e2
   exact⟨c::t.take (2 ^ (c.toNat % 32-24)),by simp,by simp⟩
theorem K2 (b:List UInt8)(p:Nat)(hp:p<=b.length):Kx b p=match rdS (b.drop p) with
  | .error e=>((0,0,false),0,e)
  | .ok (h,r)=>(h,b.length-r.length,0):=by
 unfold Kx
 have hl:(b.drop p).length=b.length-p:=List.length_drop ..
 cases hs:b.drop p with
 | nil=>simp[rdS]
 | cons c r=>
  rw[hs]at hl
  simp at hl
  simp only[rdS]
  by_cases h1:c.toNat % 32<24
  ·simp[h1];omega
  by_cases h2:c.toNat % 32=31/\QQ (c.toNat/32:Nat)=true
  ·rw[if_neg h1,if_pos h2,if_neg h1,if_pos h2]
   simp;omega
  by_cases h3:27<c.toNat % 32
  ·rw[if_neg h1,if_neg h2,if_pos h3,if_neg h1,if_neg h2,if_pos h3]
  by_cases h4:r.length<2 ^ (c.toNat % 32-24)
  ·rw[if_neg h1,if_neg h2,if_neg h3,if_pos h4,if_neg h1,if_neg h2,if_neg h3,if_pos h4]
  ·rw[if_neg h1,if_neg h2,if_neg h3,if_neg h4,if_neg h1,if_neg h2,if_neg h3,if_neg h4]
   generalize 2 ^ (c.toNat % 32-24)=k at h4 ⊢
   simp;omega
theorem Q6 (h:Hd)(hr:Z5 h=true)(hn:h.2.1<18446744073709551616)(s:List UInt8):rdS (Z6 h++s)=.ok (h,s):=by
 have e:=XW h hr hn [] s
 simp only[List.nil_append,List.length_nil,Nat.zero_add]at e
 rw[K2 _ 0 (Nat.zero_le _),List.drop_zero]at e
 cases hx:rdS (Z6 h++s) with
 | error c => rw [hx] at e; simp at e; have := e.2.1; have := Wg h hr; have : 0 < UN h := by unfold UN; rw [if_pos hr]; split <;> omega
              omega
 | ok y=>
  obtain⟨h',r⟩:=y
  rw[hx]at e
  simp only[Prod.mk.injEq,and_true]at e
  obtain⟨e1,e2⟩:=e
  obtain⟨pre,hp,_⟩:=XY hx
  have hl:=congrArg List.length hp
  simp at hl e2
  have:pre.length=(Z6 h).length:=by omega
  have:=List.append_inj hp this.symm
  rw[<- this.2,e1]
theorem I7 (h:Hd)(hr:Z5 h=true)(hn:h.2.1<18446744073709551616)(c:Nat)(hc:c<(Z6 h).length):rdS ((Z6 h).take c)=.error 8:=by
 cases c with
 | zero=>rfl
 | succ c=>
  obtain⟨m,n,o⟩:=h
  obtain⟨hm0,hm7⟩:=UP hr
  cases o with
  | true=>simp[Z6]at hc
  | false=>
   have hw:Z6 (m,n,false)=Wk m.toNat (Ys n)::beN n (ZN n):=rfl
   rw[hw]at hc ⊢
   simp only[List.length_cons,Yw]at hc
   dsimp only at hm0 hm7 hn
   rw[List.take_succ_cons]
   have hi:=J3 n
   have ht:(Wk m.toNat (Ys n)).toNat=32*m.toNat+Ys n:=Wr _ _ (by omega) (by omega)
   rcases Uc n hn with⟨_,hf,_⟩ | ⟨_,hf,h24,h27,_⟩
   ·omega
   ·simp only[rdS,ht]
    have e:(32*m.toNat+Ys n) % 32=Ys n:=by omega
    rw[e,if_neg (by omega),if_neg (by omega),if_neg (by omega),if_pos]
    rw[List.length_take,Yw,<- hf]
    omega
theorem Ql {k:Int}{n:Nat}{b:List UInt8}{l:List It}(h:Vh k n b l=true):(k=0/\b=[]/\l=[])\/(k=2/\n=0/\l=[])\/(k=3/\n=0/\l=[]/\ZA b=true)\/(k=4/\n=0/\b=[]):=by
 unfold Vh at h
 by_cases h0:k=0
 ·simp[h0]at h;exact .inl ⟨h0,h⟩
 by_cases h2:k=2
 ·simp[h2]at h;exact .inr (.inl ⟨h2,h⟩)
 by_cases h3:k=3
 ·simp[h3]at h;exact .inr (.inr (.inl ⟨h3,h⟩))
 by_cases h4:k=4
 ·simp[h4]at h;exact .inr (.inr (.inr ⟨h4,h⟩))
 ·simp[h0,h2,h3,h4]at h
theorem O1 {x:It}(h:0<=x.k/\x.k<=7):0<(ZC x).length:=by
 obtain⟨k,n,b,l⟩:=x
 simp only[It.k]at h
 have hr:Z5 (k,(It.mk k n b l).hn,false)=true:=by simp[Z5];exact h
 rw[ZC,if_pos hr,List.length_append,Wg _ hr]
 unfold UN;rw[if_pos hr];simp;omega
theorem WR {k:Int}{n:Nat}{b:List UInt8}{l:List It}{d m m':Nat}(h:Yz (.mk k n b l) d m=some m'):d<=6/\1<=m/\Vh k n b l=true/\Yu l (d+1) (m-1)=some m':=by
 rw[Yz]at h
 split at h
 ·cases h
 split at h
 ·cases h
 split at h
 ·cases h
 ·rename_i h3;exact⟨by omega,by omega,h3,h⟩
theorem Jx {k:Int}{n:Nat}{b:List UInt8}{l:List It}(h:Vh k n b l=true):0<=k/\k<=7:=by
 rcases Ql h with⟨h,_⟩ | ⟨h,_⟩ | ⟨h,_⟩ | ⟨h,_⟩<;>omega
theorem WA {x:It}{l:List It}{d m m':Nat}(h:Yu (x::l) d m=some m'):∃ m1,Yz x d m=some m1/\Yu l d m1=some m':=by
 rw[Yu]at h
 split at h
 ·cases h
 ·rename_i m1 h1;exact⟨m1,h1,h⟩
theorem J4:∀ {l:List It} {d m m':Nat},Yu l d m=some m'->l.length<=(ZH l).length
 | [],_,_,_,_=>by simp
 | x::l,d,m,m',h=>by
  obtain⟨m1,h1,h2⟩:=WA h
  have:=J4 h2
  obtain⟨k,n,b,lx⟩:=x
  have:=O1 (x:=.mk k n b lx) (Jx (WR h1).2.2.1)
  rw[ZH];simp;omega
theorem Ky {k:Int}{n:Nat}{b:List UInt8}{l:List It}(h:Vh k n b l=true):okK k=true:=by
 rcases Ql h with⟨h,_⟩ | ⟨h,_⟩ | ⟨h,_⟩ | ⟨h,_⟩<;>subst h<;>rfl
theorem J5 {k:Int}{n:Nat}{b:List UInt8}{l:List It}(h:Vh k n b l=true)(hw:wfI (.mk k n b l)):Z5 (k,(It.mk k n b l).hn,false)=true/\(It.mk k n b l).hn<18446744073709551616:=by
 refine⟨by simp[Z5];exact Jx h,?_⟩
 obtain⟨h1,h2,h3,_⟩:=hw
 rcases Ql h with⟨h,_⟩ | ⟨h,_⟩ | ⟨h,_⟩ | ⟨h,_⟩<;>subst h<;>simp[It.hn]<;>omega
mutual
theorem J6:∀(x:It) (d m m':Nat) (r:List UInt8),wfI x->d<=6->Yz x (7-d) m=some m'->Vr d m (ZC x++r)=.ok (x,r,m')
 | .mk k n b l,d,m,m',r,hw,hd,h=>by
  obtain⟨h1,h2,h3,h4⟩:=WR h
  obtain⟨hr,hn⟩:=J5 h3 hw
  obtain⟨d,rfl⟩:∃ e,d=e+1:=⟨d-1,by omega⟩
  have e7:7-(d+1)+1=7-d:=by omega
  rw[e7]at h4
  rw[ZC,if_pos hr,List.append_assoc,Vr,Q6 _ hr hn]
  dsimp only
  rw[Ky h3,if_neg (by simp),if_neg (by omega)]
  obtain⟨w1,w2,w3,w4⟩:=hw
  rcases Ql h3 with⟨rfl,rfl,rfl⟩ | ⟨rfl,rfl,rfl⟩ | ⟨rfl,rfl,rfl,hv⟩ | ⟨rfl,rfl,rfl⟩
  ·simp only[Yu,Option.some.injEq]at h4
   simp[Vd,ZH,It.hn,h4]
  ·simp only[Yu,Option.some.injEq]at h4
   simp[Vd,ZH,It.hn,O0,Uy,h4]
  ·simp only[Yu,Option.some.injEq]at h4
   simp[Vd,ZH,It.hn,O0,Uy,h4,hv]
  ·have hl:=J4 h4
   have hq:=J7 l d (m-1) m' [] r w4 (by omega) h4
   show Vd (Vr d) (4,l.length,false) (m-1) ([]++ZH l++r)=_
   rw[Vd,if_neg (by simp),if_pos rfl]
   simp only[G1,List.nil_append]
   rw[if_pos (by rw[List.length_append];omega),hq]
   rfl
theorem J7:∀(l:List It) (d m m':Nat) (acc:List It) (r:List UInt8),wfs l->d<=6->Yu l (7-d) m=some m'->XX (Vr d) l.length acc m (ZH l++r)=.ok (acc++l,r,m')
 | [],d,m,m',acc,r,_,_,h=>by
  simp only[Yu,Option.some.injEq]at h
  simp[XX,ZH,h]
 | x::l,d,m,m',acc,r,hw,hd,h=>by
  obtain⟨m1,h1,h2⟩:=WA h
  rw[ZH,List.append_assoc,List.length_cons,XX,J6 x d m m1 _ hw.1 hd h1]
  dsimp only
  rw[J7 l d m1 m' (acc++[x]) r hw.2 hd h2]
  simp
end
mutual
theorem O2:∀(x:It) (d m m' c:Nat),wfI x->d<=6->Yz x (7-d) m=some m'->c<(ZC x).length->Vr d m ((ZC x).take c)=.error 8
 | .mk k n b l,d,m,m',c,hw,hd,h,hc=>by
  obtain⟨h1,h2,h3,h4⟩:=WR h
  obtain⟨hr,hn⟩:=J5 h3 hw
  obtain⟨d,rfl⟩:∃ e,d=e+1:=⟨d-1,by omega⟩
  have e7:7-(d+1)+1=7-d:=by omega
  rw[e7]at h4
  rw[ZC,if_pos hr]at hc ⊢
  rw[Vr]
  rcases Nat.lt_or_ge c (Z6 (k,(It.mk k n b l).hn,false)).length with hlt|hge
  ·rw[List.take_append_of_le_length (by omega),I7 _ hr hn _ hlt]
  ·rw[List.take_append,List.take_of_length_le hge,Q6 _ hr hn]
   dsimp only
   rw[Ky h3,if_neg (by simp),if_neg (by omega)]
   obtain⟨w1,w2,w3,w4⟩:=hw
   generalize hc':c-(Z6 (k,(It.mk k n b l).hn,false)).length=c'
   have hlt:c'<(b++ZH l).length:=by rw[List.length_append]at hc;omega
   rcases Ql h3 with⟨rfl,rfl,rfl⟩ | ⟨rfl,rfl,rfl⟩ | ⟨rfl,rfl,rfl,hv⟩ | ⟨rfl,rfl,rfl⟩
   ·simp[ZH]at hlt
   ·simp[ZH]at hlt
    show Vd (Vr d) (2,b.length,false) (m-1) ((b++[]).take c')=_
    have hx:¬ b.length<=min c' b.length:=by omega
    simp[Vd,O0,Uy,List.length_take,hx]
   ·simp[ZH]at hlt
    show Vd (Vr d) (3,b.length,false) (m-1) ((b++[]).take c')=_
    have hx:¬ b.length<=min c' b.length:=by omega
    simp[Vd,O0,Uy,List.length_take,hx]
   ·simp only[List.nil_append]at hlt
    have hq:=J8 l d (m-1) m' c' [] w4 (by omega) h4 hlt
    show Vd (Vr d) (4,l.length,false) (m-1) (([]++ZH l).take c')=_
    rw[Vd,if_neg (by simp),if_pos rfl]
    simp only[G1,List.nil_append]
    by_cases hx:l.length<=((ZH l).take c').length
    ·rw[if_pos hx,hq]
    ·rw[if_neg hx]
theorem J8:∀(l:List It) (d m m' c:Nat) (acc:List It),wfs l->d<=6->Yu l (7-d) m=some m'->c<(ZH l).length->XX (Vr d) l.length acc m ((ZH l).take c)=.error 8
 | [],d,m,m',c,acc,_,_,h,hc=>by simp[ZH]at hc
 | x::l,d,m,m',c,acc,hw,hd,h,hc=>by
  obtain⟨m1,h1,h2⟩:=WA h
  rw[ZH]at hc ⊢
  rw[List.length_cons,XX]
  rcases Nat.lt_or_ge c (ZC x).length with hlt|hge
  ·rw[List.take_append_of_le_length (by omega),O2 x d m m1 c hw.1 hd h1 hlt]
  ·rw[List.take_append,List.take_of_length_le hge,J6 x d m m1 _ hw.1 hd h1]
   dsimp only
   exact J8 l d m1 m' _ _ hw.2 hd h2 (by rw[List.length_append]at hc;omega)
end
mutual
theorem J9:∀ {x:It} {d m m':Nat},Yz x d m=some m'->m'+1<=m
 | .mk k n b l,d,m,m',h=>by
  obtain⟨_,h2,_,h4⟩:=WR h
  have:=Xa h4
  omega
theorem Xa:∀ {l:List It} {d m m':Nat},Yu l d m=some m'->m'+l.length<=m
 | [],d,m,m',h=>by simp only[Yu,Option.some.injEq]at h;simp[h]
 | x::l,d,m,m',h=>by
  obtain⟨m1,h1,h2⟩:=WA h
  have:=J9 h1
  have:=Xa h2
  simp;omega
end
theorem Vs:∀(l l':List It),ZH (l++l')=ZH l++ZH l'
 | [],l'=>rfl
 | x::l,l'=>by rw[List.cons_append,ZH,ZH,Vs l l',List.append_assoc]
theorem K3 {h:Hd}(hr:Z5 h=true)(ho:h.2.2=false):(Z6 h).length=1+ZN h.2.1:=by
 rw[Wg h hr];unfold UN;rw[if_pos hr,ho];rfl
end Go.Proofs.YtchlgagdbflkmaaDoor
end
section
open Go.RowKit Go.Pl Go.Av
namespace Go.Proofs.YtchlgagdbflkmaaDoor
set_option maxHeartbeats 4000000
theorem Q7 [Known](b:List UInt8)(hb:b.length<=140737488351232):AP Tryd.prog 33 [byE b] (byE b) []:=by
 have hU:=Yo b
 cases b with
 | nil=>
  refine AP.ofA (Zm Tryd.func33 Z Tryd.ntmps33 Z Z ?_)
  repeat'(first|(apply U0 Za;(iterate 5 exact Z);intro b hbn)|refine Zj Za Z ?_|refine Zg Za Z ?_|refine Zv Za Z ?_|(apply WN;exact Z;all_goals intro hb)|refine Q3 Za Z Z Z Z Z Z Z Z Z Z Z Z ?_|refine Z0 Za Z Z Z Z Z Z ?_)
  all_goals(apply Zu [];(apply Zc Za;exact Z);(iterate 4 exact Z))
  all_goals rfl
 | cons c b=>
  refine AP.ofA (Zm Tryd.func33 Z Tryd.ntmps33 Z Z ?_)
  repeat'(first|(apply U0 Za;(iterate 5 exact Z);intro b hbn;(have hbn2:=hbn (List.cons_ne_nil _ _));subst hbn2;clear hbn)|refine Zj Za Z ?_|refine Zg Za Z ?_|refine Zv Za Z ?_|(apply Ze;exact Z;(first|with_reducible assumption|(solve|simp only[bn])))|refine Q3 Za Z Z Z Z Z Z Z Z Z Z Z Z ?_|(apply ZS Za;(iterate 6 exact Z);(first|with_reducible assumption|exact Z|rotate_left);exact Z;exact Z;(first|exact Zf rfl|with_reducible assumption|rotate_left);(first|exact Zf rfl|with_reducible assumption|rotate_left);(first|exact Qb|rotate_left);(first|exact Qb|rotate_left);(first|exact Qb|rotate_left);exact Z;exact Z))
  all_goals first|(apply Zu [];(apply Zc Za;exact Z);(iterate 4 exact Z))|skip
  all_goals first|rfl|(simp at hb ⊢;(try unfold maxLen);omega)
theorem O3 [Known](a b:List UInt8):AP Tryd.prog 20 [byE a,byE b] (.bool (a==b)) []:=by
 refine AP.ofA (Zm Tryd.func20 Z Tryd.ntmps20 Z Z ?_)
 repeat'(first|refine Zj Za Z ?_|refine Zg Za Z ?_|refine OI Za Z Z Z Z Z Z Z Z Z ?_)
 all_goals(apply Zu [];(apply Zc Za;exact Z);(iterate 4 exact Z))
 all_goals rfl
end Go.Proofs.YtchlgagdbflkmaaDoor
end
section
open Go.RowKit Go.Pl Go.Av
namespace Go.Proofs.YtchlgagdbflkmaaDoor
theorem Qe {p:Prop}(h:p:=by(apply Zu [];(apply Zc Za;exact Z);(iterate 4 exact Z));all_goals rfl):p:=h
end Go.Proofs.YtchlgagdbflkmaaDoor
end
