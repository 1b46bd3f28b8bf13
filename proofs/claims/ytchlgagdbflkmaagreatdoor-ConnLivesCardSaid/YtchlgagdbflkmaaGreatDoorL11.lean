/- The types of this seat's program, laid open: which kind each is of, its size, its zero. -/
import Derived.Test.YtchlgagdbflkmaaGreatDoorL03
import Derived.Test.YtchlgagdbflkmaaGreatDoorProg
import Derived.Test.YtchlgagdbflkmaaGreatDoorL10
import Derived.Test.YtchlgagdbflkmaaGreatDoorL08
import Derived.Laws.RangeAny
import Derived.LoopTactic
set_option linter.unusedVariables false
set_option linter.unusedSimpArgs false
section
open Go.RowKit Go.Pl Go.Av
namespace Go.Proofs.YtchlgagdbflkmaaGreatDoor
set_option maxHeartbeats 4000000
def tt:Tab:=[(1,Ti.mk Kd.func 1 8 [ZK.f]),
 (2,Ti.mk (Kd.int IntKind.i64) 1 8 [ZK.i IntKind.i64]),
 (3,Ti.mk (Kd.int IntKind.i64) 1 8 [ZK.i IntKind.i64]),
 (4,Ti.mk Kd.bool 1 1 [ZK.b]),
 (5,Ti.mk (Kd.int IntKind.u8) 1 1 [ZK.i IntKind.u8]),
 (6,Ti.mk (Kd.int IntKind.u8) 1 1 [ZK.i IntKind.u8]),
 (7,Ti.mk (Kd.struct [Av.Fd.mk 0 1 Bool.false 2,Av.Fd.mk 1 1 Bool.false 3,Av.Fd.mk 2 1 Bool.false 4,Av.Fd.mk 3 1 Bool.false 6]) 4 24 [ZK.i IntKind.i64,ZK.i IntKind.i64,ZK.b,ZK.i IntKind.u8]),
 (8,Ti.mk (Kd.struct [Av.Fd.mk 0 1 Bool.false 2,Av.Fd.mk 1 1 Bool.false 3,Av.Fd.mk 2 1 Bool.false 4,Av.Fd.mk 3 1 Bool.false 6]) 4 24 [ZK.i IntKind.i64,ZK.i IntKind.i64,ZK.b,ZK.i IntKind.u8]),
 (9,Ti.mk Kd.str 1 16 [ZK.s]),
 (10,Ti.mk Kd.str 1 16 [ZK.s]),
 (11,Ti.mk Kd.str 1 16 [ZK.s]),
 (12,Ti.mk (Kd.int IntKind.u64) 1 8 [ZK.i IntKind.u64]),
 (13,Ti.mk (Kd.struct [Av.Fd.mk 0 1 Bool.false 9,Av.Fd.mk 1 1 Bool.false 12]) 2 24 [ZK.s,ZK.i IntKind.u64]),
 (14,Ti.mk (Kd.struct [Av.Fd.mk 0 1 Bool.false 9,Av.Fd.mk 1 1 Bool.false 12]) 2 24 [ZK.s,ZK.i IntKind.u64]),
 (15,Ti.mk (Kd.ptr 393) 1 8 [ZK.p]),
 (16,Ti.mk (Kd.ptr 396) 1 8 [ZK.p]),
 (17,Ti.mk (Kd.ptr 403) 1 8 [ZK.p]),
 (18,Ti.mk (Kd.struct [Av.Fd.mk 0 1 Bool.false 17]) 1 8 [ZK.p]),
 (19,Ti.mk (Kd.struct [Av.Fd.mk 0 1 Bool.false 17]) 1 8 [ZK.p]),
 (20,Ti.mk Kd.iface 1 16 [ZK.n]),
 (21,Ti.mk (Kd.int IntKind.i32) 1 4 [ZK.i IntKind.i32]),
 (22,Ti.mk (Kd.slice 35) 1 24 [ZK.l]),
 (23,Ti.mk (Kd.ptr 65) 1 8 [ZK.p]),
 (24,Ti.mk Kd.func 1 8 [ZK.f]),
 (25,Ti.mk (Kd.ptr 30) 1 8 [ZK.p]),
 (26,Ti.mk (Kd.slice 5) 1 24 [ZK.l]),
 (27,Ti.mk (Kd.slice 46) 1 24 [ZK.l]),
 (28,Ti.mk (Kd.int IntKind.i64) 1 8 [ZK.i IntKind.i64]),
 (29,Ti.mk (Kd.struct [Av.Fd.mk 0 1 Bool.false 26,Av.Fd.mk 1 1 Bool.false 3,Av.Fd.mk 2 1 Bool.false 27,Av.Fd.mk 3 1 Bool.false 3,Av.Fd.mk 4 1 Bool.false 26,Av.Fd.mk 5 1 Bool.false 28]) 6 96 [ZK.l,ZK.i IntKind.i64,ZK.l,ZK.i IntKind.i64,ZK.l,ZK.i IntKind.i64]),
 (30,Ti.mk (Kd.struct [Av.Fd.mk 0 1 Bool.false 26,Av.Fd.mk 1 1 Bool.false 3,Av.Fd.mk 2 1 Bool.false 27,Av.Fd.mk 3 1 Bool.false 3,Av.Fd.mk 4 1 Bool.false 26,Av.Fd.mk 5 1 Bool.false 28]) 6 96 [ZK.l,ZK.i IntKind.i64,ZK.l,ZK.i IntKind.i64,ZK.l,ZK.i IntKind.i64]),
 (31,Ti.mk (Kd.int IntKind.u64) 1 8 [ZK.i IntKind.u64]),
 (32,Ti.mk (Kd.struct [Av.Fd.mk 0 1 Bool.false 31,Av.Fd.mk 1 1 Bool.false 28,Av.Fd.mk 2 1 Bool.false 3,Av.Fd.mk 3 1 Bool.false 3,Av.Fd.mk 4 1 Bool.false 31,Av.Fd.mk 5 1 Bool.false 26]) 6 64 [ZK.i IntKind.u64,ZK.i IntKind.i64,ZK.i IntKind.i64,ZK.i IntKind.i64,ZK.i IntKind.u64,ZK.l]),
 (33,Ti.mk (Kd.struct [Av.Fd.mk 0 1 Bool.false 31,Av.Fd.mk 1 1 Bool.false 28,Av.Fd.mk 2 1 Bool.false 3,Av.Fd.mk 3 1 Bool.false 3,Av.Fd.mk 4 1 Bool.false 31,Av.Fd.mk 5 1 Bool.false 26]) 6 64 [ZK.i IntKind.u64,ZK.i IntKind.i64,ZK.i IntKind.i64,ZK.i IntKind.i64,ZK.i IntKind.u64,ZK.l]),
 (34,Ti.mk (Kd.struct [Av.Fd.mk 0 1 Bool.false 3,Av.Fd.mk 1 1 Bool.false 3,Av.Fd.mk 2 1 Bool.false 26,Av.Fd.mk 3 6 Bool.true 33]) 9 104 [ZK.i IntKind.i64,ZK.i IntKind.i64,ZK.l,ZK.i IntKind.u64,ZK.i IntKind.i64,ZK.i IntKind.i64,ZK.i IntKind.i64,ZK.i IntKind.u64,ZK.l]),
 (35,Ti.mk (Kd.struct [Av.Fd.mk 0 1 Bool.false 3,Av.Fd.mk 1 1 Bool.false 3,Av.Fd.mk 2 1 Bool.false 26,Av.Fd.mk 3 6 Bool.true 33]) 9 104 [ZK.i IntKind.i64,ZK.i IntKind.i64,ZK.l,ZK.i IntKind.u64,ZK.i IntKind.i64,ZK.i IntKind.i64,ZK.i IntKind.i64,ZK.i IntKind.u64,ZK.l]),
 (36,Ti.mk Kd.func 1 8 [ZK.f]),
 (37,Ti.mk Kd.func 1 8 [ZK.f]),
 (38,Ti.mk (Kd.struct [Av.Fd.mk 0 1 Bool.false 4,Av.Fd.mk 1 1 Bool.false 31,Av.Fd.mk 2 1 Bool.false 31,Av.Fd.mk 3 1 Bool.false 9,Av.Fd.mk 4 1 Bool.false 9]) 5 56 [ZK.b,ZK.i IntKind.u64,ZK.i IntKind.u64,ZK.s,ZK.s]),
 (39,Ti.mk (Kd.struct [Av.Fd.mk 0 1 Bool.false 4,Av.Fd.mk 1 1 Bool.false 31,Av.Fd.mk 2 1 Bool.false 31,Av.Fd.mk 3 1 Bool.false 9,Av.Fd.mk 4 1 Bool.false 9]) 5 56 [ZK.b,ZK.i IntKind.u64,ZK.i IntKind.u64,ZK.s,ZK.s]),
 (40,Ti.mk (Kd.struct [Av.Fd.mk 0 1 Bool.false 31,Av.Fd.mk 1 1 Bool.false 3,Av.Fd.mk 2 5 Bool.true 39,Av.Fd.mk 7 5 Bool.true 39,Av.Fd.mk 12 1 Bool.false 3,Av.Fd.mk 13 1 Bool.false 3,Av.Fd.mk 14 1 Bool.false 3,Av.Fd.mk 15 1 Bool.false 26,Av.Fd.mk 16 1 Bool.false 31,Av.Fd.mk 17 1 Bool.false 31,Av.Fd.mk 18 1 Bool.false 4]) 19 200 [ZK.i IntKind.u64,ZK.i IntKind.i64,ZK.b,ZK.i IntKind.u64,ZK.i IntKind.u64,ZK.s,ZK.s,ZK.b,ZK.i IntKind.u64,ZK.i IntKind.u64,ZK.s,ZK.s,ZK.i IntKind.i64,ZK.i IntKind.i64,ZK.i IntKind.i64,ZK.l,ZK.i IntKind.u64,ZK.i IntKind.u64,ZK.b]),
 (41,Ti.mk (Kd.struct [Av.Fd.mk 0 1 Bool.false 31,Av.Fd.mk 1 1 Bool.false 3,Av.Fd.mk 2 5 Bool.true 39,Av.Fd.mk 7 5 Bool.true 39,Av.Fd.mk 12 1 Bool.false 3,Av.Fd.mk 13 1 Bool.false 3,Av.Fd.mk 14 1 Bool.false 3,Av.Fd.mk 15 1 Bool.false 26,Av.Fd.mk 16 1 Bool.false 31,Av.Fd.mk 17 1 Bool.false 31,Av.Fd.mk 18 1 Bool.false 4]) 19 200 [ZK.i IntKind.u64,ZK.i IntKind.i64,ZK.b,ZK.i IntKind.u64,ZK.i IntKind.u64,ZK.s,ZK.s,ZK.b,ZK.i IntKind.u64,ZK.i IntKind.u64,ZK.s,ZK.s,ZK.i IntKind.i64,ZK.i IntKind.i64,ZK.i IntKind.i64,ZK.l,ZK.i IntKind.u64,ZK.i IntKind.u64,ZK.b]),
 (43,Ti.mk Kd.func 1 8 [ZK.f]),
 (44,Ti.mk (Kd.struct [Av.Fd.mk 0 1 Bool.false 4,Av.Fd.mk 1 1 Bool.false 31,Av.Fd.mk 2 1 Bool.false 31,Av.Fd.mk 3 1 Bool.false 9,Av.Fd.mk 4 1 Bool.false 9]) 5 56 [ZK.b,ZK.i IntKind.u64,ZK.i IntKind.u64,ZK.s,ZK.s]),
 (45,Ti.mk (Kd.struct [Av.Fd.mk 0 1 Bool.false 31,Av.Fd.mk 1 1 Bool.false 3,Av.Fd.mk 2 5 Bool.true 44,Av.Fd.mk 7 5 Bool.true 44,Av.Fd.mk 12 1 Bool.false 3,Av.Fd.mk 13 1 Bool.false 3,Av.Fd.mk 14 1 Bool.false 3,Av.Fd.mk 15 1 Bool.false 26,Av.Fd.mk 16 1 Bool.false 31,Av.Fd.mk 17 1 Bool.false 31,Av.Fd.mk 18 1 Bool.false 4]) 19 200 [ZK.i IntKind.u64,ZK.i IntKind.i64,ZK.b,ZK.i IntKind.u64,ZK.i IntKind.u64,ZK.s,ZK.s,ZK.b,ZK.i IntKind.u64,ZK.i IntKind.u64,ZK.s,ZK.s,ZK.i IntKind.i64,ZK.i IntKind.i64,ZK.i IntKind.i64,ZK.l,ZK.i IntKind.u64,ZK.i IntKind.u64,ZK.b]),
 (46,Ti.mk (Kd.struct [Av.Fd.mk 0 1 Bool.false 31,Av.Fd.mk 1 1 Bool.false 3,Av.Fd.mk 2 5 Bool.true 44,Av.Fd.mk 7 5 Bool.true 44,Av.Fd.mk 12 1 Bool.false 3,Av.Fd.mk 13 1 Bool.false 3,Av.Fd.mk 14 1 Bool.false 3,Av.Fd.mk 15 1 Bool.false 26,Av.Fd.mk 16 1 Bool.false 31,Av.Fd.mk 17 1 Bool.false 31,Av.Fd.mk 18 1 Bool.false 4]) 19 200 [ZK.i IntKind.u64,ZK.i IntKind.i64,ZK.b,ZK.i IntKind.u64,ZK.i IntKind.u64,ZK.s,ZK.s,ZK.b,ZK.i IntKind.u64,ZK.i IntKind.u64,ZK.s,ZK.s,ZK.i IntKind.i64,ZK.i IntKind.i64,ZK.i IntKind.i64,ZK.l,ZK.i IntKind.u64,ZK.i IntKind.u64,ZK.b]),
 (48,Ti.mk Kd.func 1 8 [ZK.f]),
 (49,Ti.mk Kd.func 1 8 [ZK.f]),
 (50,Ti.mk Kd.func 1 8 [ZK.f]),
 (51,Ti.mk Kd.func 1 8 [ZK.f]),
 (52,Ti.mk Kd.func 1 8 [ZK.f]),
 (53,Ti.mk Kd.func 1 8 [ZK.f]),
 (54,Ti.mk (Kd.struct [Av.Fd.mk 0 1 Bool.false 31,Av.Fd.mk 1 1 Bool.false 28,Av.Fd.mk 2 1 Bool.false 3,Av.Fd.mk 3 1 Bool.false 3,Av.Fd.mk 4 1 Bool.false 31,Av.Fd.mk 5 1 Bool.false 26]) 6 64 [ZK.i IntKind.u64,ZK.i IntKind.i64,ZK.i IntKind.i64,ZK.i IntKind.i64,ZK.i IntKind.u64,ZK.l]),
 (55,Ti.mk Kd.func 1 8 [ZK.f]),
 (56,Ti.mk Kd.func 1 8 [ZK.f]),
 (57,Ti.mk Kd.func 1 8 [ZK.f]),
 (58,Ti.mk Kd.func 1 8 [ZK.f]),
 (59,Ti.mk Kd.func 1 8 [ZK.f]),
 (60,Ti.mk (Kd.ptr 143) 1 8 [ZK.p]),
 (61,Ti.mk (Kd.struct [Av.Fd.mk 0 1 Bool.false 60]) 1 8 [ZK.p]),
 (62,Ti.mk (Kd.struct [Av.Fd.mk 0 1 Bool.false 60]) 1 8 [ZK.p]),
 (63,Ti.mk (Kd.slice 41) 1 24 [ZK.l]),
 (64,Ti.mk (Kd.struct [Av.Fd.mk 0 1 Bool.true 62,Av.Fd.mk 1 1 Bool.false 63,Av.Fd.mk 2 1 Bool.false 3,Av.Fd.mk 3 1 Bool.false 26,Av.Fd.mk 4 1 Bool.false 28]) 5 72 [ZK.p,ZK.l,ZK.i IntKind.i64,ZK.l,ZK.i IntKind.i64]),
 (65,Ti.mk (Kd.struct [Av.Fd.mk 0 1 Bool.true 62,Av.Fd.mk 1 1 Bool.false 63,Av.Fd.mk 2 1 Bool.false 3,Av.Fd.mk 3 1 Bool.false 26,Av.Fd.mk 4 1 Bool.false 28]) 5 72 [ZK.p,ZK.l,ZK.i IntKind.i64,ZK.l,ZK.i IntKind.i64]),
 (66,Ti.mk Kd.func 1 8 [ZK.f]),
 (67,Ti.mk (Kd.slice 74) 1 24 [ZK.l]),
 (68,Ti.mk (Kd.ptr 113) 1 8 [ZK.p]),
 (69,Ti.mk Kd.func 1 8 [ZK.f]),
 (70,Ti.mk (Kd.slice 4) 1 24 [ZK.l]),
 (71,Ti.mk (Kd.struct [Av.Fd.mk 0 1 Bool.false 31,Av.Fd.mk 1 1 Bool.false 3,Av.Fd.mk 2 1 Bool.false 31,Av.Fd.mk 3 1 Bool.false 3,Av.Fd.mk 4 19 Bool.true 41,Av.Fd.mk 23 1 Bool.false 26]) 24 256 [ZK.i IntKind.u64,ZK.i IntKind.i64,ZK.i IntKind.u64,ZK.i IntKind.i64,ZK.i IntKind.u64,ZK.i IntKind.i64,ZK.b,ZK.i IntKind.u64,ZK.i IntKind.u64,ZK.s,ZK.s,ZK.b,ZK.i IntKind.u64,ZK.i IntKind.u64,ZK.s,ZK.s,ZK.i IntKind.i64,ZK.i IntKind.i64,ZK.i IntKind.i64,ZK.l,ZK.i IntKind.u64,ZK.i IntKind.u64,ZK.b,ZK.l]),
 (72,Ti.mk (Kd.struct [Av.Fd.mk 0 1 Bool.false 31,Av.Fd.mk 1 1 Bool.false 3,Av.Fd.mk 2 1 Bool.false 31,Av.Fd.mk 3 1 Bool.false 3,Av.Fd.mk 4 19 Bool.true 41,Av.Fd.mk 23 1 Bool.false 26]) 24 256 [ZK.i IntKind.u64,ZK.i IntKind.i64,ZK.i IntKind.u64,ZK.i IntKind.i64,ZK.i IntKind.u64,ZK.i IntKind.i64,ZK.b,ZK.i IntKind.u64,ZK.i IntKind.u64,ZK.s,ZK.s,ZK.b,ZK.i IntKind.u64,ZK.i IntKind.u64,ZK.s,ZK.s,ZK.i IntKind.i64,ZK.i IntKind.i64,ZK.i IntKind.i64,ZK.l,ZK.i IntKind.u64,ZK.i IntKind.u64,ZK.b,ZK.l]),
 (73,Ti.mk (Kd.struct [Av.Fd.mk 0 1 Bool.false 3,Av.Fd.mk 1 1 Bool.false 3,Av.Fd.mk 2 24 Bool.true 72,Av.Fd.mk 26 6 Bool.true 33]) 32 336 [ZK.i IntKind.i64,ZK.i IntKind.i64,ZK.i IntKind.u64,ZK.i IntKind.i64,ZK.i IntKind.u64,ZK.i IntKind.i64,ZK.i IntKind.u64,ZK.i IntKind.i64,ZK.b,ZK.i IntKind.u64,ZK.i IntKind.u64,ZK.s,ZK.s,ZK.b,ZK.i IntKind.u64,ZK.i IntKind.u64,ZK.s,ZK.s,ZK.i IntKind.i64,ZK.i IntKind.i64,ZK.i IntKind.i64,ZK.l,ZK.i IntKind.u64,ZK.i IntKind.u64,ZK.b,ZK.l,ZK.i IntKind.u64,ZK.i IntKind.i64,ZK.i IntKind.i64,ZK.i IntKind.i64,ZK.i IntKind.u64,ZK.l]),
 (74,Ti.mk (Kd.struct [Av.Fd.mk 0 1 Bool.false 3,Av.Fd.mk 1 1 Bool.false 3,Av.Fd.mk 2 24 Bool.true 72,Av.Fd.mk 26 6 Bool.true 33]) 32 336 [ZK.i IntKind.i64,ZK.i IntKind.i64,ZK.i IntKind.u64,ZK.i IntKind.i64,ZK.i IntKind.u64,ZK.i IntKind.i64,ZK.i IntKind.u64,ZK.i IntKind.i64,ZK.b,ZK.i IntKind.u64,ZK.i IntKind.u64,ZK.s,ZK.s,ZK.b,ZK.i IntKind.u64,ZK.i IntKind.u64,ZK.s,ZK.s,ZK.i IntKind.i64,ZK.i IntKind.i64,ZK.i IntKind.i64,ZK.l,ZK.i IntKind.u64,ZK.i IntKind.u64,ZK.b,ZK.l,ZK.i IntKind.u64,ZK.i IntKind.i64,ZK.i IntKind.i64,ZK.i IntKind.i64,ZK.i IntKind.u64,ZK.l]),
 (75,Ti.mk Kd.func 1 8 [ZK.f]),
 (77,Ti.mk Kd.func 1 8 [ZK.f]),
 (78,Ti.mk Kd.func 1 8 [ZK.f]),
 (79,Ti.mk (Kd.slice 82) 1 24 [ZK.l]),
 (80,Ti.mk Kd.func 1 8 [ZK.f]),
 (81,Ti.mk (Kd.struct [Av.Fd.mk 0 24 Bool.true 72,Av.Fd.mk 24 6 Bool.true 33,Av.Fd.mk 30 1 Bool.false 4,Av.Fd.mk 31 1 Bool.false 4]) 32 328 [ZK.i IntKind.u64,ZK.i IntKind.i64,ZK.i IntKind.u64,ZK.i IntKind.i64,ZK.i IntKind.u64,ZK.i IntKind.i64,ZK.b,ZK.i IntKind.u64,ZK.i IntKind.u64,ZK.s,ZK.s,ZK.b,ZK.i IntKind.u64,ZK.i IntKind.u64,ZK.s,ZK.s,ZK.i IntKind.i64,ZK.i IntKind.i64,ZK.i IntKind.i64,ZK.l,ZK.i IntKind.u64,ZK.i IntKind.u64,ZK.b,ZK.l,ZK.i IntKind.u64,ZK.i IntKind.i64,ZK.i IntKind.i64,ZK.i IntKind.i64,ZK.i IntKind.u64,ZK.l,ZK.b,ZK.b]),
 (82,Ti.mk (Kd.struct [Av.Fd.mk 0 24 Bool.true 72,Av.Fd.mk 24 6 Bool.true 33,Av.Fd.mk 30 1 Bool.false 4,Av.Fd.mk 31 1 Bool.false 4]) 32 328 [ZK.i IntKind.u64,ZK.i IntKind.i64,ZK.i IntKind.u64,ZK.i IntKind.i64,ZK.i IntKind.u64,ZK.i IntKind.i64,ZK.b,ZK.i IntKind.u64,ZK.i IntKind.u64,ZK.s,ZK.s,ZK.b,ZK.i IntKind.u64,ZK.i IntKind.u64,ZK.s,ZK.s,ZK.i IntKind.i64,ZK.i IntKind.i64,ZK.i IntKind.i64,ZK.l,ZK.i IntKind.u64,ZK.i IntKind.u64,ZK.b,ZK.l,ZK.i IntKind.u64,ZK.i IntKind.i64,ZK.i IntKind.i64,ZK.i IntKind.i64,ZK.i IntKind.u64,ZK.l,ZK.b,ZK.b]),
 (83,Ti.mk Kd.func 1 8 [ZK.f]),
 (84,Ti.mk (Kd.struct [Av.Fd.mk 0 1 Bool.false 31,Av.Fd.mk 1 1 Bool.false 3,Av.Fd.mk 2 1 Bool.false 31,Av.Fd.mk 3 1 Bool.false 3,Av.Fd.mk 4 19 Bool.true 46,Av.Fd.mk 23 1 Bool.false 26]) 24 256 [ZK.i IntKind.u64,ZK.i IntKind.i64,ZK.i IntKind.u64,ZK.i IntKind.i64,ZK.i IntKind.u64,ZK.i IntKind.i64,ZK.b,ZK.i IntKind.u64,ZK.i IntKind.u64,ZK.s,ZK.s,ZK.b,ZK.i IntKind.u64,ZK.i IntKind.u64,ZK.s,ZK.s,ZK.i IntKind.i64,ZK.i IntKind.i64,ZK.i IntKind.i64,ZK.l,ZK.i IntKind.u64,ZK.i IntKind.u64,ZK.b,ZK.l]),
 (85,Ti.mk (Kd.struct [Av.Fd.mk 0 1 Bool.false 31,Av.Fd.mk 1 1 Bool.false 3,Av.Fd.mk 2 1 Bool.false 31,Av.Fd.mk 3 1 Bool.false 3,Av.Fd.mk 4 19 Bool.true 46,Av.Fd.mk 23 1 Bool.false 26]) 24 256 [ZK.i IntKind.u64,ZK.i IntKind.i64,ZK.i IntKind.u64,ZK.i IntKind.i64,ZK.i IntKind.u64,ZK.i IntKind.i64,ZK.b,ZK.i IntKind.u64,ZK.i IntKind.u64,ZK.s,ZK.s,ZK.b,ZK.i IntKind.u64,ZK.i IntKind.u64,ZK.s,ZK.s,ZK.i IntKind.i64,ZK.i IntKind.i64,ZK.i IntKind.i64,ZK.l,ZK.i IntKind.u64,ZK.i IntKind.u64,ZK.b,ZK.l]),
 (86,Ti.mk Kd.func 1 8 [ZK.f]),
 (88,Ti.mk Kd.func 1 8 [ZK.f]),
 (90,Ti.mk Kd.func 1 8 [ZK.f]),
 (92,Ti.mk Kd.func 1 8 [ZK.f]),
 (93,Ti.mk Kd.func 1 8 [ZK.f]),
 (94,Ti.mk Kd.func 1 8 [ZK.f]),
 (95,Ti.mk Kd.func 1 8 [ZK.f]),
 (96,Ti.mk Kd.func 1 8 [ZK.f]),
 (97,Ti.mk Kd.func 1 8 [ZK.f]),
 (98,Ti.mk Kd.func 1 8 [ZK.f]),
 (99,Ti.mk (Kd.slice 26) 1 24 [ZK.l]),
 (101,Ti.mk Kd.func 1 8 [ZK.f]),
 (103,Ti.mk Kd.func 1 8 [ZK.f]),
 (104,Ti.mk Kd.func 1 8 [ZK.f]),
 (105,Ti.mk Kd.func 1 8 [ZK.f]),
 (106,Ti.mk Kd.func 1 8 [ZK.f]),
 (107,Ti.mk Kd.func 1 8 [ZK.f]),
 (108,Ti.mk Kd.func 1 8 [ZK.f]),
 (109,Ti.mk Kd.func 1 8 [ZK.f]),
 (110,Ti.mk Kd.func 1 8 [ZK.f]),
 (111,Ti.mk Kd.func 1 8 [ZK.f]),
 (112,Ti.mk (Kd.struct [Av.Fd.mk 0 1 Bool.false 4,Av.Fd.mk 1 1 Bool.false 79,Av.Fd.mk 2 1 Bool.false 3]) 3 40 [ZK.b,ZK.l,ZK.i IntKind.i64]),
 (113,Ti.mk (Kd.struct [Av.Fd.mk 0 1 Bool.false 4,Av.Fd.mk 1 1 Bool.false 79,Av.Fd.mk 2 1 Bool.false 3]) 3 40 [ZK.b,ZK.l,ZK.i IntKind.i64]),
 (114,Ti.mk Kd.func 1 8 [ZK.f]),
 (115,Ti.mk Kd.func 1 8 [ZK.f]),
 (116,Ti.mk Kd.func 1 8 [ZK.f]),
 (117,Ti.mk Kd.func 1 8 [ZK.f]),
 (118,Ti.mk Kd.func 1 8 [ZK.f]),
 (119,Ti.mk Kd.func 1 8 [ZK.f]),
 (120,Ti.mk (Kd.ptr 155) 1 8 [ZK.p]),
 (121,Ti.mk Kd.func 1 8 [ZK.f]),
 (122,Ti.mk Kd.func 1 8 [ZK.f]),
 (123,Ti.mk Kd.func 1 8 [ZK.f]),
 (124,Ti.mk Kd.func 1 8 [ZK.f]),
 (125,Ti.mk Kd.func 1 8 [ZK.f]),
 (126,Ti.mk (Kd.ptr 161) 1 8 [ZK.p]),
 (127,Ti.mk Kd.func 1 8 [ZK.f]),
 (128,Ti.mk Kd.func 1 8 [ZK.f]),
 (130,Ti.mk Kd.func 1 8 [ZK.f]),
 (131,Ti.mk (Kd.ptr 133) 1 8 [ZK.p]),
 (132,Ti.mk (Kd.struct [Av.Fd.mk 0 1 Bool.false 26,Av.Fd.mk 1 1 Bool.false 3,Av.Fd.mk 2 1 Bool.false 28]) 3 40 [ZK.l,ZK.i IntKind.i64,ZK.i IntKind.i64]),
 (133,Ti.mk (Kd.struct [Av.Fd.mk 0 1 Bool.false 26,Av.Fd.mk 1 1 Bool.false 3,Av.Fd.mk 2 1 Bool.false 28]) 3 40 [ZK.l,ZK.i IntKind.i64,ZK.i IntKind.i64]),
 (134,Ti.mk Kd.func 1 8 [ZK.f]),
 (135,Ti.mk Kd.func 1 8 [ZK.f]),
 (136,Ti.mk Kd.func 1 8 [ZK.f]),
 (137,Ti.mk Kd.func 1 8 [ZK.f]),
 (138,Ti.mk Kd.func 1 8 [ZK.f]),
 (139,Ti.mk Kd.func 1 8 [ZK.f]),
 (140,Ti.mk Kd.func 1 8 [ZK.f]),
 (141,Ti.mk Kd.func 1 8 [ZK.f]),
 (142,Ti.mk (Kd.struct [Av.Fd.mk 0 1 Bool.false 4,Av.Fd.mk 1 1 Bool.false 26,Av.Fd.mk 2 1 Bool.false 28]) 3 40 [ZK.b,ZK.l,ZK.i IntKind.i64]),
 (143,Ti.mk (Kd.struct [Av.Fd.mk 0 1 Bool.false 4,Av.Fd.mk 1 1 Bool.false 26,Av.Fd.mk 2 1 Bool.false 28]) 3 40 [ZK.b,ZK.l,ZK.i IntKind.i64]),
 (144,Ti.mk Kd.func 1 8 [ZK.f]),
 (145,Ti.mk (Kd.int IntKind.u64) 1 8 [ZK.i IntKind.u64]),
 (146,Ti.mk Kd.func 1 8 [ZK.f]),
 (148,Ti.mk Kd.func 1 8 [ZK.f]),
 (149,Ti.mk (Kd.slice 31) 1 24 [ZK.l]),
 (150,Ti.mk Kd.func 1 8 [ZK.f]),
 (151,Ti.mk Kd.func 1 8 [ZK.f]),
 (152,Ti.mk Kd.func 1 8 [ZK.f]),
 (153,Ti.mk Kd.func 1 8 [ZK.f]),
 (154,Ti.mk (Kd.struct [Av.Fd.mk 0 1 Bool.false 4,Av.Fd.mk 1 1 Bool.false 26]) 2 32 [ZK.b,ZK.l]),
 (155,Ti.mk (Kd.struct [Av.Fd.mk 0 1 Bool.false 4,Av.Fd.mk 1 1 Bool.false 26]) 2 32 [ZK.b,ZK.l]),
 (156,Ti.mk Kd.func 1 8 [ZK.f]),
 (157,Ti.mk Kd.func 1 8 [ZK.f]),
 (158,Ti.mk (Kd.struct [Av.Fd.mk 0 1 Bool.false 28]) 1 8 [ZK.i IntKind.i64]),
 (159,Ti.mk (Kd.struct [Av.Fd.mk 0 1 Bool.false 28]) 1 8 [ZK.i IntKind.i64]),
 (160,Ti.mk (Kd.struct [Av.Fd.mk 0 1 Bool.true 159,Av.Fd.mk 1 1 Bool.false 4,Av.Fd.mk 2 1 Bool.false 26]) 3 40 [ZK.i IntKind.i64,ZK.b,ZK.l]),
 (161,Ti.mk (Kd.struct [Av.Fd.mk 0 1 Bool.true 159,Av.Fd.mk 1 1 Bool.false 4,Av.Fd.mk 2 1 Bool.false 26]) 3 40 [ZK.i IntKind.i64,ZK.b,ZK.l]),
 (162,Ti.mk Kd.func 1 8 [ZK.f]),
 (163,Ti.mk Kd.func 1 8 [ZK.f]),
 (164,Ti.mk Kd.func 1 8 [ZK.f]),
 (165,Ti.mk Kd.func 1 8 [ZK.f]),
 (166,Ti.mk Kd.func 1 8 [ZK.f]),
 (167,Ti.mk (Kd.struct [Av.Fd.mk 0 5 Bool.true 44,Av.Fd.mk 5 1 Bool.false 31,Av.Fd.mk 6 1 Bool.false 31]) 7 72 [ZK.b,ZK.i IntKind.u64,ZK.i IntKind.u64,ZK.s,ZK.s,ZK.i IntKind.u64,ZK.i IntKind.u64]),
 (168,Ti.mk (Kd.struct [Av.Fd.mk 0 5 Bool.true 44,Av.Fd.mk 5 1 Bool.false 31,Av.Fd.mk 6 1 Bool.false 31]) 7 72 [ZK.b,ZK.i IntKind.u64,ZK.i IntKind.u64,ZK.s,ZK.s,ZK.i IntKind.u64,ZK.i IntKind.u64]),
 (169,Ti.mk (Kd.struct [Av.Fd.mk 0 1 Bool.false 31,Av.Fd.mk 1 1 Bool.false 3,Av.Fd.mk 2 5 Bool.true 44,Av.Fd.mk 7 5 Bool.true 44,Av.Fd.mk 12 7 Bool.true 168,Av.Fd.mk 19 1 Bool.false 31]) 20 208 [ZK.i IntKind.u64,ZK.i IntKind.i64,ZK.b,ZK.i IntKind.u64,ZK.i IntKind.u64,ZK.s,ZK.s,ZK.b,ZK.i IntKind.u64,ZK.i IntKind.u64,ZK.s,ZK.s,ZK.b,ZK.i IntKind.u64,ZK.i IntKind.u64,ZK.s,ZK.s,ZK.i IntKind.u64,ZK.i IntKind.u64,ZK.i IntKind.u64]),
 (170,Ti.mk (Kd.struct [Av.Fd.mk 0 1 Bool.false 31,Av.Fd.mk 1 1 Bool.false 3,Av.Fd.mk 2 5 Bool.true 44,Av.Fd.mk 7 5 Bool.true 44,Av.Fd.mk 12 7 Bool.true 168,Av.Fd.mk 19 1 Bool.false 31]) 20 208 [ZK.i IntKind.u64,ZK.i IntKind.i64,ZK.b,ZK.i IntKind.u64,ZK.i IntKind.u64,ZK.s,ZK.s,ZK.b,ZK.i IntKind.u64,ZK.i IntKind.u64,ZK.s,ZK.s,ZK.b,ZK.i IntKind.u64,ZK.i IntKind.u64,ZK.s,ZK.s,ZK.i IntKind.u64,ZK.i IntKind.u64,ZK.i IntKind.u64]),
 (171,Ti.mk (Kd.slice 210) 1 24 [ZK.l]),
 (172,Ti.mk (Kd.struct [Av.Fd.mk 0 20 Bool.true 170,Av.Fd.mk 20 1 Bool.false 171]) 21 232 [ZK.i IntKind.u64,ZK.i IntKind.i64,ZK.b,ZK.i IntKind.u64,ZK.i IntKind.u64,ZK.s,ZK.s,ZK.b,ZK.i IntKind.u64,ZK.i IntKind.u64,ZK.s,ZK.s,ZK.b,ZK.i IntKind.u64,ZK.i IntKind.u64,ZK.s,ZK.s,ZK.i IntKind.u64,ZK.i IntKind.u64,ZK.i IntKind.u64,ZK.l]),
 (173,Ti.mk (Kd.struct [Av.Fd.mk 0 20 Bool.true 170,Av.Fd.mk 20 1 Bool.false 171]) 21 232 [ZK.i IntKind.u64,ZK.i IntKind.i64,ZK.b,ZK.i IntKind.u64,ZK.i IntKind.u64,ZK.s,ZK.s,ZK.b,ZK.i IntKind.u64,ZK.i IntKind.u64,ZK.s,ZK.s,ZK.b,ZK.i IntKind.u64,ZK.i IntKind.u64,ZK.s,ZK.s,ZK.i IntKind.u64,ZK.i IntKind.u64,ZK.i IntKind.u64,ZK.l]),
 (175,Ti.mk Kd.func 1 8 [ZK.f]),
 (177,Ti.mk Kd.func 1 8 [ZK.f]),
 (178,Ti.mk Kd.func 1 8 [ZK.f]),
 (179,Ti.mk Kd.func 1 8 [ZK.f]),
 (181,Ti.mk Kd.func 1 8 [ZK.f]),
 (182,Ti.mk Kd.func 1 8 [ZK.f]),
 (183,Ti.mk (Kd.slice 3) 1 24 [ZK.l]),
 (184,Ti.mk Kd.func 1 8 [ZK.f]),
 (185,Ti.mk Kd.func 1 8 [ZK.f]),
 (187,Ti.mk Kd.func 1 8 [ZK.f]),
 (188,Ti.mk (Kd.ptr 159) 1 8 [ZK.p]),
 (190,Ti.mk Kd.func 1 8 [ZK.f]),
 (191,Ti.mk (Kd.struct [Av.Fd.mk 0 5 Bool.true 39,Av.Fd.mk 5 1 Bool.false 31,Av.Fd.mk 6 1 Bool.false 31]) 7 72 [ZK.b,ZK.i IntKind.u64,ZK.i IntKind.u64,ZK.s,ZK.s,ZK.i IntKind.u64,ZK.i IntKind.u64]),
 (192,Ti.mk (Kd.struct [Av.Fd.mk 0 5 Bool.true 39,Av.Fd.mk 5 1 Bool.false 31,Av.Fd.mk 6 1 Bool.false 31]) 7 72 [ZK.b,ZK.i IntKind.u64,ZK.i IntKind.u64,ZK.s,ZK.s,ZK.i IntKind.u64,ZK.i IntKind.u64]),
 (193,Ti.mk (Kd.struct [Av.Fd.mk 0 1 Bool.false 31,Av.Fd.mk 1 1 Bool.false 3,Av.Fd.mk 2 5 Bool.true 39,Av.Fd.mk 7 5 Bool.true 39,Av.Fd.mk 12 7 Bool.true 192,Av.Fd.mk 19 1 Bool.false 31]) 20 208 [ZK.i IntKind.u64,ZK.i IntKind.i64,ZK.b,ZK.i IntKind.u64,ZK.i IntKind.u64,ZK.s,ZK.s,ZK.b,ZK.i IntKind.u64,ZK.i IntKind.u64,ZK.s,ZK.s,ZK.b,ZK.i IntKind.u64,ZK.i IntKind.u64,ZK.s,ZK.s,ZK.i IntKind.u64,ZK.i IntKind.u64,ZK.i IntKind.u64]),
 (194,Ti.mk (Kd.struct [Av.Fd.mk 0 1 Bool.false 31,Av.Fd.mk 1 1 Bool.false 3,Av.Fd.mk 2 5 Bool.true 39,Av.Fd.mk 7 5 Bool.true 39,Av.Fd.mk 12 7 Bool.true 192,Av.Fd.mk 19 1 Bool.false 31]) 20 208 [ZK.i IntKind.u64,ZK.i IntKind.i64,ZK.b,ZK.i IntKind.u64,ZK.i IntKind.u64,ZK.s,ZK.s,ZK.b,ZK.i IntKind.u64,ZK.i IntKind.u64,ZK.s,ZK.s,ZK.b,ZK.i IntKind.u64,ZK.i IntKind.u64,ZK.s,ZK.s,ZK.i IntKind.u64,ZK.i IntKind.u64,ZK.i IntKind.u64]),
 (195,Ti.mk (Kd.slice 235) 1 24 [ZK.l]),
 (196,Ti.mk (Kd.struct [Av.Fd.mk 0 20 Bool.true 194,Av.Fd.mk 20 1 Bool.false 195]) 21 232 [ZK.i IntKind.u64,ZK.i IntKind.i64,ZK.b,ZK.i IntKind.u64,ZK.i IntKind.u64,ZK.s,ZK.s,ZK.b,ZK.i IntKind.u64,ZK.i IntKind.u64,ZK.s,ZK.s,ZK.b,ZK.i IntKind.u64,ZK.i IntKind.u64,ZK.s,ZK.s,ZK.i IntKind.u64,ZK.i IntKind.u64,ZK.i IntKind.u64,ZK.l]),
 (197,Ti.mk (Kd.struct [Av.Fd.mk 0 20 Bool.true 194,Av.Fd.mk 20 1 Bool.false 195]) 21 232 [ZK.i IntKind.u64,ZK.i IntKind.i64,ZK.b,ZK.i IntKind.u64,ZK.i IntKind.u64,ZK.s,ZK.s,ZK.b,ZK.i IntKind.u64,ZK.i IntKind.u64,ZK.s,ZK.s,ZK.b,ZK.i IntKind.u64,ZK.i IntKind.u64,ZK.s,ZK.s,ZK.i IntKind.u64,ZK.i IntKind.u64,ZK.i IntKind.u64,ZK.l]),
 (199,Ti.mk Kd.func 1 8 [ZK.f]),
 (200,Ti.mk Kd.func 1 8 [ZK.f]),
 (201,Ti.mk Kd.func 1 8 [ZK.f]),
 (202,Ti.mk (Kd.slice 204) 1 24 [ZK.l]),
 (203,Ti.mk (Kd.struct [Av.Fd.mk 0 1 Bool.false 3,Av.Fd.mk 1 1 Bool.false 31,Av.Fd.mk 2 1 Bool.false 26,Av.Fd.mk 3 1 Bool.false 202]) 4 64 [ZK.i IntKind.i64,ZK.i IntKind.u64,ZK.l,ZK.l]),
 (204,Ti.mk (Kd.struct [Av.Fd.mk 0 1 Bool.false 3,Av.Fd.mk 1 1 Bool.false 31,Av.Fd.mk 2 1 Bool.false 26,Av.Fd.mk 3 1 Bool.false 202]) 4 64 [ZK.i IntKind.i64,ZK.i IntKind.u64,ZK.l,ZK.l]),
 (206,Ti.mk Kd.func 1 8 [ZK.f]),
 (208,Ti.mk Kd.func 1 8 [ZK.f]),
 (209,Ti.mk (Kd.struct [Av.Fd.mk 0 1 Bool.false 31,Av.Fd.mk 1 1 Bool.false 31,Av.Fd.mk 2 1 Bool.false 31,Av.Fd.mk 3 1 Bool.false 3,Av.Fd.mk 4 1 Bool.false 26]) 5 56 [ZK.i IntKind.u64,ZK.i IntKind.u64,ZK.i IntKind.u64,ZK.i IntKind.i64,ZK.l]),
 (210,Ti.mk (Kd.struct [Av.Fd.mk 0 1 Bool.false 31,Av.Fd.mk 1 1 Bool.false 31,Av.Fd.mk 2 1 Bool.false 31,Av.Fd.mk 3 1 Bool.false 3,Av.Fd.mk 4 1 Bool.false 26]) 5 56 [ZK.i IntKind.u64,ZK.i IntKind.u64,ZK.i IntKind.u64,ZK.i IntKind.i64,ZK.l]),
 (212,Ti.mk Kd.func 1 8 [ZK.f]),
 (213,Ti.mk Kd.func 1 8 [ZK.f]),
 (214,Ti.mk Kd.func 1 8 [ZK.f]),
 (215,Ti.mk Kd.func 1 8 [ZK.f]),
 (216,Ti.mk Kd.func 1 8 [ZK.f]),
 (217,Ti.mk Kd.func 1 8 [ZK.f]),
 (218,Ti.mk Kd.func 1 8 [ZK.f]),
 (219,Ti.mk Kd.func 1 8 [ZK.f]),
 (220,Ti.mk Kd.func 1 8 [ZK.f]),
 (221,Ti.mk Kd.func 1 8 [ZK.f]),
 (222,Ti.mk Kd.func 1 8 [ZK.f]),
 (223,Ti.mk Kd.func 1 8 [ZK.f]),
 (225,Ti.mk Kd.func 1 8 [ZK.f]),
 (227,Ti.mk Kd.func 1 8 [ZK.f]),
 (228,Ti.mk (Kd.slice 230) 1 24 [ZK.l]),
 (229,Ti.mk (Kd.struct [Av.Fd.mk 0 1 Bool.false 3,Av.Fd.mk 1 1 Bool.false 31,Av.Fd.mk 2 1 Bool.false 26,Av.Fd.mk 3 1 Bool.false 228]) 4 64 [ZK.i IntKind.i64,ZK.i IntKind.u64,ZK.l,ZK.l]),
 (230,Ti.mk (Kd.struct [Av.Fd.mk 0 1 Bool.false 3,Av.Fd.mk 1 1 Bool.false 31,Av.Fd.mk 2 1 Bool.false 26,Av.Fd.mk 3 1 Bool.false 228]) 4 64 [ZK.i IntKind.i64,ZK.i IntKind.u64,ZK.l,ZK.l]),
 (232,Ti.mk Kd.func 1 8 [ZK.f]),
 (234,Ti.mk Kd.func 1 8 [ZK.f]),
 (235,Ti.mk (Kd.struct [Av.Fd.mk 0 1 Bool.false 31,Av.Fd.mk 1 1 Bool.false 31,Av.Fd.mk 2 1 Bool.false 31,Av.Fd.mk 3 1 Bool.false 3,Av.Fd.mk 4 1 Bool.false 26]) 5 56 [ZK.i IntKind.u64,ZK.i IntKind.u64,ZK.i IntKind.u64,ZK.i IntKind.i64,ZK.l]),
 (237,Ti.mk Kd.func 1 8 [ZK.f]),
 (238,Ti.mk Kd.func 1 8 [ZK.f]),
 (239,Ti.mk Kd.func 1 8 [ZK.f]),
 (240,Ti.mk Kd.func 1 8 [ZK.f]),
 (242,Ti.mk Kd.func 1 8 [ZK.f]),
 (244,Ti.mk Kd.func 1 8 [ZK.f]),
 (245,Ti.mk Kd.func 1 8 [ZK.f]),
 (246,Ti.mk Kd.func 1 8 [ZK.f]),
 (247,Ti.mk Kd.func 1 8 [ZK.f]),
 (248,Ti.mk (Kd.struct [Av.Fd.mk 0 1 Bool.false 3,Av.Fd.mk 1 1 Bool.false 31,Av.Fd.mk 2 1 Bool.false 4]) 3 24 [ZK.i IntKind.i64,ZK.i IntKind.u64,ZK.b]),
 (249,Ti.mk (Kd.struct [Av.Fd.mk 0 1 Bool.false 3,Av.Fd.mk 1 1 Bool.false 31,Av.Fd.mk 2 1 Bool.false 4]) 3 24 [ZK.i IntKind.i64,ZK.i IntKind.u64,ZK.b]),
 (250,Ti.mk Kd.func 1 8 [ZK.f]),
 (251,Ti.mk Kd.func 1 8 [ZK.f]),
 (252,Ti.mk Kd.func 1 8 [ZK.f]),
 (254,Ti.mk Kd.func 1 8 [ZK.f]),
 (255,Ti.mk Kd.func 1 8 [ZK.f]),
 (257,Ti.mk Kd.func 1 8 [ZK.f]),
 (259,Ti.mk Kd.func 1 8 [ZK.f]),
 (260,Ti.mk Kd.func 1 8 [ZK.f]),
 (262,Ti.mk Kd.func 1 8 [ZK.f]),
 (263,Ti.mk Kd.iface 1 16 [ZK.n]),
 (264,Ti.mk Kd.iface 1 16 [ZK.n]),
 (266,Ti.mk Kd.func 1 8 [ZK.f]),
 (267,Ti.mk (Kd.struct [Av.Fd.mk 0 1 Bool.false 28]) 1 8 [ZK.i IntKind.i64]),
 (268,Ti.mk (Kd.struct [Av.Fd.mk 0 1 Bool.false 28]) 1 8 [ZK.i IntKind.i64]),
 (270,Ti.mk (Kd.ptr 272) 1 8 [ZK.p]),
 (271,Ti.mk (Kd.struct [Av.Fd.mk 0 1 Bool.false 26,Av.Fd.mk 1 1 Bool.false 3,Av.Fd.mk 2 1 Bool.false 3]) 3 40 [ZK.l,ZK.i IntKind.i64,ZK.i IntKind.i64]),
 (272,Ti.mk (Kd.struct [Av.Fd.mk 0 1 Bool.false 26,Av.Fd.mk 1 1 Bool.false 3,Av.Fd.mk 2 1 Bool.false 3]) 3 40 [ZK.l,ZK.i IntKind.i64,ZK.i IntKind.i64]),
 (273,Ti.mk Kd.func 1 8 [ZK.f]),
 (275,Ti.mk Kd.func 1 8 [ZK.f]),
 (276,Ti.mk Kd.func 1 8 [ZK.f]),
 (278,Ti.mk Kd.func 1 8 [ZK.f]),
 (279,Ti.mk Kd.func 1 8 [ZK.f]),
 (281,Ti.mk Kd.func 1 8 [ZK.f]),
 (282,Ti.mk Kd.func 1 8 [ZK.f]),
 (283,Ti.mk Kd.func 1 8 [ZK.f]),
 (284,Ti.mk Kd.func 1 8 [ZK.f]),
 (285,Ti.mk Kd.func 1 8 [ZK.f]),
 (286,Ti.mk Kd.func 1 8 [ZK.f]),
 (288,Ti.mk Kd.func 1 8 [ZK.f]),
 (289,Ti.mk Kd.func 1 8 [ZK.f]),
 (290,Ti.mk Kd.func 1 8 [ZK.f]),
 (291,Ti.mk Kd.func 1 8 [ZK.f]),
 (292,Ti.mk Kd.func 1 8 [ZK.f]),
 (293,Ti.mk Kd.func 1 8 [ZK.f]),
 (294,Ti.mk Kd.func 1 8 [ZK.f]),
 (295,Ti.mk Kd.func 1 8 [ZK.f]),
 (296,Ti.mk Kd.func 1 8 [ZK.f]),
 (297,Ti.mk (Kd.int IntKind.u32) 1 4 [ZK.i IntKind.u32]),
 (298,Ti.mk (Kd.int IntKind.u16) 1 2 [ZK.i IntKind.u16]),
 (299,Ti.mk Kd.func 1 8 [ZK.f]),
 (300,Ti.mk Kd.func 1 8 [ZK.f]),
 (301,Ti.mk Kd.func 1 8 [ZK.f]),
 (302,Ti.mk Kd.func 1 8 [ZK.f]),
 (303,Ti.mk (Kd.array 24 5) 24 24 [ZK.i IntKind.u8,ZK.i IntKind.u8,ZK.i IntKind.u8,ZK.i IntKind.u8,ZK.i IntKind.u8,ZK.i IntKind.u8,ZK.i IntKind.u8,ZK.i IntKind.u8,ZK.i IntKind.u8,ZK.i IntKind.u8,ZK.i IntKind.u8,ZK.i IntKind.u8,ZK.i IntKind.u8,ZK.i IntKind.u8,ZK.i IntKind.u8,ZK.i IntKind.u8,ZK.i IntKind.u8,ZK.i IntKind.u8,ZK.i IntKind.u8,ZK.i IntKind.u8,ZK.i IntKind.u8,ZK.i IntKind.u8,ZK.i IntKind.u8,ZK.i IntKind.u8]),
 (304,Ti.mk Kd.func 1 8 [ZK.f]),
 (305,Ti.mk Kd.func 1 8 [ZK.f]),
 (307,Ti.mk Kd.func 1 8 [ZK.f]),
 (308,Ti.mk Kd.func 1 8 [ZK.f]),
 (309,Ti.mk Kd.func 1 8 [ZK.f]),
 (310,Ti.mk (Kd.struct [Av.Fd.mk 0 1 Bool.false 3,Av.Fd.mk 1 1 Bool.false 31,Av.Fd.mk 2 1 Bool.false 4]) 3 24 [ZK.i IntKind.i64,ZK.i IntKind.u64,ZK.b]),
 (311,Ti.mk Kd.func 1 8 [ZK.f]),
 (312,Ti.mk Kd.func 1 8 [ZK.f]),
 (313,Ti.mk Kd.func 1 8 [ZK.f]),
 (314,Ti.mk Kd.func 1 8 [ZK.f]),
 (315,Ti.mk Kd.func 1 8 [ZK.f]),
 (316,Ti.mk Kd.func 1 8 [ZK.f]),
 (317,Ti.mk Kd.func 1 8 [ZK.f]),
 (318,Ti.mk Kd.func 1 8 [ZK.f]),
 (319,Ti.mk Kd.func 1 8 [ZK.f]),
 (320,Ti.mk Kd.func 1 8 [ZK.f]),
 (322,Ti.mk Kd.func 1 8 [ZK.f]),
 (323,Ti.mk Kd.func 1 8 [ZK.f]),
 (324,Ti.mk Kd.func 1 8 [ZK.f]),
 (325,Ti.mk Kd.func 1 8 [ZK.f]),
 (326,Ti.mk Kd.func 1 8 [ZK.f]),
 (327,Ti.mk Kd.func 1 8 [ZK.f]),
 (328,Ti.mk Kd.func 1 8 [ZK.f]),
 (329,Ti.mk Kd.func 1 8 [ZK.f]),
 (330,Ti.mk Kd.func 1 8 [ZK.f]),
 (331,Ti.mk Kd.func 1 8 [ZK.f]),
 (332,Ti.mk Kd.func 1 8 [ZK.f]),
 (333,Ti.mk Kd.func 1 8 [ZK.f]),
 (335,Ti.mk Kd.func 1 8 [ZK.f]),
 (336,Ti.mk Kd.func 1 8 [ZK.f]),
 (337,Ti.mk Kd.func 1 8 [ZK.f]),
 (338,Ti.mk Kd.func 1 8 [ZK.f]),
 (339,Ti.mk (Kd.array 20 31) 20 160 [ZK.i IntKind.u64,ZK.i IntKind.u64,ZK.i IntKind.u64,ZK.i IntKind.u64,ZK.i IntKind.u64,ZK.i IntKind.u64,ZK.i IntKind.u64,ZK.i IntKind.u64,ZK.i IntKind.u64,ZK.i IntKind.u64,ZK.i IntKind.u64,ZK.i IntKind.u64,ZK.i IntKind.u64,ZK.i IntKind.u64,ZK.i IntKind.u64,ZK.i IntKind.u64,ZK.i IntKind.u64,ZK.i IntKind.u64,ZK.i IntKind.u64,ZK.i IntKind.u64]),
 (340,Ti.mk (Kd.array 65 5) 65 65 [ZK.i IntKind.u8,ZK.i IntKind.u8,ZK.i IntKind.u8,ZK.i IntKind.u8,ZK.i IntKind.u8,ZK.i IntKind.u8,ZK.i IntKind.u8,ZK.i IntKind.u8,ZK.i IntKind.u8,ZK.i IntKind.u8,ZK.i IntKind.u8,ZK.i IntKind.u8,ZK.i IntKind.u8,ZK.i IntKind.u8,ZK.i IntKind.u8,ZK.i IntKind.u8,ZK.i IntKind.u8,ZK.i IntKind.u8,ZK.i IntKind.u8,ZK.i IntKind.u8,ZK.i IntKind.u8,ZK.i IntKind.u8,ZK.i IntKind.u8,ZK.i IntKind.u8,ZK.i IntKind.u8,ZK.i IntKind.u8,ZK.i IntKind.u8,ZK.i IntKind.u8,ZK.i IntKind.u8,ZK.i IntKind.u8,ZK.i IntKind.u8,ZK.i IntKind.u8,ZK.i IntKind.u8,ZK.i IntKind.u8,ZK.i IntKind.u8,ZK.i IntKind.u8,ZK.i IntKind.u8,ZK.i IntKind.u8,ZK.i IntKind.u8,ZK.i IntKind.u8,ZK.i IntKind.u8,ZK.i IntKind.u8,ZK.i IntKind.u8,ZK.i IntKind.u8,ZK.i IntKind.u8,ZK.i IntKind.u8,ZK.i IntKind.u8,ZK.i IntKind.u8,ZK.i IntKind.u8,ZK.i IntKind.u8,ZK.i IntKind.u8,ZK.i IntKind.u8,ZK.i IntKind.u8,ZK.i IntKind.u8,ZK.i IntKind.u8,ZK.i IntKind.u8,ZK.i IntKind.u8,ZK.i IntKind.u8,ZK.i IntKind.u8,ZK.i IntKind.u8,ZK.i IntKind.u8,ZK.i IntKind.u8,ZK.i IntKind.u8,ZK.i IntKind.u8,ZK.i IntKind.u8]),
 (341,Ti.mk Kd.func 1 8 [ZK.f]),
 (342,Ti.mk Kd.func 1 8 [ZK.f]),
 (343,Ti.mk (Kd.int IntKind.i64) 1 8 [ZK.i IntKind.i64]),
 (344,Ti.mk Kd.func 1 8 [ZK.f]),
 (345,Ti.mk Kd.func 1 8 [ZK.f]),
 (346,Ti.mk (Kd.ptr 364) 1 8 [ZK.p]),
 (347,Ti.mk Kd.func 1 8 [ZK.f]),
 (348,Ti.mk Kd.func 1 8 [ZK.f]),
 (350,Ti.mk Kd.func 1 8 [ZK.f]),
 (351,Ti.mk Kd.func 1 8 [ZK.f]),
 (352,Ti.mk Kd.func 1 8 [ZK.f]),
 (353,Ti.mk Kd.func 1 8 [ZK.f]),
 (354,Ti.mk Kd.func 1 8 [ZK.f]),
 (355,Ti.mk Kd.func 1 8 [ZK.f]),
 (356,Ti.mk Kd.func 1 8 [ZK.f]),
 (357,Ti.mk Kd.func 1 8 [ZK.f]),
 (358,Ti.mk Kd.func 1 8 [ZK.f]),
 (359,Ti.mk Kd.func 1 8 [ZK.f]),
 (360,Ti.mk Kd.func 1 8 [ZK.f]),
 (361,Ti.mk Kd.func 1 8 [ZK.f]),
 (362,Ti.mk Kd.func 1 8 [ZK.f]),
 (363,Ti.mk (Kd.struct [Av.Fd.mk 0 1 Bool.false 9,Av.Fd.mk 1 1 Bool.false 9,Av.Fd.mk 2 1 Bool.false 264]) 3 48 [ZK.s,ZK.s,ZK.n]),
 (364,Ti.mk (Kd.struct [Av.Fd.mk 0 1 Bool.false 9,Av.Fd.mk 1 1 Bool.false 9,Av.Fd.mk 2 1 Bool.false 264]) 3 48 [ZK.s,ZK.s,ZK.n]),
 (365,Ti.mk Kd.func 1 8 [ZK.f]),
 (366,Ti.mk Kd.func 1 8 [ZK.f]),
 (367,Ti.mk Kd.func 1 8 [ZK.f]),
 (368,Ti.mk Kd.func 1 8 [ZK.f]),
 (370,Ti.mk Kd.func 1 8 [ZK.f]),
 (371,Ti.mk Kd.func 1 8 [ZK.f]),
 (372,Ti.mk Kd.func 1 8 [ZK.f]),
 (373,Ti.mk Kd.func 1 8 [ZK.f]),
 (374,Ti.mk (Kd.array 32 5) 32 32 [ZK.i IntKind.u8,ZK.i IntKind.u8,ZK.i IntKind.u8,ZK.i IntKind.u8,ZK.i IntKind.u8,ZK.i IntKind.u8,ZK.i IntKind.u8,ZK.i IntKind.u8,ZK.i IntKind.u8,ZK.i IntKind.u8,ZK.i IntKind.u8,ZK.i IntKind.u8,ZK.i IntKind.u8,ZK.i IntKind.u8,ZK.i IntKind.u8,ZK.i IntKind.u8,ZK.i IntKind.u8,ZK.i IntKind.u8,ZK.i IntKind.u8,ZK.i IntKind.u8,ZK.i IntKind.u8,ZK.i IntKind.u8,ZK.i IntKind.u8,ZK.i IntKind.u8,ZK.i IntKind.u8,ZK.i IntKind.u8,ZK.i IntKind.u8,ZK.i IntKind.u8,ZK.i IntKind.u8,ZK.i IntKind.u8,ZK.i IntKind.u8,ZK.i IntKind.u8]),
 (375,Ti.mk (Kd.array 64 5) 64 64 [ZK.i IntKind.u8,ZK.i IntKind.u8,ZK.i IntKind.u8,ZK.i IntKind.u8,ZK.i IntKind.u8,ZK.i IntKind.u8,ZK.i IntKind.u8,ZK.i IntKind.u8,ZK.i IntKind.u8,ZK.i IntKind.u8,ZK.i IntKind.u8,ZK.i IntKind.u8,ZK.i IntKind.u8,ZK.i IntKind.u8,ZK.i IntKind.u8,ZK.i IntKind.u8,ZK.i IntKind.u8,ZK.i IntKind.u8,ZK.i IntKind.u8,ZK.i IntKind.u8,ZK.i IntKind.u8,ZK.i IntKind.u8,ZK.i IntKind.u8,ZK.i IntKind.u8,ZK.i IntKind.u8,ZK.i IntKind.u8,ZK.i IntKind.u8,ZK.i IntKind.u8,ZK.i IntKind.u8,ZK.i IntKind.u8,ZK.i IntKind.u8,ZK.i IntKind.u8,ZK.i IntKind.u8,ZK.i IntKind.u8,ZK.i IntKind.u8,ZK.i IntKind.u8,ZK.i IntKind.u8,ZK.i IntKind.u8,ZK.i IntKind.u8,ZK.i IntKind.u8,ZK.i IntKind.u8,ZK.i IntKind.u8,ZK.i IntKind.u8,ZK.i IntKind.u8,ZK.i IntKind.u8,ZK.i IntKind.u8,ZK.i IntKind.u8,ZK.i IntKind.u8,ZK.i IntKind.u8,ZK.i IntKind.u8,ZK.i IntKind.u8,ZK.i IntKind.u8,ZK.i IntKind.u8,ZK.i IntKind.u8,ZK.i IntKind.u8,ZK.i IntKind.u8,ZK.i IntKind.u8,ZK.i IntKind.u8,ZK.i IntKind.u8,ZK.i IntKind.u8,ZK.i IntKind.u8,ZK.i IntKind.u8,ZK.i IntKind.u8,ZK.i IntKind.u8]),
 (377,Ti.mk Kd.func 1 8 [ZK.f]),
 (378,Ti.mk (Kd.ptr 5) 1 8 [ZK.p]),
 (379,Ti.mk (Kd.ptr 381) 1 8 [ZK.p]),
 (380,Ti.mk (Kd.struct [Av.Fd.mk 0 1 Bool.false 9]) 1 16 [ZK.s]),
 (381,Ti.mk (Kd.struct [Av.Fd.mk 0 1 Bool.false 9]) 1 16 [ZK.s]),
 (382,Ti.mk Kd.func 1 8 [ZK.f]),
 (383,Ti.mk (Kd.array 256 5) 256 256 [ZK.i IntKind.u8,ZK.i IntKind.u8,ZK.i IntKind.u8,ZK.i IntKind.u8,ZK.i IntKind.u8,ZK.i IntKind.u8,ZK.i IntKind.u8,ZK.i IntKind.u8,ZK.i IntKind.u8,ZK.i IntKind.u8,ZK.i IntKind.u8,ZK.i IntKind.u8,ZK.i IntKind.u8,ZK.i IntKind.u8,ZK.i IntKind.u8,ZK.i IntKind.u8,ZK.i IntKind.u8,ZK.i IntKind.u8,ZK.i IntKind.u8,ZK.i IntKind.u8,ZK.i IntKind.u8,ZK.i IntKind.u8,ZK.i IntKind.u8,ZK.i IntKind.u8,ZK.i IntKind.u8,ZK.i IntKind.u8,ZK.i IntKind.u8,ZK.i IntKind.u8,ZK.i IntKind.u8,ZK.i IntKind.u8,ZK.i IntKind.u8,ZK.i IntKind.u8,ZK.i IntKind.u8,ZK.i IntKind.u8,ZK.i IntKind.u8,ZK.i IntKind.u8,ZK.i IntKind.u8,ZK.i IntKind.u8,ZK.i IntKind.u8,ZK.i IntKind.u8,ZK.i IntKind.u8,ZK.i IntKind.u8,ZK.i IntKind.u8,ZK.i IntKind.u8,ZK.i IntKind.u8,ZK.i IntKind.u8,ZK.i IntKind.u8,ZK.i IntKind.u8,ZK.i IntKind.u8,ZK.i IntKind.u8,ZK.i IntKind.u8,ZK.i IntKind.u8,ZK.i IntKind.u8,ZK.i IntKind.u8,ZK.i IntKind.u8,ZK.i IntKind.u8,ZK.i IntKind.u8,ZK.i IntKind.u8,ZK.i IntKind.u8,ZK.i IntKind.u8,ZK.i IntKind.u8,ZK.i IntKind.u8,ZK.i IntKind.u8,ZK.i IntKind.u8,ZK.i IntKind.u8,ZK.i IntKind.u8,ZK.i IntKind.u8,ZK.i IntKind.u8,ZK.i IntKind.u8,ZK.i IntKind.u8,ZK.i IntKind.u8,ZK.i IntKind.u8,ZK.i IntKind.u8,ZK.i IntKind.u8,ZK.i IntKind.u8,ZK.i IntKind.u8,ZK.i IntKind.u8,ZK.i IntKind.u8,ZK.i IntKind.u8,ZK.i IntKind.u8,ZK.i IntKind.u8,ZK.i IntKind.u8,ZK.i IntKind.u8,ZK.i IntKind.u8,ZK.i IntKind.u8,ZK.i IntKind.u8,ZK.i IntKind.u8,ZK.i IntKind.u8,ZK.i IntKind.u8,ZK.i IntKind.u8,ZK.i IntKind.u8,ZK.i IntKind.u8,ZK.i IntKind.u8,ZK.i IntKind.u8,ZK.i IntKind.u8,ZK.i IntKind.u8,ZK.i IntKind.u8,ZK.i IntKind.u8,ZK.i IntKind.u8,ZK.i IntKind.u8,ZK.i IntKind.u8,ZK.i IntKind.u8,ZK.i IntKind.u8,ZK.i IntKind.u8,ZK.i IntKind.u8,ZK.i IntKind.u8,ZK.i IntKind.u8,ZK.i IntKind.u8,ZK.i IntKind.u8,ZK.i IntKind.u8,ZK.i IntKind.u8,ZK.i IntKind.u8,ZK.i IntKind.u8,ZK.i IntKind.u8,ZK.i IntKind.u8,ZK.i IntKind.u8,ZK.i IntKind.u8,ZK.i IntKind.u8,ZK.i IntKind.u8,ZK.i IntKind.u8,ZK.i IntKind.u8,ZK.i IntKind.u8,ZK.i IntKind.u8,ZK.i IntKind.u8,ZK.i IntKind.u8,ZK.i IntKind.u8,ZK.i IntKind.u8,ZK.i IntKind.u8,ZK.i IntKind.u8,ZK.i IntKind.u8,ZK.i IntKind.u8,ZK.i IntKind.u8,ZK.i IntKind.u8,ZK.i IntKind.u8,ZK.i IntKind.u8,ZK.i IntKind.u8,ZK.i IntKind.u8,ZK.i IntKind.u8,ZK.i IntKind.u8,ZK.i IntKind.u8,ZK.i IntKind.u8,ZK.i IntKind.u8,ZK.i IntKind.u8,ZK.i IntKind.u8,ZK.i IntKind.u8,ZK.i IntKind.u8,ZK.i IntKind.u8,ZK.i IntKind.u8,ZK.i IntKind.u8,ZK.i IntKind.u8,ZK.i IntKind.u8,ZK.i IntKind.u8,ZK.i IntKind.u8,ZK.i IntKind.u8,ZK.i IntKind.u8,ZK.i IntKind.u8,ZK.i IntKind.u8,ZK.i IntKind.u8,ZK.i IntKind.u8,ZK.i IntKind.u8,ZK.i IntKind.u8,ZK.i IntKind.u8,ZK.i IntKind.u8,ZK.i IntKind.u8,ZK.i IntKind.u8,ZK.i IntKind.u8,ZK.i IntKind.u8,ZK.i IntKind.u8,ZK.i IntKind.u8,ZK.i IntKind.u8,ZK.i IntKind.u8,ZK.i IntKind.u8,ZK.i IntKind.u8,ZK.i IntKind.u8,ZK.i IntKind.u8,ZK.i IntKind.u8,ZK.i IntKind.u8,ZK.i IntKind.u8,ZK.i IntKind.u8,ZK.i IntKind.u8,ZK.i IntKind.u8,ZK.i IntKind.u8,ZK.i IntKind.u8,ZK.i IntKind.u8,ZK.i IntKind.u8,ZK.i IntKind.u8,ZK.i IntKind.u8,ZK.i IntKind.u8,ZK.i IntKind.u8,ZK.i IntKind.u8,ZK.i IntKind.u8,ZK.i IntKind.u8,ZK.i IntKind.u8,ZK.i IntKind.u8,ZK.i IntKind.u8,ZK.i IntKind.u8,ZK.i IntKind.u8,ZK.i IntKind.u8,ZK.i IntKind.u8,ZK.i IntKind.u8,ZK.i IntKind.u8,ZK.i IntKind.u8,ZK.i IntKind.u8,ZK.i IntKind.u8,ZK.i IntKind.u8,ZK.i IntKind.u8,ZK.i IntKind.u8,ZK.i IntKind.u8,ZK.i IntKind.u8,ZK.i IntKind.u8,ZK.i IntKind.u8,ZK.i IntKind.u8,ZK.i IntKind.u8,ZK.i IntKind.u8,ZK.i IntKind.u8,ZK.i IntKind.u8,ZK.i IntKind.u8,ZK.i IntKind.u8,ZK.i IntKind.u8,ZK.i IntKind.u8,ZK.i IntKind.u8,ZK.i IntKind.u8,ZK.i IntKind.u8,ZK.i IntKind.u8,ZK.i IntKind.u8,ZK.i IntKind.u8,ZK.i IntKind.u8,ZK.i IntKind.u8,ZK.i IntKind.u8,ZK.i IntKind.u8,ZK.i IntKind.u8,ZK.i IntKind.u8,ZK.i IntKind.u8,ZK.i IntKind.u8,ZK.i IntKind.u8,ZK.i IntKind.u8,ZK.i IntKind.u8,ZK.i IntKind.u8,ZK.i IntKind.u8,ZK.i IntKind.u8,ZK.i IntKind.u8,ZK.i IntKind.u8,ZK.i IntKind.u8,ZK.i IntKind.u8,ZK.i IntKind.u8,ZK.i IntKind.u8,ZK.i IntKind.u8,ZK.i IntKind.u8,ZK.i IntKind.u8,ZK.i IntKind.u8,ZK.i IntKind.u8,ZK.i IntKind.u8,ZK.i IntKind.u8,ZK.i IntKind.u8,ZK.i IntKind.u8,ZK.i IntKind.u8]),
 (384,Ti.mk (Kd.struct [Av.Fd.mk 0 1 Bool.false 5,Av.Fd.mk 1 1 Bool.false 5]) 2 2 [ZK.i IntKind.u8,ZK.i IntKind.u8]),
 (385,Ti.mk (Kd.struct [Av.Fd.mk 0 1 Bool.false 5,Av.Fd.mk 1 1 Bool.false 5]) 2 2 [ZK.i IntKind.u8,ZK.i IntKind.u8]),
 (386,Ti.mk (Kd.array 16 385) 32 32 [ZK.i IntKind.u8,ZK.i IntKind.u8,ZK.i IntKind.u8,ZK.i IntKind.u8,ZK.i IntKind.u8,ZK.i IntKind.u8,ZK.i IntKind.u8,ZK.i IntKind.u8,ZK.i IntKind.u8,ZK.i IntKind.u8,ZK.i IntKind.u8,ZK.i IntKind.u8,ZK.i IntKind.u8,ZK.i IntKind.u8,ZK.i IntKind.u8,ZK.i IntKind.u8,ZK.i IntKind.u8,ZK.i IntKind.u8,ZK.i IntKind.u8,ZK.i IntKind.u8,ZK.i IntKind.u8,ZK.i IntKind.u8,ZK.i IntKind.u8,ZK.i IntKind.u8,ZK.i IntKind.u8,ZK.i IntKind.u8,ZK.i IntKind.u8,ZK.i IntKind.u8,ZK.i IntKind.u8,ZK.i IntKind.u8,ZK.i IntKind.u8,ZK.i IntKind.u8]),
 (387,Ti.mk Kd.func 1 8 [ZK.f]),
 (388,Ti.mk Kd.func 1 8 [ZK.f]),
 (389,Ti.mk Kd.func 1 8 [ZK.f]),
 (390,Ti.mk Kd.func 1 8 [ZK.f]),
 (391,Ti.mk Kd.func 1 8 [ZK.f]),
 (392,Ti.mk (Kd.struct [Av.Fd.mk 0 1 Bool.false 17,Av.Fd.mk 1 1 Bool.false 17,Av.Fd.mk 2 1 Bool.false 17,Av.Fd.mk 3 1 Bool.false 9]) 4 40 [ZK.p,ZK.p,ZK.p,ZK.s]),
 (393,Ti.mk (Kd.struct [Av.Fd.mk 0 1 Bool.false 17,Av.Fd.mk 1 1 Bool.false 17,Av.Fd.mk 2 1 Bool.false 17,Av.Fd.mk 3 1 Bool.false 9]) 4 40 [ZK.p,ZK.p,ZK.p,ZK.s]),
 (394,Ti.mk (Kd.array 0 16) 0 0 []),
 (395,Ti.mk (Kd.struct [Av.Fd.mk 0 0 Bool.true 394]) 0 0 []),
 (396,Ti.mk (Kd.struct [Av.Fd.mk 0 0 Bool.true 394]) 0 0 []),
 (397,Ti.mk (Kd.int IntKind.u8) 1 1 [ZK.i IntKind.u8]),
 (398,Ti.mk (Kd.int IntKind.u8) 1 1 [ZK.i IntKind.u8]),
 (399,Ti.mk Kd.func 1 8 [ZK.f]),
 (400,Ti.mk (Kd.int IntKind.i32) 1 4 [ZK.i IntKind.i32]),
 (401,Ti.mk (Kd.int IntKind.i32) 1 4 [ZK.i IntKind.i32]),
 (402,Ti.mk (Kd.struct [Av.Fd.mk 0 1 Bool.false 12,Av.Fd.mk 1 1 Bool.false 12,Av.Fd.mk 2 1 Bool.false 297,Av.Fd.mk 3 1 Bool.false 397,Av.Fd.mk 4 1 Bool.false 5,Av.Fd.mk 5 1 Bool.false 5,Av.Fd.mk 6 1 Bool.false 398,Av.Fd.mk 7 1 Bool.false 399,Av.Fd.mk 8 1 Bool.false 378,Av.Fd.mk 9 1 Bool.false 400,Av.Fd.mk 10 1 Bool.false 401]) 11 48 [ZK.i IntKind.u64,ZK.i IntKind.u64,ZK.i IntKind.u32,ZK.i IntKind.u8,ZK.i IntKind.u8,ZK.i IntKind.u8,ZK.i IntKind.u8,ZK.f,ZK.p,ZK.i IntKind.i32,ZK.i IntKind.i32]),
 (403,Ti.mk (Kd.struct [Av.Fd.mk 0 1 Bool.false 12,Av.Fd.mk 1 1 Bool.false 12,Av.Fd.mk 2 1 Bool.false 297,Av.Fd.mk 3 1 Bool.false 397,Av.Fd.mk 4 1 Bool.false 5,Av.Fd.mk 5 1 Bool.false 5,Av.Fd.mk 6 1 Bool.false 398,Av.Fd.mk 7 1 Bool.false 399,Av.Fd.mk 8 1 Bool.false 378,Av.Fd.mk 9 1 Bool.false 400,Av.Fd.mk 10 1 Bool.false 401]) 11 48 [ZK.i IntKind.u64,ZK.i IntKind.u64,ZK.i IntKind.u32,ZK.i IntKind.u8,ZK.i IntKind.u8,ZK.i IntKind.u8,ZK.i IntKind.u8,ZK.f,ZK.p,ZK.i IntKind.i32,ZK.i IntKind.i32])]
theorem Zb:chk Tryz.prog tt=true:=by kernel_rfl
theorem Ze:Tryz.prog.follows .mixedOrders=true:=by kernel_rfl
abbrev byE (l:List UInt8):D:=.sl .ext (l.map E.byte)
theorem YD (l:List UInt8):Uni 1 (l.map E.byte):=Uni.map (f:=E.byte) (fun _=>rfl) l
abbrev E.bys (l:List UInt8):E:=.sl (l.map E.byte)
abbrev XA (l:List (List UInt8)):D:=.sl .ext (l.map E.bys)
theorem KL (l:List (List UInt8)):Uni 1 (l.map E.bys):=Uni.map (f:=E.bys) (fun _=>rfl) l
theorem Uz [Known](b:List UInt8)(hb:b.length<=140737488351232):AP Tryz.prog 92 [byE b] (byE b) []:=by
 have hU:=YD b
 cases b with
 | nil=>
  refine AP.ofA (Zp Tryz.func92 Z Tryz.ntmps92 Z Z ?_)
  repeat'(first|(apply Ug Zb;(iterate 5 exact Z);intro b hbn)|(apply Zl Zb;exact Z)|(apply Zj Zb;exact Z)|(apply Zt Zb;exact Z)|(apply Yq;exact Z;all_goals intro hb)|refine V1 Zb Z Z Z Z Z Z Z Z Z Z Z Z ?_|refine ZN Zb Z Z Z Z Z Z ?_)
  all_goals(apply Zw [];(apply Zd Zb;exact Z);(iterate 4 exact Z))
  all_goals rfl
 | cons c b=>
  refine AP.ofA (Zp Tryz.func92 Z Tryz.ntmps92 Z Z ?_)
  repeat'(first|(apply Ug Zb;(iterate 5 exact Z);intro b hbn;(have hbn2:=hbn (List.cons_ne_nil _ _));subst hbn2;clear hbn)|(apply Zl Zb;exact Z)|(apply Zj Zb;exact Z)|(apply Zt Zb;exact Z)|(apply Zg;exact Z;(first|with_reducible assumption|(solve|simp only[bn])))|refine V1 Zb Z Z Z Z Z Z Z Z Z Z Z Z ?_|(apply ZJ Zb;(iterate 6 exact Z);(first|with_reducible assumption|exact Z|rotate_left);exact Z;exact Z;(first|exact Zk rfl|with_reducible assumption|rotate_left);(first|exact Zk rfl|with_reducible assumption|rotate_left);(first|exact Qb|rotate_left);(first|exact Qb|rotate_left);(first|exact Qb|rotate_left);exact Z;exact Z))
  all_goals first|(apply Zw [];(apply Zd Zb;exact Z);(iterate 4 exact Z))|skip
  all_goals first|rfl|(simp at hb ⊢;(try unfold maxLen);omega)
theorem W8 [Known](a b:List UInt8):AP Tryz.prog 85 [byE a,byE b] (.bool (a==b)) []:=by
 refine AP.ofA (Zp Tryz.func85 Z Tryz.ntmps85 Z Z ?_)
 repeat'(first|(apply Zl Zb;exact Z)|(apply Zj Zb;exact Z)|refine Z0 Zb Z Z Z Z Z Z Z Z Z ?_)
 all_goals(apply Zw [];(apply Zd Zb;exact Z);(iterate 4 exact Z))
 all_goals rfl
def okB (m:Nat)(c:UInt8):Bool:=(97<=c.toNat&&c.toNat<=122)||(48<=c.toNat&&c.toNat<=57)||c.toNat==45||c.toNat==m
theorem V2 {m:Nat}{c:UInt8}:okB m c=true ↔ (97<=(c.toNat:Int)/\(c.toNat:Int)<=122)\/(48<=(c.toNat:Int)/\(c.toNat:Int)<=57)\/(c.toNat:Int)=45\/(c.toNat:Int)=(m:Int):=by
 simp only[okB,Bool.or_eq_true,Bool.and_eq_true,decide_eq_true_eq,beq_iff_eq]
 omega
theorem Ox (s:ByteArray)(m:Nat)(hm:m<128)(w:World)(B:Bool)(hB:s.data.toList.all (okB m)=B) :
  Calls Tryz.prog 164 #[.string s,.int .i32 (m:Int)] w fun e w'=>e=.returned (.bool B)/\Below w.heap.size w w':=by
 have hT:(∀ j,j<s.size->∀ c,s.data.toList[j]?=some c->okB m c=true)->B=true:=fun h=>by
  rw[<- hB,List.all_eq_true]
  intro x hx
  obtain⟨j,hj⟩:=List.getElem?_of_mem hx
  have hlt:=(List.getElem?_eq_some_iff.1 hj).1
  exact h j (by simpa using hlt) x hj
 have hF:∀(j:Nat) (c:UInt8),s.data.toList[j]?=some c->¬ okB m c=true->B=false:=fun j c hj hc=>by
  rw[<- hB,List.all_eq_false]
  exact⟨c,List.mem_of_getElem? hj,hc⟩
 clear hB
 go_enter Tryz.func164,Tryz.ntmps164
 go_wp2
 go_loopw [] (fun w'=>∃ pos,w'=w.iter s pos/\pos<=s.size/\Hid (∀ j,j<pos->∀ c,s.data.toList[j]?=some c->okB m c=true)) (fun w'=>s.size-w'.iterPos w.heap.size)
 case atStart=>exact⟨0,rfl,Nat.zero_le _,fun j hj=>by omega⟩
 case round=>
  obtain⟨pos,rfl,hps,hall⟩:=hrel
  have hb:∀ p,Below w.heap.size w (w.iter s p):=fun p=>(Below.refl _ _).alloc (Nat.le_refl _) _
  by_cases hp:pos<s.size
  ·have hget:s.data.toList[pos]?=some (s[pos]'hp):=by
    have hlt:pos<s.data.toList.length:=by simpa using hp
    rw[List.getElem?_eq_getElem hlt];rfl
   by_cases ha:(s[pos]'hp).toNat<128
   ·obtain⟨c,hc⟩:∃ c,c=s[pos]'hp:=⟨_,rfl⟩
    have hnx:∀ ty,(Instr.next (.pointer (some ⟨w.heap.size,0,none⟩)) true ty).run Tryz.prog (w.iter s pos)=.ok (.tuple #[.bool true,.int .i64 pos,.int .i32 (c.toNat:Int)]) (w.iter s (pos+1)):=fun ty=>by
     rw[hc];exact run_next_ascii w s pos ty hp ha
    rw[<- hc]at hget ha
    clear hc
    have hbad:=hid (hF pos c hget)
    have hstep:Hid (okB m c=true->∀ j,j<pos+1->∀ c,s.data.toList[j]?=some c->okB m c=true):=fun hc j hj c' hj'=>by
     rcases Nat.lt_or_ge j pos with h|h
     ·exact hall j h c' hj'
     ·have:j=pos:=by omega
      subst this
      rw[hget]at hj'
      injection hj' with hj'
      subst hj'
      exact hc
    clear hT hF hget
    go_wp2
    all_goals first
     | (go_ret
        have hBf:=hbad (fun h=>by rw[V2]at h;clear hbad hstep hnx;(try simp only[bne_iff_ne,ne_eq,bne_eq_false_iff_eq]at *);omega)
        subst hBf
        exact⟨rfl,hb _⟩)
     | (refine⟨⟨pos+1,rfl,by omega,hstep ?_⟩,?_⟩
        ·rw[V2]
         clear hbad hstep hnx
         try simp only[bne_iff_ne,ne_eq,bne_eq_false_iff_eq]at *
         omega
        ·simp;omega)
   ·obtain⟨hd1,hd2⟩:=decode_high s pos hp (by omega)
    have hle:=decode_le s pos
    have hnx:∀ ty,(Instr.next (.pointer (some ⟨w.heap.size,0,none⟩)) true ty).run Tryz.prog (w.iter s pos)=_:=fun ty=>run_next_any w s pos ty hp
    have hBf:=hF pos _ hget (fun h=>by rw[V2]at h;omega)
    clear hT hF hget
    subst hBf
    generalize Utf8.decode s pos=dd at hd1 hd2 hle hnx
    have n1:¬ ((dd.1:Int)<97):=by omega
    have n2:((dd.1:Int)>122):=by omega
    have n3:¬ ((dd.1:Int)<48):=by omega
    have n4:((dd.1:Int)>57):=by omega
    have n5:¬ ((dd.1:Int)=45):=by omega
    have n6:¬ ((dd.1:Int)=(m:Int)):=by omega
    go_wp2
    all_goals first
     | (go_ret;exact⟨rfl,hb _⟩)
     | (exfalso;clear hnx hb hall;(try simp only[bne_iff_ne,ne_eq,bne_eq_false_iff_eq]at *);omega)
  ·have hnx:∀ ty,(Instr.next (.pointer (some ⟨w.heap.size,0,none⟩)) true ty).run Tryz.prog (w.iter s pos)=_:=fun ty=>run_next_end w s pos ty hp
   have hBt:=hT (fun j hj=>hall j (by omega))
   subst hBt
   go_wp2
   go_ret
   exact⟨rfl,hb _⟩
theorem KM [Known](s:List UInt8)(m:Nat)(hm:m<128):AP Tryz.prog 164 [.str s,.int .i32 (m:Int)] (.bool (s.all (okB m))) []:=by
 refine⟨fun g w vs hmem hl hv=>?_⟩
 obtain⟨v0,v1,rfl⟩:∃ v0 v1,vs=[v0,v1]:=by
  match vs,hl with
  | [v0,v1],_=>exact⟨v0,v1,rfl⟩
 have h0:=(hv 0 _ _ rfl rfl).str_inv.1
 have h1:=(hv 1 _ _ rfl rfl).int_inv
 subst h0 h1
 exact(Ox ⟨s.toArray⟩ m hm w _ rfl).mono fun e w' ⟨he,hb⟩=>Uw hmem hb he (.bool _)
structure EidV where
 i:Bool
 n:Nat
 s:Nat
 h:List UInt8
 d:List UInt8
 deriving DecidableEq
abbrev eC (x:EidV):List D:=[.bool x.i,.int .u64 (x.n:Int),.int .u64 (x.s:Int),.str x.h,.str x.d]
def Zx:EidV:=⟨false,0,0,[],[]⟩
def isZ (x:EidV):Bool:=x.i==false&&((x.n:Int)==0&&((x.s:Int)==0&&(x.h==[]&&(x.d==[]&&true))))
def ZY (x:EidV):Bool:=
 if isZ x then true
 else if x.i then(x.i==true&&((x.n:Int)==(x.n:Int)&&((x.s:Int)==(x.s:Int)&&(x.h==[]&&(x.d==[]&&true)))))&&decide ((x.n:Int) ≥ 1)&&decide ((x.n:Int)<=4294967295)&&decide ((x.s:Int)<=4294967295)
 else(x.i==false&&((x.n:Int)==0&&((x.s:Int)==0&&(x.h==x.h&&(x.d==x.d&&true)))))&&decide ((x.h.length:Int) ≥ 1)&&decide ((x.h.length:Int)<=16)&&decide ((x.d.length:Int)<=24)&&x.h.all (okB 45)&&x.d.all (okB 47)
theorem KN {x:EidV}(h:isZ x=true):ZY x=true:=by unfold ZY;rw[if_pos h]
theorem Xc {x:EidV}(h:isZ x=false)(hi:x.i=true):ZY x=((x.i==true&&((x.n:Int)==(x.n:Int)&&((x.s:Int)==(x.s:Int)&&(x.h==[]&&(x.d==[]&&true)))))&&decide ((x.n:Int) ≥ 1)&&decide ((x.n:Int)<=4294967295)&&decide ((x.s:Int)<=4294967295)):=by
 unfold ZY;rw[if_neg (by rw[h];decide),if_pos hi]
theorem Xd {x:EidV}(h:isZ x=false)(hi:x.i=false):ZY x=((x.i==false&&((x.n:Int)==0&&((x.s:Int)==0&&(x.h==x.h&&(x.d==x.d&&true)))))&&decide ((x.h.length:Int) ≥ 1)&&decide ((x.h.length:Int)<=16)&&decide ((x.d.length:Int)<=24)&&x.h.all (okB 45)&&x.d.all (okB 47)):=by
 unfold ZY;rw[if_neg (by rw[h];decide),if_neg (by rw[hi];decide)]
theorem QA [Known](x:EidV):AP Tryz.prog 140 [.agg (eC x)] (.bool (ZY x)) []:=by
 refine AP.ofA (Zp Tryz.func140 Z Tryz.ntmps140 Z Z ?_)
 cases hz:isZ x with
 | true=>
  rw[KN hz]
  unfold isZ at hz
  repeat'(first|(apply Zl Zb;exact Z)|(apply Zj Zb;exact Z)|(apply Zt Zb;exact Z)|(apply Zf;exact Z;(first|with_reducible assumption|(solve|simp only[bn])))|refine We Zb Z Z Z Z Qk Qk Z Z Z ?_)
  (apply Zw [];(apply Zd Zb;exact Z);(iterate 4 exact Z))
  all_goals rfl
 | false=>
  cases hi:x.i with
  | true=>
   rw[Xc hz hi]
   unfold isZ at hz
   repeat'(first|(apply Zl Zb;exact Z)|(apply Zj Zb;exact Z)|(apply Zt Zb;exact Z)|(apply Zi;(iterate 3 exact Z);(first|with_reducible assumption|(solve|simp only[bn])))|(apply Zs;(iterate 3 exact Z);(first|with_reducible assumption|(solve|simp only[bn])))|(apply ZZ;exact Z;exact Z;all_goals intro hb)|(apply Zo;exact Z;(first|with_reducible assumption|(solve|simp only[bn]));exact Z;exact Z)|(apply Zn;exact Z;(first|with_reducible assumption|(solve|simp only[bn]));exact Z;exact Z)|(apply Zf;exact Z;(first|with_reducible assumption|(solve|simp only[bn])))|(apply Zg;exact Z;(first|with_reducible assumption|(solve|simp only[bn])))|refine We Zb Z Z Z Z Qk Qk Z Z Z ?_)
   all_goals(apply Zw [];(apply Zd Zb;exact Z);(iterate 4 exact Z))
   all_goals first|rfl|(clear hi hz;simp only[*];done)|(clear hi hz;simp only[*];simp only[Bool.and_true,Bool.true_and,Bool.and_false,Bool.false_and];done)
  | false=>
   rw[Xd hz hi]
   unfold isZ at hz
   repeat'(first|(apply Zc (KM x.h 45 (by decide));kernel_rfl;(iterate 4 exact Z))|(apply Zc (KM x.d 47 (by decide));kernel_rfl;(iterate 4 exact Z))|(apply Zl Zb;exact Z)|(apply Zj Zb;exact Z)|(apply Zt Zb;exact Z)|(apply Zi;(iterate 3 exact Z);(first|with_reducible assumption|(solve|simp only[bn])))|(apply Zs;(iterate 3 exact Z);(first|with_reducible assumption|(solve|simp only[bn])))|(apply ZZ;exact Z;exact Z;all_goals intro hb)|(apply Zo;exact Z;(first|with_reducible assumption|(solve|simp only[bn]));exact Z;exact Z)|(apply Zn;exact Z;(first|with_reducible assumption|(solve|simp only[bn]));exact Z;exact Z)|(apply Zg;exact Z;(first|with_reducible assumption|(solve|simp only[bn])))|refine ZG Zb Z Z Z Z ?_|refine We Zb Z Z Z Z Qk Qk Z Z Z ?_)
   all_goals(apply Zw [];(apply Zd Zb;exact Z);(iterate 4 exact Z))
   all_goals first|rfl|(clear hi hz;simp only[*];done)|(clear hi hz;simp only[*];simp only[Bool.and_true,Bool.true_and,Bool.and_false,Bool.false_and];done)
end Go.Proofs.YtchlgagdbflkmaaGreatDoor
end
section
open Go.RowKit Go.Pl Go.Av
namespace Go.Proofs.YtchlgagdbflkmaaGreatDoor
theorem Qe {p:Prop}(h:p:=by(apply Zw [];(apply Zd Zb;exact Z);(iterate 4 exact Z));all_goals rfl):p:=h
end Go.Proofs.YtchlgagdbflkmaaGreatDoor
end
