/- The types of this seat's program, laid open: which kind each is of, its size, its zero. -/
import Derived.Test.YtakblclkflnnpaaDoorG03
import Derived.Test.YtakblclkflnnpaaDoorProg
import Derived.Test.YtakblclkflnnpaaDoorG09
import Derived.Test.YtakblclkflnnpaaDoorG01
set_option linter.unusedVariables false
set_option linter.unusedSimpArgs false
section
open Go.RowKit Go.Pl Go.Av
namespace Go.Proofs.YtakblclkflnnpaaDoor
def tt:Tab:=[(1,Ti.mk Kd.func 1 8 [ZK.f]),
 (2,Ti.mk (Kd.int IntKind.i64) 1 8 [ZK.i IntKind.i64]),
 (3,Ti.mk (Kd.int IntKind.i64) 1 8 [ZK.i IntKind.i64]),
 (4,Ti.mk Kd.bool 1 1 [ZK.b]),
 (5,Ti.mk (Kd.int IntKind.u8) 1 1 [ZK.i IntKind.u8]),
 (6,Ti.mk (Kd.int IntKind.u8) 1 1 [ZK.i IntKind.u8]),
 (7,Ti.mk (Kd.struct [Av.Fd.mk 0 1 Bool.false 2,Av.Fd.mk 1 1 Bool.false 3,Av.Fd.mk 2 1 Bool.false 4,Av.Fd.mk 3 1 Bool.false 6]) 4 24 [ZK.i IntKind.i64,ZK.i IntKind.i64,ZK.b,ZK.i IntKind.u8]),
 (8,Ti.mk (Kd.struct [Av.Fd.mk 0 1 Bool.false 2,Av.Fd.mk 1 1 Bool.false 3,Av.Fd.mk 2 1 Bool.false 4,Av.Fd.mk 3 1 Bool.false 6]) 4 24 [ZK.i IntKind.i64,ZK.i IntKind.i64,ZK.b,ZK.i IntKind.u8]),
 (9,Ti.mk Kd.str 1 16 [ZK.s]),
 (10,Ti.mk Kd.str 1 16 [ZK.s]),
 (11,Ti.mk Kd.str 1 16 [ZK.s]),
 (12,Ti.mk (Kd.int IntKind.u64) 1 8 [ZK.i IntKind.u64]),
 (13,Ti.mk (Kd.struct [Av.Fd.mk 0 1 Bool.false 9,Av.Fd.mk 1 1 Bool.false 12]) 2 24 [ZK.s,ZK.i IntKind.u64]),
 (14,Ti.mk (Kd.struct [Av.Fd.mk 0 1 Bool.false 9,Av.Fd.mk 1 1 Bool.false 12]) 2 24 [ZK.s,ZK.i IntKind.u64]),
 (15,Ti.mk (Kd.ptr 195) 1 8 [ZK.p]),
 (16,Ti.mk (Kd.ptr 198) 1 8 [ZK.p]),
 (17,Ti.mk (Kd.ptr 207) 1 8 [ZK.p]),
 (18,Ti.mk (Kd.struct [Av.Fd.mk 0 1 Bool.false 17]) 1 8 [ZK.p]),
 (19,Ti.mk (Kd.struct [Av.Fd.mk 0 1 Bool.false 17]) 1 8 [ZK.p]),
 (20,Ti.mk Kd.iface 1 16 [ZK.n]),
 (21,Ti.mk (Kd.int IntKind.i32) 1 4 [ZK.i IntKind.i32]),
 (22,Ti.mk (Kd.int IntKind.u64) 1 8 [ZK.i IntKind.u64]),
 (23,Ti.mk (Kd.slice 5) 1 24 [ZK.l]),
 (24,Ti.mk (Kd.slice 26) 1 24 [ZK.l]),
 (25,Ti.mk (Kd.struct [Av.Fd.mk 0 1 Bool.false 3,Av.Fd.mk 1 1 Bool.false 22,Av.Fd.mk 2 1 Bool.false 23,Av.Fd.mk 3 1 Bool.false 24]) 4 64 [ZK.i IntKind.i64,ZK.i IntKind.u64,ZK.l,ZK.l]),
 (26,Ti.mk (Kd.struct [Av.Fd.mk 0 1 Bool.false 3,Av.Fd.mk 1 1 Bool.false 22,Av.Fd.mk 2 1 Bool.false 23,Av.Fd.mk 3 1 Bool.false 24]) 4 64 [ZK.i IntKind.i64,ZK.i IntKind.u64,ZK.l,ZK.l]),
 (27,Ti.mk Kd.func 1 8 [ZK.f]),
 (28,Ti.mk Kd.func 1 8 [ZK.f]),
 (29,Ti.mk (Kd.int IntKind.i64) 1 8 [ZK.i IntKind.i64]),
 (31,Ti.mk Kd.func 1 8 [ZK.f]),
 (32,Ti.mk (Kd.slice 34) 1 24 [ZK.l]),
 (33,Ti.mk (Kd.struct [Av.Fd.mk 0 1 Bool.false 3,Av.Fd.mk 1 1 Bool.false 22,Av.Fd.mk 2 1 Bool.false 23,Av.Fd.mk 3 1 Bool.false 32]) 4 64 [ZK.i IntKind.i64,ZK.i IntKind.u64,ZK.l,ZK.l]),
 (34,Ti.mk (Kd.struct [Av.Fd.mk 0 1 Bool.false 3,Av.Fd.mk 1 1 Bool.false 22,Av.Fd.mk 2 1 Bool.false 23,Av.Fd.mk 3 1 Bool.false 32]) 4 64 [ZK.i IntKind.i64,ZK.i IntKind.u64,ZK.l,ZK.l]),
 (36,Ti.mk Kd.func 1 8 [ZK.f]),
 (37,Ti.mk Kd.func 1 8 [ZK.f]),
 (39,Ti.mk Kd.func 1 8 [ZK.f]),
 (41,Ti.mk Kd.func 1 8 [ZK.f]),
 (42,Ti.mk Kd.func 1 8 [ZK.f]),
 (43,Ti.mk Kd.func 1 8 [ZK.f]),
 (44,Ti.mk Kd.func 1 8 [ZK.f]),
 (45,Ti.mk (Kd.struct [Av.Fd.mk 0 1 Bool.false 4,Av.Fd.mk 1 1 Bool.false 22,Av.Fd.mk 2 1 Bool.false 22,Av.Fd.mk 3 1 Bool.false 9,Av.Fd.mk 4 1 Bool.false 9]) 5 56 [ZK.b,ZK.i IntKind.u64,ZK.i IntKind.u64,ZK.s,ZK.s]),
 (46,Ti.mk (Kd.struct [Av.Fd.mk 0 1 Bool.false 4,Av.Fd.mk 1 1 Bool.false 22,Av.Fd.mk 2 1 Bool.false 22,Av.Fd.mk 3 1 Bool.false 9,Av.Fd.mk 4 1 Bool.false 9]) 5 56 [ZK.b,ZK.i IntKind.u64,ZK.i IntKind.u64,ZK.s,ZK.s]),
 (47,Ti.mk (Kd.struct [Av.Fd.mk 0 5 Bool.true 46,Av.Fd.mk 5 1 Bool.false 22,Av.Fd.mk 6 1 Bool.false 22]) 7 72 [ZK.b,ZK.i IntKind.u64,ZK.i IntKind.u64,ZK.s,ZK.s,ZK.i IntKind.u64,ZK.i IntKind.u64]),
 (48,Ti.mk (Kd.struct [Av.Fd.mk 0 5 Bool.true 46,Av.Fd.mk 5 1 Bool.false 22,Av.Fd.mk 6 1 Bool.false 22]) 7 72 [ZK.b,ZK.i IntKind.u64,ZK.i IntKind.u64,ZK.s,ZK.s,ZK.i IntKind.u64,ZK.i IntKind.u64]),
 (49,Ti.mk (Kd.struct [Av.Fd.mk 0 1 Bool.false 4,Av.Fd.mk 1 1 Bool.false 4,Av.Fd.mk 2 1 Bool.false 4,Av.Fd.mk 3 1 Bool.false 22,Av.Fd.mk 4 1 Bool.false 22,Av.Fd.mk 5 7 Bool.true 48]) 12 96 [ZK.b,ZK.b,ZK.b,ZK.i IntKind.u64,ZK.i IntKind.u64,ZK.b,ZK.i IntKind.u64,ZK.i IntKind.u64,ZK.s,ZK.s,ZK.i IntKind.u64,ZK.i IntKind.u64]),
 (50,Ti.mk (Kd.struct [Av.Fd.mk 0 1 Bool.false 4,Av.Fd.mk 1 1 Bool.false 4,Av.Fd.mk 2 1 Bool.false 4,Av.Fd.mk 3 1 Bool.false 22,Av.Fd.mk 4 1 Bool.false 22,Av.Fd.mk 5 7 Bool.true 48]) 12 96 [ZK.b,ZK.b,ZK.b,ZK.i IntKind.u64,ZK.i IntKind.u64,ZK.b,ZK.i IntKind.u64,ZK.i IntKind.u64,ZK.s,ZK.s,ZK.i IntKind.u64,ZK.i IntKind.u64]),
 (51,Ti.mk (Kd.struct [Av.Fd.mk 0 1 Bool.false 22,Av.Fd.mk 1 1 Bool.false 3,Av.Fd.mk 2 5 Bool.true 46,Av.Fd.mk 7 5 Bool.true 46,Av.Fd.mk 12 7 Bool.true 48,Av.Fd.mk 19 1 Bool.false 22]) 20 208 [ZK.i IntKind.u64,ZK.i IntKind.i64,ZK.b,ZK.i IntKind.u64,ZK.i IntKind.u64,ZK.s,ZK.s,ZK.b,ZK.i IntKind.u64,ZK.i IntKind.u64,ZK.s,ZK.s,ZK.b,ZK.i IntKind.u64,ZK.i IntKind.u64,ZK.s,ZK.s,ZK.i IntKind.u64,ZK.i IntKind.u64,ZK.i IntKind.u64]),
 (52,Ti.mk (Kd.struct [Av.Fd.mk 0 1 Bool.false 22,Av.Fd.mk 1 1 Bool.false 3,Av.Fd.mk 2 5 Bool.true 46,Av.Fd.mk 7 5 Bool.true 46,Av.Fd.mk 12 7 Bool.true 48,Av.Fd.mk 19 1 Bool.false 22]) 20 208 [ZK.i IntKind.u64,ZK.i IntKind.i64,ZK.b,ZK.i IntKind.u64,ZK.i IntKind.u64,ZK.s,ZK.s,ZK.b,ZK.i IntKind.u64,ZK.i IntKind.u64,ZK.s,ZK.s,ZK.b,ZK.i IntKind.u64,ZK.i IntKind.u64,ZK.s,ZK.s,ZK.i IntKind.u64,ZK.i IntKind.u64,ZK.i IntKind.u64]),
 (53,Ti.mk (Kd.slice 60) 1 24 [ZK.l]),
 (54,Ti.mk (Kd.struct [Av.Fd.mk 0 20 Bool.true 52,Av.Fd.mk 20 1 Bool.false 53]) 21 232 [ZK.i IntKind.u64,ZK.i IntKind.i64,ZK.b,ZK.i IntKind.u64,ZK.i IntKind.u64,ZK.s,ZK.s,ZK.b,ZK.i IntKind.u64,ZK.i IntKind.u64,ZK.s,ZK.s,ZK.b,ZK.i IntKind.u64,ZK.i IntKind.u64,ZK.s,ZK.s,ZK.i IntKind.u64,ZK.i IntKind.u64,ZK.i IntKind.u64,ZK.l]),
 (55,Ti.mk (Kd.struct [Av.Fd.mk 0 20 Bool.true 52,Av.Fd.mk 20 1 Bool.false 53]) 21 232 [ZK.i IntKind.u64,ZK.i IntKind.i64,ZK.b,ZK.i IntKind.u64,ZK.i IntKind.u64,ZK.s,ZK.s,ZK.b,ZK.i IntKind.u64,ZK.i IntKind.u64,ZK.s,ZK.s,ZK.b,ZK.i IntKind.u64,ZK.i IntKind.u64,ZK.s,ZK.s,ZK.i IntKind.u64,ZK.i IntKind.u64,ZK.i IntKind.u64,ZK.l]),
 (57,Ti.mk Kd.func 1 8 [ZK.f]),
 (58,Ti.mk Kd.func 1 8 [ZK.f]),
 (59,Ti.mk (Kd.struct [Av.Fd.mk 0 1 Bool.false 22,Av.Fd.mk 1 1 Bool.false 22,Av.Fd.mk 2 1 Bool.false 22,Av.Fd.mk 3 1 Bool.false 3,Av.Fd.mk 4 1 Bool.false 23]) 5 56 [ZK.i IntKind.u64,ZK.i IntKind.u64,ZK.i IntKind.u64,ZK.i IntKind.i64,ZK.l]),
 (60,Ti.mk (Kd.struct [Av.Fd.mk 0 1 Bool.false 22,Av.Fd.mk 1 1 Bool.false 22,Av.Fd.mk 2 1 Bool.false 22,Av.Fd.mk 3 1 Bool.false 3,Av.Fd.mk 4 1 Bool.false 23]) 5 56 [ZK.i IntKind.u64,ZK.i IntKind.u64,ZK.i IntKind.u64,ZK.i IntKind.i64,ZK.l]),
 (62,Ti.mk Kd.func 1 8 [ZK.f]),
 (63,Ti.mk Kd.func 1 8 [ZK.f]),
 (65,Ti.mk Kd.func 1 8 [ZK.f]),
 (66,Ti.mk Kd.func 1 8 [ZK.f]),
 (67,Ti.mk Kd.func 1 8 [ZK.f]),
 (68,Ti.mk Kd.func 1 8 [ZK.f]),
 (69,Ti.mk Kd.func 1 8 [ZK.f]),
 (71,Ti.mk Kd.func 1 8 [ZK.f]),
 (72,Ti.mk Kd.func 1 8 [ZK.f]),
 (73,Ti.mk Kd.func 1 8 [ZK.f]),
 (74,Ti.mk Kd.func 1 8 [ZK.f]),
 (75,Ti.mk Kd.func 1 8 [ZK.f]),
 (76,Ti.mk Kd.func 1 8 [ZK.f]),
 (77,Ti.mk Kd.func 1 8 [ZK.f]),
 (78,Ti.mk Kd.func 1 8 [ZK.f]),
 (79,Ti.mk Kd.func 1 8 [ZK.f]),
 (81,Ti.mk Kd.func 1 8 [ZK.f]),
 (82,Ti.mk Kd.func 1 8 [ZK.f]),
 (83,Ti.mk Kd.func 1 8 [ZK.f]),
 (84,Ti.mk Kd.func 1 8 [ZK.f]),
 (85,Ti.mk Kd.func 1 8 [ZK.f]),
 (86,Ti.mk Kd.func 1 8 [ZK.f]),
 (87,Ti.mk Kd.func 1 8 [ZK.f]),
 (88,Ti.mk Kd.func 1 8 [ZK.f]),
 (89,Ti.mk Kd.func 1 8 [ZK.f]),
 (90,Ti.mk Kd.func 1 8 [ZK.f]),
 (91,Ti.mk Kd.func 1 8 [ZK.f]),
 (93,Ti.mk Kd.func 1 8 [ZK.f]),
 (95,Ti.mk Kd.func 1 8 [ZK.f]),
 (97,Ti.mk Kd.func 1 8 [ZK.f]),
 (98,Ti.mk Kd.func 1 8 [ZK.f]),
 (99,Ti.mk Kd.func 1 8 [ZK.f]),
 (100,Ti.mk Kd.func 1 8 [ZK.f]),
 (102,Ti.mk Kd.func 1 8 [ZK.f]),
 (104,Ti.mk Kd.func 1 8 [ZK.f]),
 (105,Ti.mk Kd.func 1 8 [ZK.f]),
 (106,Ti.mk Kd.func 1 8 [ZK.f]),
 (107,Ti.mk Kd.func 1 8 [ZK.f]),
 (108,Ti.mk Kd.func 1 8 [ZK.f]),
 (109,Ti.mk (Kd.int IntKind.u16) 1 2 [ZK.i IntKind.u16]),
 (110,Ti.mk Kd.func 1 8 [ZK.f]),
 (111,Ti.mk (Kd.int IntKind.u64) 1 8 [ZK.i IntKind.u64]),
 (112,Ti.mk (Kd.int IntKind.u32) 1 4 [ZK.i IntKind.u32]),
 (113,Ti.mk Kd.func 1 8 [ZK.f]),
 (114,Ti.mk Kd.func 1 8 [ZK.f]),
 (115,Ti.mk Kd.func 1 8 [ZK.f]),
 (116,Ti.mk Kd.func 1 8 [ZK.f]),
 (117,Ti.mk Kd.func 1 8 [ZK.f]),
 (118,Ti.mk Kd.func 1 8 [ZK.f]),
 (119,Ti.mk Kd.func 1 8 [ZK.f]),
 (120,Ti.mk Kd.func 1 8 [ZK.f]),
 (121,Ti.mk Kd.func 1 8 [ZK.f]),
 (122,Ti.mk Kd.func 1 8 [ZK.f]),
 (123,Ti.mk Kd.func 1 8 [ZK.f]),
 (124,Ti.mk Kd.func 1 8 [ZK.f]),
 (125,Ti.mk (Kd.struct [Av.Fd.mk 0 1 Bool.false 29]) 1 8 [ZK.i IntKind.i64]),
 (126,Ti.mk (Kd.struct [Av.Fd.mk 0 1 Bool.false 29]) 1 8 [ZK.i IntKind.i64]),
 (128,Ti.mk (Kd.ptr 130) 1 8 [ZK.p]),
 (129,Ti.mk (Kd.struct [Av.Fd.mk 0 1 Bool.false 23,Av.Fd.mk 1 1 Bool.false 3,Av.Fd.mk 2 1 Bool.false 3]) 3 40 [ZK.l,ZK.i IntKind.i64,ZK.i IntKind.i64]),
 (130,Ti.mk (Kd.struct [Av.Fd.mk 0 1 Bool.false 23,Av.Fd.mk 1 1 Bool.false 3,Av.Fd.mk 2 1 Bool.false 3]) 3 40 [ZK.l,ZK.i IntKind.i64,ZK.i IntKind.i64]),
 (131,Ti.mk Kd.func 1 8 [ZK.f]),
 (132,Ti.mk Kd.func 1 8 [ZK.f]),
 (133,Ti.mk Kd.func 1 8 [ZK.f]),
 (134,Ti.mk Kd.func 1 8 [ZK.f]),
 (136,Ti.mk Kd.func 1 8 [ZK.f]),
 (137,Ti.mk (Kd.slice 22) 1 24 [ZK.l]),
 (139,Ti.mk Kd.func 1 8 [ZK.f]),
 (140,Ti.mk Kd.func 1 8 [ZK.f]),
 (141,Ti.mk Kd.func 1 8 [ZK.f]),
 (142,Ti.mk (Kd.struct [Av.Fd.mk 0 1 Bool.false 3,Av.Fd.mk 1 1 Bool.false 22,Av.Fd.mk 2 1 Bool.false 4]) 3 24 [ZK.i IntKind.i64,ZK.i IntKind.u64,ZK.b]),
 (143,Ti.mk (Kd.struct [Av.Fd.mk 0 1 Bool.false 3,Av.Fd.mk 1 1 Bool.false 22,Av.Fd.mk 2 1 Bool.false 4]) 3 24 [ZK.i IntKind.i64,ZK.i IntKind.u64,ZK.b]),
 (144,Ti.mk Kd.func 1 8 [ZK.f]),
 (145,Ti.mk Kd.func 1 8 [ZK.f]),
 (146,Ti.mk (Kd.slice 4) 1 24 [ZK.l]),
 (147,Ti.mk Kd.func 1 8 [ZK.f]),
 (148,Ti.mk Kd.func 1 8 [ZK.f]),
 (149,Ti.mk Kd.func 1 8 [ZK.f]),
 (150,Ti.mk (Kd.struct [Av.Fd.mk 0 1 Bool.false 3,Av.Fd.mk 1 1 Bool.false 22,Av.Fd.mk 2 1 Bool.false 4]) 3 24 [ZK.i IntKind.i64,ZK.i IntKind.u64,ZK.b]),
 (151,Ti.mk Kd.func 1 8 [ZK.f]),
 (152,Ti.mk Kd.func 1 8 [ZK.f]),
 (153,Ti.mk Kd.func 1 8 [ZK.f]),
 (154,Ti.mk Kd.func 1 8 [ZK.f]),
 (155,Ti.mk Kd.func 1 8 [ZK.f]),
 (157,Ti.mk Kd.func 1 8 [ZK.f]),
 (159,Ti.mk Kd.func 1 8 [ZK.f]),
 (160,Ti.mk Kd.func 1 8 [ZK.f]),
 (161,Ti.mk Kd.func 1 8 [ZK.f]),
 (162,Ti.mk Kd.func 1 8 [ZK.f]),
 (163,Ti.mk Kd.func 1 8 [ZK.f]),
 (164,Ti.mk Kd.func 1 8 [ZK.f]),
 (165,Ti.mk Kd.func 1 8 [ZK.f]),
 (166,Ti.mk Kd.func 1 8 [ZK.f]),
 (168,Ti.mk Kd.func 1 8 [ZK.f]),
 (170,Ti.mk Kd.func 1 8 [ZK.f]),
 (172,Ti.mk Kd.func 1 8 [ZK.f]),
 (173,Ti.mk Kd.func 1 8 [ZK.f]),
 (174,Ti.mk Kd.func 1 8 [ZK.f]),
 (175,Ti.mk (Kd.array 256 5) 256 256 [ZK.i IntKind.u8,ZK.i IntKind.u8,ZK.i IntKind.u8,ZK.i IntKind.u8,ZK.i IntKind.u8,ZK.i IntKind.u8,ZK.i IntKind.u8,ZK.i IntKind.u8,ZK.i IntKind.u8,ZK.i IntKind.u8,ZK.i IntKind.u8,ZK.i IntKind.u8,ZK.i IntKind.u8,ZK.i IntKind.u8,ZK.i IntKind.u8,ZK.i IntKind.u8,ZK.i IntKind.u8,ZK.i IntKind.u8,ZK.i IntKind.u8,ZK.i IntKind.u8,ZK.i IntKind.u8,ZK.i IntKind.u8,ZK.i IntKind.u8,ZK.i IntKind.u8,ZK.i IntKind.u8,ZK.i IntKind.u8,ZK.i IntKind.u8,ZK.i IntKind.u8,ZK.i IntKind.u8,ZK.i IntKind.u8,ZK.i IntKind.u8,ZK.i IntKind.u8,ZK.i IntKind.u8,ZK.i IntKind.u8,ZK.i IntKind.u8,ZK.i IntKind.u8,ZK.i IntKind.u8,ZK.i IntKind.u8,ZK.i IntKind.u8,ZK.i IntKind.u8,ZK.i IntKind.u8,ZK.i IntKind.u8,ZK.i IntKind.u8,ZK.i IntKind.u8,ZK.i IntKind.u8,ZK.i IntKind.u8,ZK.i IntKind.u8,ZK.i IntKind.u8,ZK.i IntKind.u8,ZK.i IntKind.u8,ZK.i IntKind.u8,ZK.i IntKind.u8,ZK.i IntKind.u8,ZK.i IntKind.u8,ZK.i IntKind.u8,ZK.i IntKind.u8,ZK.i IntKind.u8,ZK.i IntKind.u8,ZK.i IntKind.u8,ZK.i IntKind.u8,ZK.i IntKind.u8,ZK.i IntKind.u8,ZK.i IntKind.u8,ZK.i IntKind.u8,ZK.i IntKind.u8,ZK.i IntKind.u8,ZK.i IntKind.u8,ZK.i IntKind.u8,ZK.i IntKind.u8,ZK.i IntKind.u8,ZK.i IntKind.u8,ZK.i IntKind.u8,ZK.i IntKind.u8,ZK.i IntKind.u8,ZK.i IntKind.u8,ZK.i IntKind.u8,ZK.i IntKind.u8,ZK.i IntKind.u8,ZK.i IntKind.u8,ZK.i IntKind.u8,ZK.i IntKind.u8,ZK.i IntKind.u8,ZK.i IntKind.u8,ZK.i IntKind.u8,ZK.i IntKind.u8,ZK.i IntKind.u8,ZK.i IntKind.u8,ZK.i IntKind.u8,ZK.i IntKind.u8,ZK.i IntKind.u8,ZK.i IntKind.u8,ZK.i IntKind.u8,ZK.i IntKind.u8,ZK.i IntKind.u8,ZK.i IntKind.u8,ZK.i IntKind.u8,ZK.i IntKind.u8,ZK.i IntKind.u8,ZK.i IntKind.u8,ZK.i IntKind.u8,ZK.i IntKind.u8,ZK.i IntKind.u8,ZK.i IntKind.u8,ZK.i IntKind.u8,ZK.i IntKind.u8,ZK.i IntKind.u8,ZK.i IntKind.u8,ZK.i IntKind.u8,ZK.i IntKind.u8,ZK.i IntKind.u8,ZK.i IntKind.u8,ZK.i IntKind.u8,ZK.i IntKind.u8,ZK.i IntKind.u8,ZK.i IntKind.u8,ZK.i IntKind.u8,ZK.i IntKind.u8,ZK.i IntKind.u8,ZK.i IntKind.u8,ZK.i IntKind.u8,ZK.i IntKind.u8,ZK.i IntKind.u8,ZK.i IntKind.u8,ZK.i IntKind.u8,ZK.i IntKind.u8,ZK.i IntKind.u8,ZK.i IntKind.u8,ZK.i IntKind.u8,ZK.i IntKind.u8,ZK.i IntKind.u8,ZK.i IntKind.u8,ZK.i IntKind.u8,ZK.i IntKind.u8,ZK.i IntKind.u8,ZK.i IntKind.u8,ZK.i IntKind.u8,ZK.i IntKind.u8,ZK.i IntKind.u8,ZK.i IntKind.u8,ZK.i IntKind.u8,ZK.i IntKind.u8,ZK.i IntKind.u8,ZK.i IntKind.u8,ZK.i IntKind.u8,ZK.i IntKind.u8,ZK.i IntKind.u8,ZK.i IntKind.u8,ZK.i IntKind.u8,ZK.i IntKind.u8,ZK.i IntKind.u8,ZK.i IntKind.u8,ZK.i IntKind.u8,ZK.i IntKind.u8,ZK.i IntKind.u8,ZK.i IntKind.u8,ZK.i IntKind.u8,ZK.i IntKind.u8,ZK.i IntKind.u8,ZK.i IntKind.u8,ZK.i IntKind.u8,ZK.i IntKind.u8,ZK.i IntKind.u8,ZK.i IntKind.u8,ZK.i IntKind.u8,ZK.i IntKind.u8,ZK.i IntKind.u8,ZK.i IntKind.u8,ZK.i IntKind.u8,ZK.i IntKind.u8,ZK.i IntKind.u8,ZK.i IntKind.u8,ZK.i IntKind.u8,ZK.i IntKind.u8,ZK.i IntKind.u8,ZK.i IntKind.u8,ZK.i IntKind.u8,ZK.i IntKind.u8,ZK.i IntKind.u8,ZK.i IntKind.u8,ZK.i IntKind.u8,ZK.i IntKind.u8,ZK.i IntKind.u8,ZK.i IntKind.u8,ZK.i IntKind.u8,ZK.i IntKind.u8,ZK.i IntKind.u8,ZK.i IntKind.u8,ZK.i IntKind.u8,ZK.i IntKind.u8,ZK.i IntKind.u8,ZK.i IntKind.u8,ZK.i IntKind.u8,ZK.i IntKind.u8,ZK.i IntKind.u8,ZK.i IntKind.u8,ZK.i IntKind.u8,ZK.i IntKind.u8,ZK.i IntKind.u8,ZK.i IntKind.u8,ZK.i IntKind.u8,ZK.i IntKind.u8,ZK.i IntKind.u8,ZK.i IntKind.u8,ZK.i IntKind.u8,ZK.i IntKind.u8,ZK.i IntKind.u8,ZK.i IntKind.u8,ZK.i IntKind.u8,ZK.i IntKind.u8,ZK.i IntKind.u8,ZK.i IntKind.u8,ZK.i IntKind.u8,ZK.i IntKind.u8,ZK.i IntKind.u8,ZK.i IntKind.u8,ZK.i IntKind.u8,ZK.i IntKind.u8,ZK.i IntKind.u8,ZK.i IntKind.u8,ZK.i IntKind.u8,ZK.i IntKind.u8,ZK.i IntKind.u8,ZK.i IntKind.u8,ZK.i IntKind.u8,ZK.i IntKind.u8,ZK.i IntKind.u8,ZK.i IntKind.u8,ZK.i IntKind.u8,ZK.i IntKind.u8,ZK.i IntKind.u8,ZK.i IntKind.u8,ZK.i IntKind.u8,ZK.i IntKind.u8,ZK.i IntKind.u8,ZK.i IntKind.u8,ZK.i IntKind.u8,ZK.i IntKind.u8,ZK.i IntKind.u8,ZK.i IntKind.u8,ZK.i IntKind.u8,ZK.i IntKind.u8,ZK.i IntKind.u8,ZK.i IntKind.u8,ZK.i IntKind.u8,ZK.i IntKind.u8,ZK.i IntKind.u8,ZK.i IntKind.u8,ZK.i IntKind.u8,ZK.i IntKind.u8,ZK.i IntKind.u8,ZK.i IntKind.u8,ZK.i IntKind.u8,ZK.i IntKind.u8,ZK.i IntKind.u8,ZK.i IntKind.u8,ZK.i IntKind.u8]),
 (176,Ti.mk (Kd.struct [Av.Fd.mk 0 1 Bool.false 5,Av.Fd.mk 1 1 Bool.false 5]) 2 2 [ZK.i IntKind.u8,ZK.i IntKind.u8]),
 (177,Ti.mk (Kd.struct [Av.Fd.mk 0 1 Bool.false 5,Av.Fd.mk 1 1 Bool.false 5]) 2 2 [ZK.i IntKind.u8,ZK.i IntKind.u8]),
 (178,Ti.mk (Kd.array 16 177) 32 32 [ZK.i IntKind.u8,ZK.i IntKind.u8,ZK.i IntKind.u8,ZK.i IntKind.u8,ZK.i IntKind.u8,ZK.i IntKind.u8,ZK.i IntKind.u8,ZK.i IntKind.u8,ZK.i IntKind.u8,ZK.i IntKind.u8,ZK.i IntKind.u8,ZK.i IntKind.u8,ZK.i IntKind.u8,ZK.i IntKind.u8,ZK.i IntKind.u8,ZK.i IntKind.u8,ZK.i IntKind.u8,ZK.i IntKind.u8,ZK.i IntKind.u8,ZK.i IntKind.u8,ZK.i IntKind.u8,ZK.i IntKind.u8,ZK.i IntKind.u8,ZK.i IntKind.u8,ZK.i IntKind.u8,ZK.i IntKind.u8,ZK.i IntKind.u8,ZK.i IntKind.u8,ZK.i IntKind.u8,ZK.i IntKind.u8,ZK.i IntKind.u8,ZK.i IntKind.u8]),
 (179,Ti.mk Kd.func 1 8 [ZK.f]),
 (180,Ti.mk Kd.func 1 8 [ZK.f]),
 (181,Ti.mk Kd.func 1 8 [ZK.f]),
 (182,Ti.mk Kd.func 1 8 [ZK.f]),
 (183,Ti.mk Kd.func 1 8 [ZK.f]),
 (184,Ti.mk Kd.func 1 8 [ZK.f]),
 (186,Ti.mk Kd.func 1 8 [ZK.f]),
 (187,Ti.mk Kd.func 1 8 [ZK.f]),
 (188,Ti.mk Kd.func 1 8 [ZK.f]),
 (189,Ti.mk Kd.func 1 8 [ZK.f]),
 (190,Ti.mk Kd.func 1 8 [ZK.f]),
 (192,Ti.mk Kd.func 1 8 [ZK.f]),
 (193,Ti.mk Kd.func 1 8 [ZK.f]),
 (194,Ti.mk (Kd.struct [Av.Fd.mk 0 1 Bool.false 17,Av.Fd.mk 1 1 Bool.false 17,Av.Fd.mk 2 1 Bool.false 17,Av.Fd.mk 3 1 Bool.false 9]) 4 40 [ZK.p,ZK.p,ZK.p,ZK.s]),
 (195,Ti.mk (Kd.struct [Av.Fd.mk 0 1 Bool.false 17,Av.Fd.mk 1 1 Bool.false 17,Av.Fd.mk 2 1 Bool.false 17,Av.Fd.mk 3 1 Bool.false 9]) 4 40 [ZK.p,ZK.p,ZK.p,ZK.s]),
 (196,Ti.mk (Kd.array 0 16) 0 0 []),
 (197,Ti.mk (Kd.struct [Av.Fd.mk 0 0 Bool.true 196]) 0 0 []),
 (198,Ti.mk (Kd.struct [Av.Fd.mk 0 0 Bool.true 196]) 0 0 []),
 (199,Ti.mk Kd.func 1 8 [ZK.f]),
 (200,Ti.mk (Kd.int IntKind.u8) 1 1 [ZK.i IntKind.u8]),
 (201,Ti.mk (Kd.int IntKind.u8) 1 1 [ZK.i IntKind.u8]),
 (202,Ti.mk Kd.func 1 8 [ZK.f]),
 (203,Ti.mk (Kd.ptr 5) 1 8 [ZK.p]),
 (204,Ti.mk (Kd.int IntKind.i32) 1 4 [ZK.i IntKind.i32]),
 (205,Ti.mk (Kd.int IntKind.i32) 1 4 [ZK.i IntKind.i32]),
 (206,Ti.mk (Kd.struct [Av.Fd.mk 0 1 Bool.false 12,Av.Fd.mk 1 1 Bool.false 12,Av.Fd.mk 2 1 Bool.false 112,Av.Fd.mk 3 1 Bool.false 200,Av.Fd.mk 4 1 Bool.false 5,Av.Fd.mk 5 1 Bool.false 5,Av.Fd.mk 6 1 Bool.false 201,Av.Fd.mk 7 1 Bool.false 202,Av.Fd.mk 8 1 Bool.false 203,Av.Fd.mk 9 1 Bool.false 204,Av.Fd.mk 10 1 Bool.false 205]) 11 48 [ZK.i IntKind.u64,ZK.i IntKind.u64,ZK.i IntKind.u32,ZK.i IntKind.u8,ZK.i IntKind.u8,ZK.i IntKind.u8,ZK.i IntKind.u8,ZK.f,ZK.p,ZK.i IntKind.i32,ZK.i IntKind.i32]),
 (207,Ti.mk (Kd.struct [Av.Fd.mk 0 1 Bool.false 12,Av.Fd.mk 1 1 Bool.false 12,Av.Fd.mk 2 1 Bool.false 112,Av.Fd.mk 3 1 Bool.false 200,Av.Fd.mk 4 1 Bool.false 5,Av.Fd.mk 5 1 Bool.false 5,Av.Fd.mk 6 1 Bool.false 201,Av.Fd.mk 7 1 Bool.false 202,Av.Fd.mk 8 1 Bool.false 203,Av.Fd.mk 9 1 Bool.false 204,Av.Fd.mk 10 1 Bool.false 205]) 11 48 [ZK.i IntKind.u64,ZK.i IntKind.u64,ZK.i IntKind.u32,ZK.i IntKind.u8,ZK.i IntKind.u8,ZK.i IntKind.u8,ZK.i IntKind.u8,ZK.f,ZK.p,ZK.i IntKind.i32,ZK.i IntKind.i32])]
theorem Zab:chk Tryd.prog tt=true:=by kernel_rfl
theorem ZaY:Tryd.prog.follows .mixedOrders=true:=by kernel_rfl
abbrev byE (l:List UInt8):D:=.sl .ext (l.map E.byte)
theorem Zbg (l:List UInt8):Uni 1 (l.map E.byte):=Uni.map (f:=E.byte) (fun _=>rfl) l
end Go.Proofs.YtakblclkflnnpaaDoor
end
section
open Go.RowKit Go.Pl
namespace Go.Proofs.YtakblclkflnnpaaDoor
abbrev Hd:=Int × Nat × Bool
def hv (h:Hd):Value:=.agg #[.int .i64 h.1,.int .u64 (h.2.1:Int),.bool h.2.2]
def ZjB (m:Int):Bool:=decide (2<=m/\m<=5\/m=7)
def Za8 (h:Hd):Bool:=if h.2.2 then decide (h.2.1=0)&&ZjB h.1 else decide (0<=h.1/\h.1<=7)
def ZaH (n:Nat):Nat:=if n<24 then 0 else if n<256 then 1 else if n<65536 then 2 else if n<4294967296 then 4 else 8
def Zbl (n:Nat):Nat:=if n<24 then n else if n<256 then 24 else if n<65536 then 25 else if n<4294967296 then 26 else 27
def ZfU (h:Hd):Nat:=if Za8 h then(if h.2.2 then 1 else 1+ZaH h.2.1) else 0
def beN (n k:Nat):List UInt8:=(List.range k).map (fun i=>UInt8.ofNat (n/256 ^ (k-1-i)))
def ZbH (m i:Nat):UInt8:=UInt8.ofNat (32*m+i)
def ZaR (h:Hd):List UInt8:=if h.2.2 then [ZbH h.1.toNat 31] else ZbH h.1.toNat (Zbl h.2.1)::beN h.2.1 (ZaH h.2.1)
theorem ZeP (n:Nat):ZaH n<=8:=by
 unfold ZaH
 repeat' split
 all_goals omega
theorem Zg5 (n:Nat):Zbl n<=27:=by
 unfold Zbl
 repeat' split
 all_goals omega
theorem Zng (M i:Nat)(hM:M<=7)(hi:i<32):bits .or .u8 ((M:Int)*32) (i:Int)=((32*M+i:Nat):Int):=by
 have h:=u8_or ((M:Int)*32) (i:Int) (by omega) (by omega) (by omega) (by omega)
 rw[h,show((M:Int)*32).toNat=32*M from by omega,Int.toNat_natCast]
 rw[nat_join 5 (32*M) i (by omega) (by omega)]
theorem ZaZ (n k:Nat):(beN n k).length=k:=by simp[beN]
theorem Zdq (n k i:Nat)(h:i<k):(beN n k).take (i+1)=(beN n k).take i++[UInt8.ofNat (n/256 ^ (k-1-i))]:=by
 rw[List.take_succ_eq_append_getElem (by rw[ZaZ];exact h)]
 simp[beN]
def ZfV (l:List UInt8):Nat:=l.foldl (fun a c=>256*a+c.toNat) 0
def ZjZ (b:List UInt8)(p:Nat):Hd × Nat × Nat:=
 match b.drop p with
 | []=>((0,0,false),0,8)
 | c::r=>
  if c.toNat % 32<24 then(((c.toNat/32:Nat),c.toNat % 32,false),p+1,0)
  else if c.toNat % 32=31/\ZjB (c.toNat/32:Nat)=true then(((c.toNat/32:Nat),0,true),p+1,0)
  else if 27<c.toNat % 32 then((0,0,false),0,3)
  else if r.length<2 ^ (c.toNat % 32-24) then((0,0,false),0,8)
  else(((c.toNat/32:Nat),ZfV (r.take (2 ^ (c.toNat % 32-24))),false),p+1+2 ^ (c.toNat % 32-24),0)
theorem ZhP (l:List UInt8)(c:UInt8):ZfV (l++[c])=256*ZfV l+c.toNat:=by simp[ZfV]
theorem Zj0 (h:Hd):ZfU h<=9:=by
 unfold ZfU
 have:=ZeP h.2.1
 split
 ·split<;>omega
 ·omega
theorem Zck (m i:Nat)(hm:m<=7)(hi:i<32):(ZbH m i).toNat=32*m+i:=ZgO (by omega)
theorem ZiM (n k:Nat)(h:n<256 ^ k):ZfV (beN n k)=n:=by
 have key:∀ i,i<=k->ZfV ((beN n k).take i)=n/256 ^ (k-i):=by
  intro i
  induction i with
  | zero=>intro _;simp[ZfV];exact(Nat.div_eq_of_lt h).symm
  | succ i ih=>
   intro hi
   rw[Zdq n k i (by omega),ZhP,ih (by omega),UInt8.toNat_ofNat']
   have e:256 ^ (k-i)=256 ^ (k-1-i)*256:=by rw[<- Nat.pow_succ];congr 1;omega
   rw[e,<- Nat.div_div_eq_div_mul,show k-(i+1)=k-1-i from by omega]
   omega
 have:=key k (Nat.le_refl _)
 rwa [List.take_of_length_le (by rw[ZaZ];exact Nat.le_refl _),Nat.sub_self,Nat.pow_zero,Nat.div_one]at this
theorem ZdI (n:Nat)(hn:n<18446744073709551616):(n<24/\ZaH n=0/\Zbl n=n)\/(24<=n/\ZaH n=2 ^ (Zbl n-24)/\24<=Zbl n/\Zbl n<=27/\n<256 ^ ZaH n):=by
 unfold ZaH Zbl
 by_cases h1:n<24
 ·simp[h1]
 right
 refine⟨by omega,?_⟩
 by_cases h2:n<256
 ·simp[h1,h2]
 by_cases h3:n<65536
 ·simp[h1,h2,h3]
 by_cases h4:n<4294967296
 ·simp[h1,h2,h3,h4]
 ·simp[h1,h2,h3,h4];omega
theorem ZbX (h:Hd)(hr:Za8 h=true):(ZaR h).length=ZfU h:=by
 unfold ZaR ZfU
 rw[if_pos hr]
 split
 ·rfl
 ·simp[ZaZ];omega
theorem Zef {h:Hd}(hr:Za8 h=true):0<=h.1/\h.1<=7:=by
 obtain⟨m,n,o⟩:=h
 cases o<;>simp[Za8,ZjB]at hr<;>dsimp only<;>omega
theorem ZfW {m:Int}{n:Nat}(hr:Za8 (m,n,true)=true):n=0/\ZjB m=true:=by
 simpa[Za8]using hr
theorem ZhQ (h:Hd)(hr:Za8 h=true)(hn:h.2.1<18446744073709551616)(a c:List UInt8):ZjZ (a++ZaR h++c) a.length=(h,a.length+(ZaR h).length,0):=by
 obtain⟨m,n,o⟩:=h
 obtain⟨hm0,hm7⟩:=Zef hr
 dsimp only at hn hm0 hm7
 obtain⟨M,rfl⟩:∃ M:Nat,m=(M:Int):=⟨m.toNat,by omega⟩
 have hM:M<=7:=by omega
 unfold ZjZ
 rw[List.append_assoc,List.drop_left]
 cases o with
 | true=>
  obtain⟨rfl,hmay⟩:=ZfW hr
  simp only[ZaR,if_true,Int.toNat_natCast,List.cons_append,List.nil_append]
  rw[Zck M 31 hM (by decide)]
  rw[if_neg (by omega),show(32*M+31)/32=M from by omega,if_pos ⟨by omega,hmay⟩]
  rfl
 | false=>
  have hw:ZaR ((M:Int),n,false)=ZbH M (Zbl n)::beN n (ZaH n):=by simp[ZaR]
  rw[hw]
  simp only[List.cons_append]
  rcases ZdI n hn with⟨h1,h2,h3⟩ | ⟨h1,h2,h3,h4,h5⟩
  ·rw[Zck M (Zbl n) hM (by omega),h3,h2]
   rw[if_pos (by omega),show(32*M+n)/32=M from by omega,show(32*M+n) % 32=n from by omega]
   simp[beN]
  ·rw[Zck M (Zbl n) hM (by omega)]
   have e1:(32*M+Zbl n)/32=M:=by omega
   have e2:(32*M+Zbl n) % 32=Zbl n:=by omega
   rw[e1,e2,if_neg (by omega),if_neg (by omega),if_neg (by omega),<- h2]
   rw[if_neg (by rw[List.length_append,ZaZ];omega)]
   rw[List.take_append_of_le_length (by rw[ZaZ];exact Nat.le_refl _),List.take_of_length_le (by rw[ZaZ];exact Nat.le_refl _),ZiM n _ h5]
   rw[List.length_cons,ZaZ]
   congr 2
   omega
end Go.Proofs.YtakblclkflnnpaaDoor
end
section
open Go.RowKit Go.Pl
namespace Go.Proofs.YtakblclkflnnpaaDoor
def inB (c lo hi:Nat):Bool:=decide (lo<=c)&&decide (c<=hi)
def ptN (c:Nat):Nat:=if c<128 then 1 else if inB c 194 223 then 2 else if inB c 224 239 then 3 else if inB c 240 244 then 4 else 0
def Zb0 (c:Nat):Nat:=if c=224 then 160 else if c=240 then 144 else 128
def Zb1 (c:Nat):Nat:=if c=237 then 159 else if c=244 then 143 else 191
def pt:List UInt8->Nat
 | []=>0
 | c::r=>match ptN c.toNat with
  | 1=>1
  | 2=>(match r with|c1::_=>if inB c1.toNat (Zb0 c.toNat) (Zb1 c.toNat) then 2 else 0|_=>0)
  | 3=>(match r with|c1::c2::_=>if inB c1.toNat (Zb0 c.toNat) (Zb1 c.toNat)&&inB c2.toNat 128 191 then 3 else 0|_=>0)
  | 4=>(match r with|c1::c2::c3::_=>if inB c1.toNat (Zb0 c.toNat) (Zb1 c.toNat)&&(inB c2.toNat 128 191&&inB c3.toNat 128 191) then 4 else 0|_=>0)
  | _=>0
def ZdJ:Nat->List UInt8->Bool
 | _,[]=>true
 | 0,_=>false
 | f+1,c::r=>match pt (c::r) with
  | 0=>false
  | k+1=>ZdJ f (r.drop k)
def ZaD (b:List UInt8):Bool:=ZdJ b.length b
theorem Zeg:∀(f g:Nat) (b:List UInt8),b.length<=f->b.length<=g->ZdJ f b=ZdJ g b
 | _,_,[],_,_=>by simp[ZdJ]
 | 0,_,c::r,h,_=>by simp at h
 | _+1,0,c::r,_,h=>by simp at h
 | f+1,g+1,c::r,h1,h2=>by
  simp only[ZdJ]
  split
  ·rfl
  ·rename_i k _
   simp at h1 h2
   exact Zeg f g _ (by simp;omega) (by simp;omega)
theorem Zbe (c:UInt8)(r:List UInt8):ZaD (c::r)=match pt (c::r) with|0=>false|k+1=>ZaD (r.drop k):=by
 show ZdJ (r.length+1) (c::r)=_
 rw[ZdJ]
 split
 ·rfl
 ·exact Zeg _ _ _ (by simp) (Nat.le_refl _)
theorem ZmK (b:List UInt8):pt b<=b.length:=by
 unfold pt
 repeat' split
 all_goals simp
inductive It where
 | mk (k:Int) (n:Nat) (b:List UInt8) (l:List It)
 deriving Inhabited
def It.k:It->Int | .mk k _ _ _=>k
def It.n:It->Nat | .mk _ n _ _=>n
def It.b:It->List UInt8 | .mk _ _ b _=>b
def It.l:It->List It | .mk _ _ _ l=>l
mutual
def It.beq:It->It->Bool
 | .mk k n b l,.mk k' n' b' l'=>(k==k')&&((n==n')&&((b==b')&&It.beqs l l'))
def It.beqs:List It->List It->Bool
 | [],[]=>true
 | x::l,y::l'=>match It.beq x y with|true=>It.beqs l l' | false=>false
 | _,_=>false
end
mutual
theorem It.beq_iff:∀ {x y:It},It.beq x y=true ↔ x=y
 | .mk k n b l,.mk k' n' b' l'=>by
  simp only[It.beq,Bool.and_eq_true,beq_iff_eq,It.mk.injEq]
  rw[It.beqs_iff]
theorem It.beqs_iff:∀ {l l':List It},It.beqs l l'=true ↔ l=l'
 | [],[]=>by simp[It.beqs]
 | [],y::l'=>by simp[It.beqs]
 | x::l,[]=>by simp[It.beqs]
 | x::l,y::l'=>by
  simp only[It.beqs,List.cons.injEq]
  cases h:It.beq x y with
  | true=>simp only[It.beq_iff.1 h,true_and];exact It.beqs_iff
  | false=>simp only[Bool.false_eq_true,false_iff,not_and];intro e;rw[It.beq_iff.2 e]at h;cases h
end
instance:DecidableEq It:=fun x y=>if h:It.beq x y=true then .isTrue (It.beq_iff.1 h) else .isFalse fun e=>h (It.beq_iff.2 e)
def Zeh (k:Int)(n:Nat)(b:List UInt8)(l:List It):Bool:=
 if k=0 then b.isEmpty&&l.isEmpty else if k=2 then decide (n=0)&&l.isEmpty else if k=3 then decide (n=0)&&(l.isEmpty&&ZaD b) else if k=4 then decide (n=0)&&b.isEmpty else false
mutual
def ZcR:It->Nat->Nat->Option Nat
 | .mk k n b l,d,m=>if 6<d then none else if m<1 then none else match Zeh k n b l with
  | false=>none
  | true=>Zb8 l (d+1) (m-1)
def Zb8:List It->Nat->Nat->Option Nat
 | [],_,m=>some m
 | y::l,d,m=>match ZcR y d m with
  | none=>none
  | some r=>Zb8 l d r
end
def Zaw (x:It):Bool:=(ZcR x 1 256).isSome
mutual
def wfI:It->Prop
 | .mk _ n b l=>n<18446744073709551616/\b.length<=140737488351232/\l.length<=2199023255488/\wfs l
def wfs:List It->Prop
 | []=>True
 | x::l=>wfI x/\wfs l
end
def It.hn:It->Nat | .mk k n b l=>if k=2 then b.length else if k=3 then b.length else if k=4 then l.length else n
mutual
def ZaX:It->List UInt8
 | .mk k n b l=>(if Za8 (k,(It.mk k n b l).hn,false) then ZaR (k,(It.mk k n b l).hn,false) else [])++(b++ZaW l)
def ZaW:List It->List UInt8
 | []=>[]
 | x::l=>ZaX x++ZaW l
end
abbrev Res (α:Type):=Except Nat α
def rdS:List UInt8->Res (Hd × List UInt8)
 | []=>.error 8
 | c::r=>
  if c.toNat % 32<24 then .ok (((c.toNat/32:Nat),c.toNat % 32,false),r)
  else if c.toNat % 32=31/\ZjB (c.toNat/32:Nat)=true then .ok (((c.toNat/32:Nat),0,true),r)
  else if 27<c.toNat % 32 then .error 3
  else if r.length<2 ^ (c.toNat % 32-24) then .error 8
  else .ok (((c.toNat/32:Nat),ZfV (r.take (2 ^ (c.toNat % 32-24))),false),r.drop (2 ^ (c.toNat % 32-24)))
def ZeQ (h:Hd)(s:List UInt8):Res (List UInt8 × List UInt8):=
 if h.2.1<=s.length then(if h.1=3/\ZaD (s.take h.2.1)=false then .error 3 else .ok (s.take h.2.1,s.drop h.2.1)) else .error 8
def Zm8:List UInt8->Bool
 | c::_=>c==255
 | []=>false
def Zm9 (m:Int):Nat->List UInt8->List UInt8->Res (List UInt8 × List UInt8)
 | 0,_,_=>.error 99
 | f+1,acc,s=>match Zm8 s with
  | true=>.ok (acc,s.tail)
  | false=>match rdS s with
   | .error e=>.error e
   | .ok (p,r)=>if p.1=m/\p.2.2=false then(match ZeQ p r with
     | .error e=>.error e
     | .ok (c,r2)=>Zm9 m f (acc++c) r2) else .error 3
def Zlb (it:Nat->List UInt8->Res (It × List UInt8 × Nat)):Nat->List It->Nat->List UInt8->Res (List It × List UInt8 × Nat)
 | 0,acc,m,s=>.ok (acc,s,m)
 | f+1,acc,m,s=>match it m s with
  | .error e=>.error e
  | .ok (x,r,m')=>Zlb it f (acc++[x]) m' r
def Zna (it:Nat->List UInt8->Res (It × List UInt8 × Nat)):Nat->List It->Nat->List UInt8->Res (List It × List UInt8 × Nat)
 | 0,_,_,_=>.error 99
 | f+1,acc,m,s=>match Zm8 s with
  | true=>.ok (acc,s.tail,m)
  | false=>match it m s with
   | .error e=>.error e
   | .ok (x,r,m')=>Zna it f (acc++[x]) m' r
def okK (k:Int):Bool:=k==0||(k==2||(k==3||k==4))
def Zmb (h:Hd)(r:List UInt8):Res (List UInt8 × List UInt8):=match h.2.2 with
 | true=>Zm9 h.1 (r.length+1) [] r
 | false=>ZeQ h r
def ZmL (it:Nat->List UInt8->Res (It × List UInt8 × Nat))(h:Hd)(m:Nat)(r:List UInt8):Res (List It × List UInt8 × Nat):=match h.2.2 with
 | true=>Zna it (r.length+1) [] m r
 | false=>if h.2.1<=r.length then Zlb it h.2.1 [] m r else .error 8
def ZdM (it:Nat->List UInt8->Res (It × List UInt8 × Nat))(h:Hd)(m:Nat)(r:List UInt8):Res (It × List UInt8 × Nat):=
 if h.1=0 then .ok (.mk 0 h.2.1 [] [],r,m)
 else if h.1=4 then(match ZmL it h m r with
  | .error e=>.error e
  | .ok (l,r2,m2)=>.ok (.mk 4 0 [] l,r2,m2))
 else match Zmb h r with
  | .error e=>.error e
  | .ok (c,r2)=>.ok (.mk h.1 0 c [],r2,m)
def Zei:Nat->Nat->List UInt8->Res (It × List UInt8 × Nat)
 | 0,m,s=>match rdS s with
  | .error e=>.error e
  | .ok (h,r)=>if okK h.1=false then .error 3 else .error 9
 | d+1,m,s=>match rdS s with
  | .error e=>.error e
  | .ok (h,r)=>if okK h.1=false then .error 3 else if m=0 then .error 2 else ZdM (Zei d) h (m-1) r
end Go.Proofs.YtakblclkflnnpaaDoor
end
section
open Go.RowKit Go.Pl
namespace Go.Proofs.YtakblclkflnnpaaDoor
theorem ZhR {s r:List UInt8}{h:Hd}(e:rdS s=.ok (h,r)):∃ pre,s=pre++r/\0<pre.length:=by
 cases s with
 | nil=>simp[rdS]at e
 | cons c t=>
  simp only[rdS]at e
  split at e
  ·injection e with e;injection e with e1 e2;subst e2;exact⟨[c],rfl,by simp⟩
  split at e
  ·injection e with e;injection e with e1 e2;subst e2;exact⟨[c],rfl,by simp⟩
  split at e
  ·cases e
  split at e
  ·cases e
  ·injection e with e;injection e with e1 e2;subst e2
   exact⟨c::t.take (2 ^ (c.toNat % 32-24)),by simp,by simp⟩
theorem ZiN (b:List UInt8)(p:Nat)(hp:p<=b.length):ZjZ b p=match rdS (b.drop p) with
  | .error e=>((0,0,false),0,e)
  | .ok (h,r)=>(h,b.length-r.length,0):=by
 unfold ZjZ
 have hl:(b.drop p).length=b.length-p:=List.length_drop ..
 cases hs:b.drop p with
 | nil=>simp[rdS]
 | cons c r=>
  rw[hs]at hl
  simp at hl
  simp only[rdS]
  by_cases h1:c.toNat % 32<24
  ·simp[h1];omega
  by_cases h2:c.toNat % 32=31/\ZjB (c.toNat/32:Nat)=true
  ·rw[if_neg h1,if_pos h2,if_neg h1,if_pos h2]
   simp;omega
  by_cases h3:27<c.toNat % 32
  ·rw[if_neg h1,if_neg h2,if_pos h3,if_neg h1,if_neg h2,if_pos h3]
  by_cases h4:r.length<2 ^ (c.toNat % 32-24)
  ·rw[if_neg h1,if_neg h2,if_neg h3,if_pos h4,if_neg h1,if_neg h2,if_neg h3,if_pos h4]
  ·rw[if_neg h1,if_neg h2,if_neg h3,if_neg h4,if_neg h1,if_neg h2,if_neg h3,if_neg h4]
   generalize 2 ^ (c.toNat % 32-24)=k at h4 ⊢
   simp;omega
theorem ZfX (h:Hd)(hr:Za8 h=true)(hn:h.2.1<18446744073709551616)(s:List UInt8):rdS (ZaR h++s)=.ok (h,s):=by
 have e:=ZhQ h hr hn [] s
 simp only[List.nil_append,List.length_nil,Nat.zero_add]at e
 rw[ZiN _ 0 (Nat.zero_le _),List.drop_zero]at e
 cases hx:rdS (ZaR h++s) with
 | error c => rw [hx] at e; simp at e; have := e.2.1; have := ZbX h hr; have : 0 < ZfU h := by unfold ZfU; rw [if_pos hr]; split <;> omega
              omega
 | ok y=>
  obtain⟨h',r⟩:=y
  rw[hx]at e
  simp only[Prod.mk.injEq,and_true]at e
  obtain⟨e1,e2⟩:=e
  obtain⟨pre,hp,_⟩:=ZhR hx
  have hl:=congrArg List.length hp
  simp at hl e2
  have:pre.length=(ZaR h).length:=by omega
  have:=List.append_inj hp this.symm
  rw[<- this.2,e1]
theorem Zlc (h:Hd)(hr:Za8 h=true)(hn:h.2.1<18446744073709551616)(c:Nat)(hc:c<(ZaR h).length):rdS ((ZaR h).take c)=.error 8:=by
 cases c with
 | zero=>rfl
 | succ c=>
  obtain⟨m,n,o⟩:=h
  obtain⟨hm0,hm7⟩:=Zef hr
  cases o with
  | true=>simp[ZaR]at hc
  | false=>
   have hw:ZaR (m,n,false)=ZbH m.toNat (Zbl n)::beN n (ZaH n):=rfl
   rw[hw]at hc ⊢
   simp only[List.length_cons,ZaZ]at hc
   dsimp only at hm0 hm7 hn
   rw[List.take_succ_cons]
   have hi:=Zg5 n
   have ht:(ZbH m.toNat (Zbl n)).toNat=32*m.toNat+Zbl n:=Zck _ _ (by omega) (by omega)
   rcases ZdI n hn with⟨_,hf,_⟩ | ⟨_,hf,h24,h27,_⟩
   ·omega
   ·simp only[rdS,ht]
    have e:(32*m.toNat+Zbl n) % 32=Zbl n:=by omega
    rw[e,if_neg (by omega),if_neg (by omega),if_neg (by omega),if_pos]
    rw[List.length_take,ZaZ,<- hf]
    omega
theorem ZeR {k:Int}{n:Nat}{b:List UInt8}{l:List It}(h:Zeh k n b l=true):(k=0/\b=[]/\l=[])\/(k=2/\n=0/\l=[])\/(k=3/\n=0/\l=[]/\ZaD b=true)\/(k=4/\n=0/\b=[]):=by
 unfold Zeh at h
 by_cases h0:k=0
 ·simp[h0]at h;exact .inl ⟨h0,h⟩
 by_cases h2:k=2
 ·simp[h2]at h;exact .inr (.inl ⟨h2,h⟩)
 by_cases h3:k=3
 ·simp[h3]at h;exact .inr (.inr (.inl ⟨h3,h⟩))
 by_cases h4:k=4
 ·simp[h4]at h;exact .inr (.inr (.inr ⟨h4,h⟩))
 ·simp[h0,h2,h3,h4]at h
theorem Zg6 {x:It}(h:0<=x.k/\x.k<=7):0<(ZaX x).length:=by
 obtain⟨k,n,b,l⟩:=x
 simp only[It.k]at h
 have hr:Za8 (k,(It.mk k n b l).hn,false)=true:=by simp[Za8];exact h
 rw[ZaX,if_pos hr,List.length_append,ZbX _ hr]
 unfold ZfU;rw[if_pos hr];simp;omega
theorem ZcS {k:Int}{n:Nat}{b:List UInt8}{l:List It}{d m m':Nat}(h:ZcR (.mk k n b l) d m=some m'):d<=6/\1<=m/\Zeh k n b l=true/\Zb8 l (d+1) (m-1)=some m':=by
 rw[ZcR]at h
 split at h
 ·cases h
 split at h
 ·cases h
 split at h
 ·cases h
 ·rename_i h3;exact⟨by omega,by omega,h3,h⟩
theorem Zej {k:Int}{n:Nat}{b:List UInt8}{l:List It}(h:Zeh k n b l=true):0<=k/\k<=7:=by
 rcases ZeR h with⟨h,_⟩ | ⟨h,_⟩ | ⟨h,_⟩ | ⟨h,_⟩<;>omega
theorem Zcs {x:It}{l:List It}{d m m':Nat}(h:Zb8 (x::l) d m=some m'):∃ m1,ZcR x d m=some m1/\Zb8 l d m1=some m':=by
 rw[Zb8]at h
 split at h
 ·cases h
 ·rename_i m1 h1;exact⟨m1,h1,h⟩
theorem Zg7:∀ {l:List It} {d m m':Nat},Zb8 l d m=some m'->l.length<=(ZaW l).length
 | [],_,_,_,_=>by simp
 | x::l,d,m,m',h=>by
  obtain⟨m1,h1,h2⟩:=Zcs h
  have:=Zg7 h2
  obtain⟨k,n,b,lx⟩:=x
  have:=Zg6 (x:=.mk k n b lx) (Zej (ZcS h1).2.2.1)
  rw[ZaW];simp;omega
theorem ZiO {k:Int}{n:Nat}{b:List UInt8}{l:List It}(h:Zeh k n b l=true):okK k=true:=by
 rcases ZeR h with⟨h,_⟩ | ⟨h,_⟩ | ⟨h,_⟩ | ⟨h,_⟩<;>subst h<;>rfl
theorem Zg8 {k:Int}{n:Nat}{b:List UInt8}{l:List It}(h:Zeh k n b l=true)(hw:wfI (.mk k n b l)):Za8 (k,(It.mk k n b l).hn,false)=true/\(It.mk k n b l).hn<18446744073709551616:=by
 refine⟨by simp[Za8];exact Zej h,?_⟩
 obtain⟨h1,h2,h3,_⟩:=hw
 rcases ZeR h with⟨h,_⟩ | ⟨h,_⟩ | ⟨h,_⟩ | ⟨h,_⟩<;>subst h<;>simp[It.hn]<;>omega
mutual
theorem Zg9:∀(x:It) (d m m':Nat) (r:List UInt8),wfI x->d<=6->ZcR x (7-d) m=some m'->Zei d m (ZaX x++r)=.ok (x,r,m')
 | .mk k n b l,d,m,m',r,hw,hd,h=>by
  obtain⟨h1,h2,h3,h4⟩:=ZcS h
  obtain⟨hr,hn⟩:=Zg8 h3 hw
  obtain⟨d,rfl⟩:∃ e,d=e+1:=⟨d-1,by omega⟩
  have e7:7-(d+1)+1=7-d:=by omega
  rw[e7]at h4
  rw[ZaX,if_pos hr,List.append_assoc,Zei,ZfX _ hr hn]
  dsimp only
  rw[ZiO h3,if_neg (by simp),if_neg (by omega)]
  obtain⟨w1,w2,w3,w4⟩:=hw
  rcases ZeR h3 with⟨rfl,rfl,rfl⟩ | ⟨rfl,rfl,rfl⟩ | ⟨rfl,rfl,rfl,hv⟩ | ⟨rfl,rfl,rfl⟩
  ·simp only[Zb8,Option.some.injEq]at h4
   simp[ZdM,ZaW,It.hn,h4]
  ·simp only[Zb8,Option.some.injEq]at h4
   simp[ZdM,ZaW,It.hn,Zmb,ZeQ,h4]
  ·simp only[Zb8,Option.some.injEq]at h4
   simp[ZdM,ZaW,It.hn,Zmb,ZeQ,h4,hv]
  ·have hl:=Zg7 h4
   have hq:=Zha l d (m-1) m' [] r w4 (by omega) h4
   show ZdM (Zei d) (4,l.length,false) (m-1) ([]++ZaW l++r)=_
   rw[ZdM,if_neg (by simp),if_pos rfl]
   simp only[ZmL,List.nil_append]
   rw[if_pos (by rw[List.length_append];omega),hq]
   rfl
theorem Zha:∀(l:List It) (d m m':Nat) (acc:List It) (r:List UInt8),wfs l->d<=6->Zb8 l (7-d) m=some m'->Zlb (Zei d) l.length acc m (ZaW l++r)=.ok (acc++l,r,m')
 | [],d,m,m',acc,r,_,_,h=>by
  simp only[Zb8,Option.some.injEq]at h
  simp[Zlb,ZaW,h]
 | x::l,d,m,m',acc,r,hw,hd,h=>by
  obtain⟨m1,h1,h2⟩:=Zcs h
  rw[ZaW,List.append_assoc,List.length_cons,Zlb,Zg9 x d m m1 _ hw.1 hd h1]
  dsimp only
  rw[Zha l d m1 m' (acc++[x]) r hw.2 hd h2]
  simp
end
mutual
theorem Zj1:∀(x:It) (d m m' c:Nat),wfI x->d<=6->ZcR x (7-d) m=some m'->c<(ZaX x).length->Zei d m ((ZaX x).take c)=.error 8
 | .mk k n b l,d,m,m',c,hw,hd,h,hc=>by
  obtain⟨h1,h2,h3,h4⟩:=ZcS h
  obtain⟨hr,hn⟩:=Zg8 h3 hw
  obtain⟨d,rfl⟩:∃ e,d=e+1:=⟨d-1,by omega⟩
  have e7:7-(d+1)+1=7-d:=by omega
  rw[e7]at h4
  rw[ZaX,if_pos hr]at hc ⊢
  rw[Zei]
  rcases Nat.lt_or_ge c (ZaR (k,(It.mk k n b l).hn,false)).length with hlt|hge
  ·rw[List.take_append_of_le_length (by omega),Zlc _ hr hn _ hlt]
  ·rw[List.take_append,List.take_of_length_le hge,ZfX _ hr hn]
   dsimp only
   rw[ZiO h3,if_neg (by simp),if_neg (by omega)]
   obtain⟨w1,w2,w3,w4⟩:=hw
   generalize hc':c-(ZaR (k,(It.mk k n b l).hn,false)).length=c'
   have hlt:c'<(b++ZaW l).length:=by rw[List.length_append]at hc;omega
   rcases ZeR h3 with⟨rfl,rfl,rfl⟩ | ⟨rfl,rfl,rfl⟩ | ⟨rfl,rfl,rfl,hv⟩ | ⟨rfl,rfl,rfl⟩
   ·simp[ZaW]at hlt
   ·simp[ZaW]at hlt
    show ZdM (Zei d) (2,b.length,false) (m-1) ((b++[]).take c')=_
    have hx:¬ b.length<=min c' b.length:=by omega
    simp[ZdM,Zmb,ZeQ,List.length_take,hx]
   ·simp[ZaW]at hlt
    show ZdM (Zei d) (3,b.length,false) (m-1) ((b++[]).take c')=_
    have hx:¬ b.length<=min c' b.length:=by omega
    simp[ZdM,Zmb,ZeQ,List.length_take,hx]
   ·simp only[List.nil_append]at hlt
    have hq:=Zhb l d (m-1) m' c' [] w4 (by omega) h4 hlt
    show ZdM (Zei d) (4,l.length,false) (m-1) (([]++ZaW l).take c')=_
    rw[ZdM,if_neg (by simp),if_pos rfl]
    simp only[ZmL,List.nil_append]
    by_cases hx:l.length<=((ZaW l).take c').length
    ·rw[if_pos hx,hq]
    ·rw[if_neg hx]
theorem Zhb:∀(l:List It) (d m m' c:Nat) (acc:List It),wfs l->d<=6->Zb8 l (7-d) m=some m'->c<(ZaW l).length->Zlb (Zei d) l.length acc m ((ZaW l).take c)=.error 8
 | [],d,m,m',c,acc,_,_,h,hc=>by simp[ZaW]at hc
 | x::l,d,m,m',c,acc,hw,hd,h,hc=>by
  obtain⟨m1,h1,h2⟩:=Zcs h
  rw[ZaW]at hc ⊢
  rw[List.length_cons,Zlb]
  rcases Nat.lt_or_ge c (ZaX x).length with hlt|hge
  ·rw[List.take_append_of_le_length (by omega),Zj1 x d m m1 c hw.1 hd h1 hlt]
  ·rw[List.take_append,List.take_of_length_le hge,Zg9 x d m m1 _ hw.1 hd h1]
   dsimp only
   exact Zhb l d m1 m' _ _ hw.2 hd h2 (by rw[List.length_append]at hc;omega)
end
mutual
theorem Zhc:∀ {x:It} {d m m':Nat},ZcR x d m=some m'->m'+1<=m
 | .mk k n b l,d,m,m',h=>by
  obtain⟨_,h2,_,h4⟩:=ZcS h
  have:=Zhd h4
  omega
theorem Zhd:∀ {l:List It} {d m m':Nat},Zb8 l d m=some m'->m'+l.length<=m
 | [],d,m,m',h=>by simp only[Zb8,Option.some.injEq]at h;simp[h]
 | x::l,d,m,m',h=>by
  obtain⟨m1,h1,h2⟩:=Zcs h
  have:=Zhc h1
  have:=Zhd h2
  simp;omega
end
theorem Zdr:∀(l l':List It),ZaW (l++l')=ZaW l++ZaW l'
 | [],l'=>rfl
 | x::l,l'=>by rw[List.cons_append,ZaW,ZaW,Zdr l l',List.append_assoc]
theorem ZiP {h:Hd}(hr:Za8 h=true)(ho:h.2.2=false):(ZaR h).length=1+ZaH h.2.1:=by
 rw[ZbX h hr];unfold ZfU;rw[if_pos hr,ho];rfl
end Go.Proofs.YtakblclkflnnpaaDoor
end
section
open Go.RowKit Go.Pl Go.Av
namespace Go.Proofs.YtakblclkflnnpaaDoor
set_option maxHeartbeats 4000000
theorem ZfY [Known](b:List UInt8)(hb:b.length<=140737488351232):AP Tryd.prog 49 [byE b] (byE b) []:=by
 have hU:=Zbg b
 cases b with
 | nil=>
  refine AP.ofA ?_
  refine Zao Tryd.func49 rfl Tryd.ntmps49 rfl rfl ?_
  repeat'(first|(apply Zgx Zab;(iterate 5 exact Z);intro b hbn)|(apply Zaj Zab;exact Z)|(apply Zah Zab;exact Z)|(apply Zay Zab;exact Z)|(apply Zcf;exact Z;all_goals intro hb)|(apply ZfQ Zab;(iterate 12 exact Z))|(apply ZaE Zab;(iterate 6 exact Z)))
  all_goals(apply Zaz [];(apply Zad Zab;exact Z);(iterate 4 exact Z))
  all_goals rfl
 | cons c b=>
  refine AP.ofA ?_
  refine Zao Tryd.func49 rfl Tryd.ntmps49 rfl rfl ?_
  repeat'(first|(apply Zgx Zab;(iterate 5 exact Z);intro b hbn;(have hbn2:=hbn (List.cons_ne_nil _ _));subst hbn2;clear hbn)|(apply Zaj Zab;exact Z)|(apply Zah Zab;exact Z)|(apply Zay Zab;exact Z)|(apply Zae;exact Z;(first|with_reducible assumption|(solve|simp only[bn])))|(apply ZfQ Zab;(iterate 12 exact Z))|(apply ZaI Zab;(iterate 6 exact Z);(first|with_reducible assumption|exact Z|rotate_left);exact Z;exact Z;(first|exact Zag rfl|with_reducible assumption|rotate_left);(first|exact Zag rfl|with_reducible assumption|rotate_left);(first|exact Qb|rotate_left);(first|exact Qb|rotate_left);(first|exact Qb|rotate_left);exact Z;exact Z))
  all_goals first|(apply Zaz [];(apply Zad Zab;exact Z);(iterate 4 exact Z))|skip
  all_goals first|rfl|(simp at hb ⊢;(try unfold maxLen);omega)
theorem ZkD [Known](a b:List UInt8):AP Tryd.prog 38 [byE a,byE b] (.bool (a==b)) []:=by
 refine AP.ofA ?_
 refine Zao Tryd.func38 rfl Tryd.ntmps38 rfl rfl ?_
 repeat'(first|(apply Zaj Zab;exact Z)|(apply Zah Zab;exact Z)|(apply ZfJ Zab;(iterate 9 exact Z)))
 all_goals(apply Zaz [];(apply Zad Zab;exact Z);(iterate 4 exact Z))
 all_goals rfl
end Go.Proofs.YtakblclkflnnpaaDoor
end
