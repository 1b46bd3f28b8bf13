/- The types of this seat's program, laid open: which kind each is of, its size, its zero. -/
import Derived.Test.YtakblclkflnnpaaGreatDoorP03
import Derived.Test.YtakblclkflnnpaaGreatDoorProg
import Derived.Test.YtakblclkflnnpaaGreatDoorP10
import Derived.Test.YtakblclkflnnpaaGreatDoorP01
set_option linter.unusedVariables false
set_option linter.unusedSimpArgs false
section
open Go.RowKit Go.Pl Go.Av
namespace Go.Proofs.YtakblclkflnnpaaGreatDoor
def tt:Tab:=[(1,Ti.mk Kd.func 1 8 [ZK.f]),
 (2,Ti.mk (Kd.int IntKind.i64) 1 8 [ZK.i IntKind.i64]),
 (3,Ti.mk (Kd.int IntKind.i64) 1 8 [ZK.i IntKind.i64]),
 (4,Ti.mk Kd.bool 1 1 [ZK.b]),
 (5,Ti.mk (Kd.int IntKind.u8) 1 1 [ZK.i IntKind.u8]),
 (6,Ti.mk (Kd.int IntKind.u8) 1 1 [ZK.i IntKind.u8]),
 (7,Ti.mk (Kd.struct [Av.Fd.mk 0 1 Bool.false 2,Av.Fd.mk 1 1 Bool.false 3,Av.Fd.mk 2 1 Bool.false 4,Av.Fd.mk 3 1 Bool.false 6]) 4 24 [ZK.i IntKind.i64,ZK.i IntKind.i64,ZK.b,ZK.i IntKind.u8]),
 (8,Ti.mk (Kd.struct [Av.Fd.mk 0 1 Bool.false 2,Av.Fd.mk 1 1 Bool.false 3,Av.Fd.mk 2 1 Bool.false 4,Av.Fd.mk 3 1 Bool.false 6]) 4 24 [ZK.i IntKind.i64,ZK.i IntKind.i64,ZK.b,ZK.i IntKind.u8]),
 (9,Ti.mk Kd.str 1 16 [ZK.s]),
 (10,Ti.mk Kd.str 1 16 [ZK.s]),
 (11,Ti.mk Kd.str 1 16 [ZK.s]),
 (12,Ti.mk (Kd.int IntKind.u64) 1 8 [ZK.i IntKind.u64]),
 (13,Ti.mk (Kd.struct [Av.Fd.mk 0 1 Bool.false 9,Av.Fd.mk 1 1 Bool.false 12]) 2 24 [ZK.s,ZK.i IntKind.u64]),
 (14,Ti.mk (Kd.struct [Av.Fd.mk 0 1 Bool.false 9,Av.Fd.mk 1 1 Bool.false 12]) 2 24 [ZK.s,ZK.i IntKind.u64]),
 (15,Ti.mk (Kd.ptr 299) 1 8 [ZK.p]),
 (16,Ti.mk (Kd.ptr 302) 1 8 [ZK.p]),
 (17,Ti.mk (Kd.ptr 311) 1 8 [ZK.p]),
 (18,Ti.mk (Kd.struct [Av.Fd.mk 0 1 Bool.false 17]) 1 8 [ZK.p]),
 (19,Ti.mk (Kd.struct [Av.Fd.mk 0 1 Bool.false 17]) 1 8 [ZK.p]),
 (20,Ti.mk Kd.iface 1 16 [ZK.n]),
 (21,Ti.mk (Kd.int IntKind.i32) 1 4 [ZK.i IntKind.i32]),
 (22,Ti.mk (Kd.int IntKind.u64) 1 8 [ZK.i IntKind.u64]),
 (23,Ti.mk (Kd.struct [Av.Fd.mk 0 1 Bool.false 4,Av.Fd.mk 1 1 Bool.false 22,Av.Fd.mk 2 1 Bool.false 22,Av.Fd.mk 3 1 Bool.false 9,Av.Fd.mk 4 1 Bool.false 9]) 5 56 [ZK.b,ZK.i IntKind.u64,ZK.i IntKind.u64,ZK.s,ZK.s]),
 (24,Ti.mk (Kd.struct [Av.Fd.mk 0 1 Bool.false 4,Av.Fd.mk 1 1 Bool.false 22,Av.Fd.mk 2 1 Bool.false 22,Av.Fd.mk 3 1 Bool.false 9,Av.Fd.mk 4 1 Bool.false 9]) 5 56 [ZK.b,ZK.i IntKind.u64,ZK.i IntKind.u64,ZK.s,ZK.s]),
 (25,Ti.mk (Kd.struct [Av.Fd.mk 0 5 Bool.true 24,Av.Fd.mk 5 1 Bool.false 22,Av.Fd.mk 6 1 Bool.false 22]) 7 72 [ZK.b,ZK.i IntKind.u64,ZK.i IntKind.u64,ZK.s,ZK.s,ZK.i IntKind.u64,ZK.i IntKind.u64]),
 (26,Ti.mk (Kd.struct [Av.Fd.mk 0 5 Bool.true 24,Av.Fd.mk 5 1 Bool.false 22,Av.Fd.mk 6 1 Bool.false 22]) 7 72 [ZK.b,ZK.i IntKind.u64,ZK.i IntKind.u64,ZK.s,ZK.s,ZK.i IntKind.u64,ZK.i IntKind.u64]),
 (27,Ti.mk (Kd.struct [Av.Fd.mk 0 1 Bool.false 22,Av.Fd.mk 1 1 Bool.false 3,Av.Fd.mk 2 5 Bool.true 24,Av.Fd.mk 7 5 Bool.true 24,Av.Fd.mk 12 7 Bool.true 26,Av.Fd.mk 19 1 Bool.false 22]) 20 208 [ZK.i IntKind.u64,ZK.i IntKind.i64,ZK.b,ZK.i IntKind.u64,ZK.i IntKind.u64,ZK.s,ZK.s,ZK.b,ZK.i IntKind.u64,ZK.i IntKind.u64,ZK.s,ZK.s,ZK.b,ZK.i IntKind.u64,ZK.i IntKind.u64,ZK.s,ZK.s,ZK.i IntKind.u64,ZK.i IntKind.u64,ZK.i IntKind.u64]),
 (28,Ti.mk (Kd.struct [Av.Fd.mk 0 1 Bool.false 22,Av.Fd.mk 1 1 Bool.false 3,Av.Fd.mk 2 5 Bool.true 24,Av.Fd.mk 7 5 Bool.true 24,Av.Fd.mk 12 7 Bool.true 26,Av.Fd.mk 19 1 Bool.false 22]) 20 208 [ZK.i IntKind.u64,ZK.i IntKind.i64,ZK.b,ZK.i IntKind.u64,ZK.i IntKind.u64,ZK.s,ZK.s,ZK.b,ZK.i IntKind.u64,ZK.i IntKind.u64,ZK.s,ZK.s,ZK.b,ZK.i IntKind.u64,ZK.i IntKind.u64,ZK.s,ZK.s,ZK.i IntKind.u64,ZK.i IntKind.u64,ZK.i IntKind.u64]),
 (29,Ti.mk (Kd.slice 5) 1 24 [ZK.l]),
 (30,Ti.mk (Kd.slice 32) 1 24 [ZK.l]),
 (31,Ti.mk (Kd.struct [Av.Fd.mk 0 1 Bool.false 3,Av.Fd.mk 1 1 Bool.false 22,Av.Fd.mk 2 1 Bool.false 29,Av.Fd.mk 3 1 Bool.false 30]) 4 64 [ZK.i IntKind.i64,ZK.i IntKind.u64,ZK.l,ZK.l]),
 (32,Ti.mk (Kd.struct [Av.Fd.mk 0 1 Bool.false 3,Av.Fd.mk 1 1 Bool.false 22,Av.Fd.mk 2 1 Bool.false 29,Av.Fd.mk 3 1 Bool.false 30]) 4 64 [ZK.i IntKind.i64,ZK.i IntKind.u64,ZK.l,ZK.l]),
 (33,Ti.mk Kd.func 1 8 [ZK.f]),
 (34,Ti.mk Kd.func 1 8 [ZK.f]),
 (35,Ti.mk Kd.func 1 8 [ZK.f]),
 (36,Ti.mk (Kd.struct [Av.Fd.mk 0 1 Bool.false 4,Av.Fd.mk 1 1 Bool.false 22,Av.Fd.mk 2 1 Bool.false 22,Av.Fd.mk 3 1 Bool.false 9,Av.Fd.mk 4 1 Bool.false 9]) 5 56 [ZK.b,ZK.i IntKind.u64,ZK.i IntKind.u64,ZK.s,ZK.s]),
 (37,Ti.mk (Kd.struct [Av.Fd.mk 0 5 Bool.true 36,Av.Fd.mk 5 1 Bool.false 22,Av.Fd.mk 6 1 Bool.false 22]) 7 72 [ZK.b,ZK.i IntKind.u64,ZK.i IntKind.u64,ZK.s,ZK.s,ZK.i IntKind.u64,ZK.i IntKind.u64]),
 (38,Ti.mk (Kd.struct [Av.Fd.mk 0 5 Bool.true 36,Av.Fd.mk 5 1 Bool.false 22,Av.Fd.mk 6 1 Bool.false 22]) 7 72 [ZK.b,ZK.i IntKind.u64,ZK.i IntKind.u64,ZK.s,ZK.s,ZK.i IntKind.u64,ZK.i IntKind.u64]),
 (39,Ti.mk (Kd.struct [Av.Fd.mk 0 1 Bool.false 22,Av.Fd.mk 1 1 Bool.false 3,Av.Fd.mk 2 5 Bool.true 36,Av.Fd.mk 7 5 Bool.true 36,Av.Fd.mk 12 7 Bool.true 38,Av.Fd.mk 19 1 Bool.false 22]) 20 208 [ZK.i IntKind.u64,ZK.i IntKind.i64,ZK.b,ZK.i IntKind.u64,ZK.i IntKind.u64,ZK.s,ZK.s,ZK.b,ZK.i IntKind.u64,ZK.i IntKind.u64,ZK.s,ZK.s,ZK.b,ZK.i IntKind.u64,ZK.i IntKind.u64,ZK.s,ZK.s,ZK.i IntKind.u64,ZK.i IntKind.u64,ZK.i IntKind.u64]),
 (40,Ti.mk (Kd.struct [Av.Fd.mk 0 1 Bool.false 22,Av.Fd.mk 1 1 Bool.false 3,Av.Fd.mk 2 5 Bool.true 36,Av.Fd.mk 7 5 Bool.true 36,Av.Fd.mk 12 7 Bool.true 38,Av.Fd.mk 19 1 Bool.false 22]) 20 208 [ZK.i IntKind.u64,ZK.i IntKind.i64,ZK.b,ZK.i IntKind.u64,ZK.i IntKind.u64,ZK.s,ZK.s,ZK.b,ZK.i IntKind.u64,ZK.i IntKind.u64,ZK.s,ZK.s,ZK.b,ZK.i IntKind.u64,ZK.i IntKind.u64,ZK.s,ZK.s,ZK.i IntKind.u64,ZK.i IntKind.u64,ZK.i IntKind.u64]),
 (41,Ti.mk Kd.func 1 8 [ZK.f]),
 (42,Ti.mk (Kd.int IntKind.i64) 1 8 [ZK.i IntKind.i64]),
 (44,Ti.mk Kd.func 1 8 [ZK.f]),
 (46,Ti.mk Kd.func 1 8 [ZK.f]),
 (48,Ti.mk Kd.func 1 8 [ZK.f]),
 (49,Ti.mk (Kd.slice 51) 1 24 [ZK.l]),
 (50,Ti.mk (Kd.struct [Av.Fd.mk 0 1 Bool.false 3,Av.Fd.mk 1 1 Bool.false 22,Av.Fd.mk 2 1 Bool.false 29,Av.Fd.mk 3 1 Bool.false 49]) 4 64 [ZK.i IntKind.i64,ZK.i IntKind.u64,ZK.l,ZK.l]),
 (51,Ti.mk (Kd.struct [Av.Fd.mk 0 1 Bool.false 3,Av.Fd.mk 1 1 Bool.false 22,Av.Fd.mk 2 1 Bool.false 29,Av.Fd.mk 3 1 Bool.false 49]) 4 64 [ZK.i IntKind.i64,ZK.i IntKind.u64,ZK.l,ZK.l]),
 (52,Ti.mk Kd.func 1 8 [ZK.f]),
 (53,Ti.mk Kd.func 1 8 [ZK.f]),
 (54,Ti.mk Kd.func 1 8 [ZK.f]),
 (55,Ti.mk Kd.func 1 8 [ZK.f]),
 (56,Ti.mk Kd.func 1 8 [ZK.f]),
 (57,Ti.mk (Kd.struct [Av.Fd.mk 0 1 Bool.false 22,Av.Fd.mk 1 1 Bool.false 22,Av.Fd.mk 2 1 Bool.false 22,Av.Fd.mk 3 1 Bool.false 3,Av.Fd.mk 4 1 Bool.false 29]) 5 56 [ZK.i IntKind.u64,ZK.i IntKind.u64,ZK.i IntKind.u64,ZK.i IntKind.i64,ZK.l]),
 (58,Ti.mk (Kd.struct [Av.Fd.mk 0 1 Bool.false 22,Av.Fd.mk 1 1 Bool.false 22,Av.Fd.mk 2 1 Bool.false 22,Av.Fd.mk 3 1 Bool.false 3,Av.Fd.mk 4 1 Bool.false 29]) 5 56 [ZK.i IntKind.u64,ZK.i IntKind.u64,ZK.i IntKind.u64,ZK.i IntKind.i64,ZK.l]),
 (59,Ti.mk (Kd.struct [Av.Fd.mk 0 1 Bool.false 22,Av.Fd.mk 1 1 Bool.false 22,Av.Fd.mk 2 1 Bool.false 22,Av.Fd.mk 3 1 Bool.false 3,Av.Fd.mk 4 1 Bool.false 29]) 5 56 [ZK.i IntKind.u64,ZK.i IntKind.u64,ZK.i IntKind.u64,ZK.i IntKind.i64,ZK.l]),
 (60,Ti.mk Kd.func 1 8 [ZK.f]),
 (61,Ti.mk Kd.func 1 8 [ZK.f]),
 (63,Ti.mk Kd.func 1 8 [ZK.f]),
 (65,Ti.mk Kd.func 1 8 [ZK.f]),
 (66,Ti.mk Kd.func 1 8 [ZK.f]),
 (67,Ti.mk Kd.func 1 8 [ZK.f]),
 (68,Ti.mk Kd.func 1 8 [ZK.f]),
 (69,Ti.mk Kd.func 1 8 [ZK.f]),
 (70,Ti.mk Kd.func 1 8 [ZK.f]),
 (71,Ti.mk Kd.func 1 8 [ZK.f]),
 (73,Ti.mk Kd.func 1 8 [ZK.f]),
 (75,Ti.mk Kd.func 1 8 [ZK.f]),
 (77,Ti.mk Kd.func 1 8 [ZK.f]),
 (78,Ti.mk Kd.func 1 8 [ZK.f]),
 (80,Ti.mk Kd.func 1 8 [ZK.f]),
 (82,Ti.mk Kd.func 1 8 [ZK.f]),
 (84,Ti.mk Kd.func 1 8 [ZK.f]),
 (85,Ti.mk Kd.func 1 8 [ZK.f]),
 (86,Ti.mk Kd.func 1 8 [ZK.f]),
 (87,Ti.mk Kd.func 1 8 [ZK.f]),
 (88,Ti.mk Kd.func 1 8 [ZK.f]),
 (89,Ti.mk Kd.func 1 8 [ZK.f]),
 (91,Ti.mk Kd.func 1 8 [ZK.f]),
 (92,Ti.mk Kd.func 1 8 [ZK.f]),
 (93,Ti.mk Kd.func 1 8 [ZK.f]),
 (94,Ti.mk (Kd.struct [Av.Fd.mk 0 1 Bool.false 4,Av.Fd.mk 1 1 Bool.false 4,Av.Fd.mk 2 1 Bool.false 4,Av.Fd.mk 3 1 Bool.false 22,Av.Fd.mk 4 1 Bool.false 22,Av.Fd.mk 5 7 Bool.true 26]) 12 96 [ZK.b,ZK.b,ZK.b,ZK.i IntKind.u64,ZK.i IntKind.u64,ZK.b,ZK.i IntKind.u64,ZK.i IntKind.u64,ZK.s,ZK.s,ZK.i IntKind.u64,ZK.i IntKind.u64]),
 (95,Ti.mk (Kd.struct [Av.Fd.mk 0 1 Bool.false 4,Av.Fd.mk 1 1 Bool.false 4,Av.Fd.mk 2 1 Bool.false 4,Av.Fd.mk 3 1 Bool.false 22,Av.Fd.mk 4 1 Bool.false 22,Av.Fd.mk 5 7 Bool.true 26]) 12 96 [ZK.b,ZK.b,ZK.b,ZK.i IntKind.u64,ZK.i IntKind.u64,ZK.b,ZK.i IntKind.u64,ZK.i IntKind.u64,ZK.s,ZK.s,ZK.i IntKind.u64,ZK.i IntKind.u64]),
 (96,Ti.mk Kd.func 1 8 [ZK.f]),
 (97,Ti.mk (Kd.struct [Av.Fd.mk 0 1 Bool.false 4,Av.Fd.mk 1 1 Bool.false 4,Av.Fd.mk 2 1 Bool.false 4,Av.Fd.mk 3 1 Bool.false 22,Av.Fd.mk 4 1 Bool.false 22,Av.Fd.mk 5 7 Bool.true 38]) 12 96 [ZK.b,ZK.b,ZK.b,ZK.i IntKind.u64,ZK.i IntKind.u64,ZK.b,ZK.i IntKind.u64,ZK.i IntKind.u64,ZK.s,ZK.s,ZK.i IntKind.u64,ZK.i IntKind.u64]),
 (98,Ti.mk (Kd.struct [Av.Fd.mk 0 1 Bool.false 4,Av.Fd.mk 1 1 Bool.false 4,Av.Fd.mk 2 1 Bool.false 4,Av.Fd.mk 3 1 Bool.false 22,Av.Fd.mk 4 1 Bool.false 22,Av.Fd.mk 5 7 Bool.true 38]) 12 96 [ZK.b,ZK.b,ZK.b,ZK.i IntKind.u64,ZK.i IntKind.u64,ZK.b,ZK.i IntKind.u64,ZK.i IntKind.u64,ZK.s,ZK.s,ZK.i IntKind.u64,ZK.i IntKind.u64]),
 (99,Ti.mk Kd.func 1 8 [ZK.f]),
 (101,Ti.mk Kd.func 1 8 [ZK.f]),
 (103,Ti.mk Kd.func 1 8 [ZK.f]),
 (105,Ti.mk Kd.func 1 8 [ZK.f]),
 (106,Ti.mk Kd.func 1 8 [ZK.f]),
 (107,Ti.mk Kd.func 1 8 [ZK.f]),
 (108,Ti.mk Kd.func 1 8 [ZK.f]),
 (109,Ti.mk Kd.func 1 8 [ZK.f]),
 (110,Ti.mk (Kd.slice 58) 1 24 [ZK.l]),
 (111,Ti.mk (Kd.struct [Av.Fd.mk 0 20 Bool.true 28,Av.Fd.mk 20 1 Bool.false 110]) 21 232 [ZK.i IntKind.u64,ZK.i IntKind.i64,ZK.b,ZK.i IntKind.u64,ZK.i IntKind.u64,ZK.s,ZK.s,ZK.b,ZK.i IntKind.u64,ZK.i IntKind.u64,ZK.s,ZK.s,ZK.b,ZK.i IntKind.u64,ZK.i IntKind.u64,ZK.s,ZK.s,ZK.i IntKind.u64,ZK.i IntKind.u64,ZK.i IntKind.u64,ZK.l]),
 (112,Ti.mk (Kd.struct [Av.Fd.mk 0 20 Bool.true 28,Av.Fd.mk 20 1 Bool.false 110]) 21 232 [ZK.i IntKind.u64,ZK.i IntKind.i64,ZK.b,ZK.i IntKind.u64,ZK.i IntKind.u64,ZK.s,ZK.s,ZK.b,ZK.i IntKind.u64,ZK.i IntKind.u64,ZK.s,ZK.s,ZK.b,ZK.i IntKind.u64,ZK.i IntKind.u64,ZK.s,ZK.s,ZK.i IntKind.u64,ZK.i IntKind.u64,ZK.i IntKind.u64,ZK.l]),
 (113,Ti.mk Kd.func 1 8 [ZK.f]),
 (114,Ti.mk Kd.func 1 8 [ZK.f]),
 (115,Ti.mk (Kd.slice 59) 1 24 [ZK.l]),
 (116,Ti.mk (Kd.struct [Av.Fd.mk 0 20 Bool.true 40,Av.Fd.mk 20 1 Bool.false 115]) 21 232 [ZK.i IntKind.u64,ZK.i IntKind.i64,ZK.b,ZK.i IntKind.u64,ZK.i IntKind.u64,ZK.s,ZK.s,ZK.b,ZK.i IntKind.u64,ZK.i IntKind.u64,ZK.s,ZK.s,ZK.b,ZK.i IntKind.u64,ZK.i IntKind.u64,ZK.s,ZK.s,ZK.i IntKind.u64,ZK.i IntKind.u64,ZK.i IntKind.u64,ZK.l]),
 (117,Ti.mk (Kd.struct [Av.Fd.mk 0 20 Bool.true 40,Av.Fd.mk 20 1 Bool.false 115]) 21 232 [ZK.i IntKind.u64,ZK.i IntKind.i64,ZK.b,ZK.i IntKind.u64,ZK.i IntKind.u64,ZK.s,ZK.s,ZK.b,ZK.i IntKind.u64,ZK.i IntKind.u64,ZK.s,ZK.s,ZK.b,ZK.i IntKind.u64,ZK.i IntKind.u64,ZK.s,ZK.s,ZK.i IntKind.u64,ZK.i IntKind.u64,ZK.i IntKind.u64,ZK.l]),
 (119,Ti.mk Kd.func 1 8 [ZK.f]),
 (121,Ti.mk Kd.func 1 8 [ZK.f]),
 (122,Ti.mk Kd.func 1 8 [ZK.f]),
 (123,Ti.mk Kd.func 1 8 [ZK.f]),
 (124,Ti.mk Kd.func 1 8 [ZK.f]),
 (126,Ti.mk Kd.func 1 8 [ZK.f]),
 (127,Ti.mk Kd.func 1 8 [ZK.f]),
 (128,Ti.mk Kd.func 1 8 [ZK.f]),
 (130,Ti.mk Kd.func 1 8 [ZK.f]),
 (131,Ti.mk Kd.func 1 8 [ZK.f]),
 (132,Ti.mk Kd.func 1 8 [ZK.f]),
 (133,Ti.mk Kd.func 1 8 [ZK.f]),
 (134,Ti.mk Kd.func 1 8 [ZK.f]),
 (135,Ti.mk Kd.func 1 8 [ZK.f]),
 (136,Ti.mk Kd.func 1 8 [ZK.f]),
 (138,Ti.mk Kd.func 1 8 [ZK.f]),
 (139,Ti.mk Kd.func 1 8 [ZK.f]),
 (140,Ti.mk Kd.func 1 8 [ZK.f]),
 (141,Ti.mk Kd.func 1 8 [ZK.f]),
 (142,Ti.mk Kd.func 1 8 [ZK.f]),
 (144,Ti.mk Kd.func 1 8 [ZK.f]),
 (145,Ti.mk Kd.func 1 8 [ZK.f]),
 (146,Ti.mk Kd.func 1 8 [ZK.f]),
 (147,Ti.mk Kd.func 1 8 [ZK.f]),
 (148,Ti.mk Kd.func 1 8 [ZK.f]),
 (149,Ti.mk Kd.func 1 8 [ZK.f]),
 (151,Ti.mk Kd.func 1 8 [ZK.f]),
 (152,Ti.mk Kd.func 1 8 [ZK.f]),
 (154,Ti.mk Kd.func 1 8 [ZK.f]),
 (155,Ti.mk Kd.func 1 8 [ZK.f]),
 (156,Ti.mk Kd.func 1 8 [ZK.f]),
 (158,Ti.mk Kd.func 1 8 [ZK.f]),
 (159,Ti.mk Kd.func 1 8 [ZK.f]),
 (160,Ti.mk Kd.func 1 8 [ZK.f]),
 (161,Ti.mk (Kd.slice 22) 1 24 [ZK.l]),
 (162,Ti.mk Kd.func 1 8 [ZK.f]),
 (163,Ti.mk Kd.func 1 8 [ZK.f]),
 (165,Ti.mk Kd.func 1 8 [ZK.f]),
 (166,Ti.mk Kd.func 1 8 [ZK.f]),
 (167,Ti.mk Kd.func 1 8 [ZK.f]),
 (168,Ti.mk Kd.func 1 8 [ZK.f]),
 (169,Ti.mk Kd.func 1 8 [ZK.f]),
 (170,Ti.mk Kd.func 1 8 [ZK.f]),
 (171,Ti.mk Kd.func 1 8 [ZK.f]),
 (172,Ti.mk Kd.func 1 8 [ZK.f]),
 (174,Ti.mk Kd.func 1 8 [ZK.f]),
 (175,Ti.mk Kd.func 1 8 [ZK.f]),
 (176,Ti.mk Kd.func 1 8 [ZK.f]),
 (177,Ti.mk Kd.func 1 8 [ZK.f]),
 (178,Ti.mk Kd.func 1 8 [ZK.f]),
 (179,Ti.mk Kd.func 1 8 [ZK.f]),
 (180,Ti.mk Kd.func 1 8 [ZK.f]),
 (181,Ti.mk Kd.func 1 8 [ZK.f]),
 (182,Ti.mk Kd.func 1 8 [ZK.f]),
 (184,Ti.mk Kd.func 1 8 [ZK.f]),
 (186,Ti.mk Kd.func 1 8 [ZK.f]),
 (187,Ti.mk Kd.func 1 8 [ZK.f]),
 (188,Ti.mk Kd.func 1 8 [ZK.f]),
 (189,Ti.mk Kd.func 1 8 [ZK.f]),
 (190,Ti.mk Kd.func 1 8 [ZK.f]),
 (191,Ti.mk Kd.func 1 8 [ZK.f]),
 (192,Ti.mk Kd.func 1 8 [ZK.f]),
 (193,Ti.mk Kd.func 1 8 [ZK.f]),
 (194,Ti.mk Kd.func 1 8 [ZK.f]),
 (195,Ti.mk Kd.func 1 8 [ZK.f]),
 (196,Ti.mk Kd.func 1 8 [ZK.f]),
 (197,Ti.mk Kd.func 1 8 [ZK.f]),
 (198,Ti.mk Kd.func 1 8 [ZK.f]),
 (199,Ti.mk Kd.func 1 8 [ZK.f]),
 (200,Ti.mk Kd.func 1 8 [ZK.f]),
 (201,Ti.mk Kd.func 1 8 [ZK.f]),
 (202,Ti.mk Kd.func 1 8 [ZK.f]),
 (203,Ti.mk Kd.func 1 8 [ZK.f]),
 (204,Ti.mk Kd.func 1 8 [ZK.f]),
 (205,Ti.mk Kd.func 1 8 [ZK.f]),
 (206,Ti.mk Kd.func 1 8 [ZK.f]),
 (207,Ti.mk Kd.func 1 8 [ZK.f]),
 (208,Ti.mk Kd.func 1 8 [ZK.f]),
 (209,Ti.mk Kd.func 1 8 [ZK.f]),
 (211,Ti.mk Kd.func 1 8 [ZK.f]),
 (212,Ti.mk Kd.func 1 8 [ZK.f]),
 (213,Ti.mk Kd.func 1 8 [ZK.f]),
 (214,Ti.mk Kd.func 1 8 [ZK.f]),
 (215,Ti.mk Kd.func 1 8 [ZK.f]),
 (216,Ti.mk Kd.func 1 8 [ZK.f]),
 (217,Ti.mk Kd.func 1 8 [ZK.f]),
 (218,Ti.mk Kd.func 1 8 [ZK.f]),
 (219,Ti.mk (Kd.int IntKind.u32) 1 4 [ZK.i IntKind.u32]),
 (220,Ti.mk (Kd.int IntKind.u16) 1 2 [ZK.i IntKind.u16]),
 (221,Ti.mk Kd.func 1 8 [ZK.f]),
 (222,Ti.mk Kd.func 1 8 [ZK.f]),
 (223,Ti.mk Kd.func 1 8 [ZK.f]),
 (224,Ti.mk Kd.func 1 8 [ZK.f]),
 (226,Ti.mk Kd.func 1 8 [ZK.f]),
 (228,Ti.mk Kd.func 1 8 [ZK.f]),
 (229,Ti.mk (Kd.struct [Av.Fd.mk 0 1 Bool.false 3,Av.Fd.mk 1 1 Bool.false 22,Av.Fd.mk 2 1 Bool.false 4]) 3 24 [ZK.i IntKind.i64,ZK.i IntKind.u64,ZK.b]),
 (230,Ti.mk (Kd.struct [Av.Fd.mk 0 1 Bool.false 3,Av.Fd.mk 1 1 Bool.false 22,Av.Fd.mk 2 1 Bool.false 4]) 3 24 [ZK.i IntKind.i64,ZK.i IntKind.u64,ZK.b]),
 (231,Ti.mk Kd.func 1 8 [ZK.f]),
 (232,Ti.mk Kd.func 1 8 [ZK.f]),
 (233,Ti.mk (Kd.slice 4) 1 24 [ZK.l]),
 (234,Ti.mk (Kd.struct [Av.Fd.mk 0 1 Bool.false 42]) 1 8 [ZK.i IntKind.i64]),
 (235,Ti.mk (Kd.struct [Av.Fd.mk 0 1 Bool.false 42]) 1 8 [ZK.i IntKind.i64]),
 (237,Ti.mk (Kd.ptr 239) 1 8 [ZK.p]),
 (238,Ti.mk (Kd.struct [Av.Fd.mk 0 1 Bool.false 29,Av.Fd.mk 1 1 Bool.false 3,Av.Fd.mk 2 1 Bool.false 3]) 3 40 [ZK.l,ZK.i IntKind.i64,ZK.i IntKind.i64]),
 (239,Ti.mk (Kd.struct [Av.Fd.mk 0 1 Bool.false 29,Av.Fd.mk 1 1 Bool.false 3,Av.Fd.mk 2 1 Bool.false 3]) 3 40 [ZK.l,ZK.i IntKind.i64,ZK.i IntKind.i64]),
 (240,Ti.mk Kd.func 1 8 [ZK.f]),
 (241,Ti.mk Kd.func 1 8 [ZK.f]),
 (242,Ti.mk Kd.func 1 8 [ZK.f]),
 (243,Ti.mk Kd.func 1 8 [ZK.f]),
 (244,Ti.mk Kd.func 1 8 [ZK.f]),
 (245,Ti.mk (Kd.int IntKind.u64) 1 8 [ZK.i IntKind.u64]),
 (247,Ti.mk Kd.func 1 8 [ZK.f]),
 (249,Ti.mk Kd.func 1 8 [ZK.f]),
 (250,Ti.mk Kd.func 1 8 [ZK.f]),
 (252,Ti.mk Kd.func 1 8 [ZK.f]),
 (253,Ti.mk Kd.func 1 8 [ZK.f]),
 (254,Ti.mk Kd.func 1 8 [ZK.f]),
 (255,Ti.mk Kd.func 1 8 [ZK.f]),
 (257,Ti.mk Kd.func 1 8 [ZK.f]),
 (258,Ti.mk Kd.func 1 8 [ZK.f]),
 (259,Ti.mk Kd.func 1 8 [ZK.f]),
 (260,Ti.mk Kd.func 1 8 [ZK.f]),
 (261,Ti.mk (Kd.struct [Av.Fd.mk 0 1 Bool.false 3,Av.Fd.mk 1 1 Bool.false 22,Av.Fd.mk 2 1 Bool.false 4]) 3 24 [ZK.i IntKind.i64,ZK.i IntKind.u64,ZK.b]),
 (262,Ti.mk Kd.func 1 8 [ZK.f]),
 (263,Ti.mk Kd.func 1 8 [ZK.f]),
 (264,Ti.mk Kd.func 1 8 [ZK.f]),
 (265,Ti.mk Kd.func 1 8 [ZK.f]),
 (266,Ti.mk Kd.func 1 8 [ZK.f]),
 (267,Ti.mk Kd.func 1 8 [ZK.f]),
 (269,Ti.mk Kd.func 1 8 [ZK.f]),
 (270,Ti.mk Kd.func 1 8 [ZK.f]),
 (271,Ti.mk Kd.func 1 8 [ZK.f]),
 (272,Ti.mk Kd.func 1 8 [ZK.f]),
 (273,Ti.mk Kd.func 1 8 [ZK.f]),
 (274,Ti.mk Kd.func 1 8 [ZK.f]),
 (276,Ti.mk Kd.func 1 8 [ZK.f]),
 (277,Ti.mk Kd.func 1 8 [ZK.f]),
 (278,Ti.mk Kd.func 1 8 [ZK.f]),
 (279,Ti.mk Kd.func 1 8 [ZK.f]),
 (280,Ti.mk Kd.func 1 8 [ZK.f]),
 (281,Ti.mk Kd.func 1 8 [ZK.f]),
 (282,Ti.mk Kd.func 1 8 [ZK.f]),
 (283,Ti.mk (Kd.slice 3) 1 24 [ZK.l]),
 (285,Ti.mk Kd.func 1 8 [ZK.f]),
 (286,Ti.mk Kd.func 1 8 [ZK.f]),
 (287,Ti.mk Kd.func 1 8 [ZK.f]),
 (288,Ti.mk (Kd.array 256 5) 256 256 [ZK.i IntKind.u8,ZK.i IntKind.u8,ZK.i IntKind.u8,ZK.i IntKind.u8,ZK.i IntKind.u8,ZK.i IntKind.u8,ZK.i IntKind.u8,ZK.i IntKind.u8,ZK.i IntKind.u8,ZK.i IntKind.u8,ZK.i IntKind.u8,ZK.i IntKind.u8,ZK.i IntKind.u8,ZK.i IntKind.u8,ZK.i IntKind.u8,ZK.i IntKind.u8,ZK.i IntKind.u8,ZK.i IntKind.u8,ZK.i IntKind.u8,ZK.i IntKind.u8,ZK.i IntKind.u8,ZK.i IntKind.u8,ZK.i IntKind.u8,ZK.i IntKind.u8,ZK.i IntKind.u8,ZK.i IntKind.u8,ZK.i IntKind.u8,ZK.i IntKind.u8,ZK.i IntKind.u8,ZK.i IntKind.u8,ZK.i IntKind.u8,ZK.i IntKind.u8,ZK.i IntKind.u8,ZK.i IntKind.u8,ZK.i IntKind.u8,ZK.i IntKind.u8,ZK.i IntKind.u8,ZK.i IntKind.u8,ZK.i IntKind.u8,ZK.i IntKind.u8,ZK.i IntKind.u8,ZK.i IntKind.u8,ZK.i IntKind.u8,ZK.i IntKind.u8,ZK.i IntKind.u8,ZK.i IntKind.u8,ZK.i IntKind.u8,ZK.i IntKind.u8,ZK.i IntKind.u8,ZK.i IntKind.u8,ZK.i IntKind.u8,ZK.i IntKind.u8,ZK.i IntKind.u8,ZK.i IntKind.u8,ZK.i IntKind.u8,ZK.i IntKind.u8,ZK.i IntKind.u8,ZK.i IntKind.u8,ZK.i IntKind.u8,ZK.i IntKind.u8,ZK.i IntKind.u8,ZK.i IntKind.u8,ZK.i IntKind.u8,ZK.i IntKind.u8,ZK.i IntKind.u8,ZK.i IntKind.u8,ZK.i IntKind.u8,ZK.i IntKind.u8,ZK.i IntKind.u8,ZK.i IntKind.u8,ZK.i IntKind.u8,ZK.i IntKind.u8,ZK.i IntKind.u8,ZK.i IntKind.u8,ZK.i IntKind.u8,ZK.i IntKind.u8,ZK.i IntKind.u8,ZK.i IntKind.u8,ZK.i IntKind.u8,ZK.i IntKind.u8,ZK.i IntKind.u8,ZK.i IntKind.u8,ZK.i IntKind.u8,ZK.i IntKind.u8,ZK.i IntKind.u8,ZK.i IntKind.u8,ZK.i IntKind.u8,ZK.i IntKind.u8,ZK.i IntKind.u8,ZK.i IntKind.u8,ZK.i IntKind.u8,ZK.i IntKind.u8,ZK.i IntKind.u8,ZK.i IntKind.u8,ZK.i IntKind.u8,ZK.i IntKind.u8,ZK.i IntKind.u8,ZK.i IntKind.u8,ZK.i IntKind.u8,ZK.i IntKind.u8,ZK.i IntKind.u8,ZK.i IntKind.u8,ZK.i IntKind.u8,ZK.i IntKind.u8,ZK.i IntKind.u8,ZK.i IntKind.u8,ZK.i IntKind.u8,ZK.i IntKind.u8,ZK.i IntKind.u8,ZK.i IntKind.u8,ZK.i IntKind.u8,ZK.i IntKind.u8,ZK.i IntKind.u8,ZK.i IntKind.u8,ZK.i IntKind.u8,ZK.i IntKind.u8,ZK.i IntKind.u8,ZK.i IntKind.u8,ZK.i IntKind.u8,ZK.i IntKind.u8,ZK.i IntKind.u8,ZK.i IntKind.u8,ZK.i IntKind.u8,ZK.i IntKind.u8,ZK.i IntKind.u8,ZK.i IntKind.u8,ZK.i IntKind.u8,ZK.i IntKind.u8,ZK.i IntKind.u8,ZK.i IntKind.u8,ZK.i IntKind.u8,ZK.i IntKind.u8,ZK.i IntKind.u8,ZK.i IntKind.u8,ZK.i IntKind.u8,ZK.i IntKind.u8,ZK.i IntKind.u8,ZK.i IntKind.u8,ZK.i IntKind.u8,ZK.i IntKind.u8,ZK.i IntKind.u8,ZK.i IntKind.u8,ZK.i IntKind.u8,ZK.i IntKind.u8,ZK.i IntKind.u8,ZK.i IntKind.u8,ZK.i IntKind.u8,ZK.i IntKind.u8,ZK.i IntKind.u8,ZK.i IntKind.u8,ZK.i IntKind.u8,ZK.i IntKind.u8,ZK.i IntKind.u8,ZK.i IntKind.u8,ZK.i IntKind.u8,ZK.i IntKind.u8,ZK.i IntKind.u8,ZK.i IntKind.u8,ZK.i IntKind.u8,ZK.i IntKind.u8,ZK.i IntKind.u8,ZK.i IntKind.u8,ZK.i IntKind.u8,ZK.i IntKind.u8,ZK.i IntKind.u8,ZK.i IntKind.u8,ZK.i IntKind.u8,ZK.i IntKind.u8,ZK.i IntKind.u8,ZK.i IntKind.u8,ZK.i IntKind.u8,ZK.i IntKind.u8,ZK.i IntKind.u8,ZK.i IntKind.u8,ZK.i IntKind.u8,ZK.i IntKind.u8,ZK.i IntKind.u8,ZK.i IntKind.u8,ZK.i IntKind.u8,ZK.i IntKind.u8,ZK.i IntKind.u8,ZK.i IntKind.u8,ZK.i IntKind.u8,ZK.i IntKind.u8,ZK.i IntKind.u8,ZK.i IntKind.u8,ZK.i IntKind.u8,ZK.i IntKind.u8,ZK.i IntKind.u8,ZK.i IntKind.u8,ZK.i IntKind.u8,ZK.i IntKind.u8,ZK.i IntKind.u8,ZK.i IntKind.u8,ZK.i IntKind.u8,ZK.i IntKind.u8,ZK.i IntKind.u8,ZK.i IntKind.u8,ZK.i IntKind.u8,ZK.i IntKind.u8,ZK.i IntKind.u8,ZK.i IntKind.u8,ZK.i IntKind.u8,ZK.i IntKind.u8,ZK.i IntKind.u8,ZK.i IntKind.u8,ZK.i IntKind.u8,ZK.i IntKind.u8,ZK.i IntKind.u8,ZK.i IntKind.u8,ZK.i IntKind.u8,ZK.i IntKind.u8,ZK.i IntKind.u8,ZK.i IntKind.u8,ZK.i IntKind.u8,ZK.i IntKind.u8,ZK.i IntKind.u8,ZK.i IntKind.u8,ZK.i IntKind.u8,ZK.i IntKind.u8,ZK.i IntKind.u8,ZK.i IntKind.u8,ZK.i IntKind.u8,ZK.i IntKind.u8,ZK.i IntKind.u8,ZK.i IntKind.u8,ZK.i IntKind.u8,ZK.i IntKind.u8,ZK.i IntKind.u8,ZK.i IntKind.u8,ZK.i IntKind.u8,ZK.i IntKind.u8,ZK.i IntKind.u8,ZK.i IntKind.u8,ZK.i IntKind.u8,ZK.i IntKind.u8,ZK.i IntKind.u8,ZK.i IntKind.u8,ZK.i IntKind.u8,ZK.i IntKind.u8,ZK.i IntKind.u8,ZK.i IntKind.u8,ZK.i IntKind.u8,ZK.i IntKind.u8,ZK.i IntKind.u8,ZK.i IntKind.u8,ZK.i IntKind.u8,ZK.i IntKind.u8,ZK.i IntKind.u8,ZK.i IntKind.u8,ZK.i IntKind.u8,ZK.i IntKind.u8,ZK.i IntKind.u8,ZK.i IntKind.u8,ZK.i IntKind.u8,ZK.i IntKind.u8]),
 (289,Ti.mk (Kd.struct [Av.Fd.mk 0 1 Bool.false 5,Av.Fd.mk 1 1 Bool.false 5]) 2 2 [ZK.i IntKind.u8,ZK.i IntKind.u8]),
 (290,Ti.mk (Kd.struct [Av.Fd.mk 0 1 Bool.false 5,Av.Fd.mk 1 1 Bool.false 5]) 2 2 [ZK.i IntKind.u8,ZK.i IntKind.u8]),
 (291,Ti.mk (Kd.array 16 290) 32 32 [ZK.i IntKind.u8,ZK.i IntKind.u8,ZK.i IntKind.u8,ZK.i IntKind.u8,ZK.i IntKind.u8,ZK.i IntKind.u8,ZK.i IntKind.u8,ZK.i IntKind.u8,ZK.i IntKind.u8,ZK.i IntKind.u8,ZK.i IntKind.u8,ZK.i IntKind.u8,ZK.i IntKind.u8,ZK.i IntKind.u8,ZK.i IntKind.u8,ZK.i IntKind.u8,ZK.i IntKind.u8,ZK.i IntKind.u8,ZK.i IntKind.u8,ZK.i IntKind.u8,ZK.i IntKind.u8,ZK.i IntKind.u8,ZK.i IntKind.u8,ZK.i IntKind.u8,ZK.i IntKind.u8,ZK.i IntKind.u8,ZK.i IntKind.u8,ZK.i IntKind.u8,ZK.i IntKind.u8,ZK.i IntKind.u8,ZK.i IntKind.u8,ZK.i IntKind.u8]),
 (292,Ti.mk Kd.func 1 8 [ZK.f]),
 (293,Ti.mk Kd.func 1 8 [ZK.f]),
 (294,Ti.mk Kd.func 1 8 [ZK.f]),
 (296,Ti.mk Kd.func 1 8 [ZK.f]),
 (297,Ti.mk Kd.func 1 8 [ZK.f]),
 (298,Ti.mk (Kd.struct [Av.Fd.mk 0 1 Bool.false 17,Av.Fd.mk 1 1 Bool.false 17,Av.Fd.mk 2 1 Bool.false 17,Av.Fd.mk 3 1 Bool.false 9]) 4 40 [ZK.p,ZK.p,ZK.p,ZK.s]),
 (299,Ti.mk (Kd.struct [Av.Fd.mk 0 1 Bool.false 17,Av.Fd.mk 1 1 Bool.false 17,Av.Fd.mk 2 1 Bool.false 17,Av.Fd.mk 3 1 Bool.false 9]) 4 40 [ZK.p,ZK.p,ZK.p,ZK.s]),
 (300,Ti.mk (Kd.array 0 16) 0 0 []),
 (301,Ti.mk (Kd.struct [Av.Fd.mk 0 0 Bool.true 300]) 0 0 []),
 (302,Ti.mk (Kd.struct [Av.Fd.mk 0 0 Bool.true 300]) 0 0 []),
 (303,Ti.mk Kd.func 1 8 [ZK.f]),
 (304,Ti.mk (Kd.int IntKind.u8) 1 1 [ZK.i IntKind.u8]),
 (305,Ti.mk (Kd.int IntKind.u8) 1 1 [ZK.i IntKind.u8]),
 (306,Ti.mk Kd.func 1 8 [ZK.f]),
 (307,Ti.mk (Kd.ptr 5) 1 8 [ZK.p]),
 (308,Ti.mk (Kd.int IntKind.i32) 1 4 [ZK.i IntKind.i32]),
 (309,Ti.mk (Kd.int IntKind.i32) 1 4 [ZK.i IntKind.i32]),
 (310,Ti.mk (Kd.struct [Av.Fd.mk 0 1 Bool.false 12,Av.Fd.mk 1 1 Bool.false 12,Av.Fd.mk 2 1 Bool.false 219,Av.Fd.mk 3 1 Bool.false 304,Av.Fd.mk 4 1 Bool.false 5,Av.Fd.mk 5 1 Bool.false 5,Av.Fd.mk 6 1 Bool.false 305,Av.Fd.mk 7 1 Bool.false 306,Av.Fd.mk 8 1 Bool.false 307,Av.Fd.mk 9 1 Bool.false 308,Av.Fd.mk 10 1 Bool.false 309]) 11 48 [ZK.i IntKind.u64,ZK.i IntKind.u64,ZK.i IntKind.u32,ZK.i IntKind.u8,ZK.i IntKind.u8,ZK.i IntKind.u8,ZK.i IntKind.u8,ZK.f,ZK.p,ZK.i IntKind.i32,ZK.i IntKind.i32]),
 (311,Ti.mk (Kd.struct [Av.Fd.mk 0 1 Bool.false 12,Av.Fd.mk 1 1 Bool.false 12,Av.Fd.mk 2 1 Bool.false 219,Av.Fd.mk 3 1 Bool.false 304,Av.Fd.mk 4 1 Bool.false 5,Av.Fd.mk 5 1 Bool.false 5,Av.Fd.mk 6 1 Bool.false 305,Av.Fd.mk 7 1 Bool.false 306,Av.Fd.mk 8 1 Bool.false 307,Av.Fd.mk 9 1 Bool.false 308,Av.Fd.mk 10 1 Bool.false 309]) 11 48 [ZK.i IntKind.u64,ZK.i IntKind.u64,ZK.i IntKind.u32,ZK.i IntKind.u8,ZK.i IntKind.u8,ZK.i IntKind.u8,ZK.i IntKind.u8,ZK.f,ZK.p,ZK.i IntKind.i32,ZK.i IntKind.i32])]
theorem Zab:chk Tryz.prog tt=true:=by kernel_rfl
theorem ZaR:Tryz.prog.follows .mixedOrders=true:=by kernel_rfl
abbrev byE (l:List UInt8):D:=.sl .ext (l.map E.byte)
theorem Zbq (l:List UInt8):Uni 1 (l.map E.byte):=Uni.map (f:=E.byte) (fun _=>rfl) l
end Go.Proofs.YtakblclkflnnpaaGreatDoor
end
section
open Go.RowKit Go.Pl
namespace Go.Proofs.YtakblclkflnnpaaGreatDoor
abbrev Hd:=Int × Nat × Bool
def hv (h:Hd):Value:=.agg #[.int .i64 h.1,.int .u64 (h.2.1:Int),.bool h.2.2]
def ZlI (m:Int):Bool:=decide (2<=m/\m<=5\/m=7)
def Zbh (h:Hd):Bool:=if h.2.2 then decide (h.2.1=0)&&ZlI h.1 else decide (0<=h.1/\h.1<=7)
def ZaH (n:Nat):Nat:=if n<24 then 0 else if n<256 then 1 else if n<65536 then 2 else if n<4294967296 then 4 else 8
def Zbz (n:Nat):Nat:=if n<24 then n else if n<256 then 24 else if n<65536 then 25 else if n<4294967296 then 26 else 27
def Zhb (h:Hd):Nat:=if Zbh h then(if h.2.2 then 1 else 1+ZaH h.2.1) else 0
def beN (n k:Nat):List UInt8:=(List.range k).map (fun i=>UInt8.ofNat (n/256 ^ (k-1-i)))
def Zb4 (m i:Nat):UInt8:=UInt8.ofNat (32*m+i)
def ZaV (h:Hd):List UInt8:=if h.2.2 then [Zb4 h.1.toNat 31] else Zb4 h.1.toNat (Zbz h.2.1)::beN h.2.1 (ZaH h.2.1)
theorem ZfV (n:Nat):ZaH n<=8:=by
 unfold ZaH
 repeat' split
 all_goals omega
theorem ZiK (n:Nat):Zbz n<=27:=by
 unfold Zbz
 repeat' split
 all_goals omega
theorem ZpR (M i:Nat)(hM:M<=7)(hi:i<32):bits .or .u8 ((M:Int)*32) (i:Int)=((32*M+i:Nat):Int):=by
 have h:=u8_or ((M:Int)*32) (i:Int) (by omega) (by omega) (by omega) (by omega)
 rw[h,show((M:Int)*32).toNat=32*M from by omega,Int.toNat_natCast]
 rw[nat_join 5 (32*M) i (by omega) (by omega)]
theorem Za7 (n k:Nat):(beN n k).length=k:=by simp[beN]
theorem Zea (n k i:Nat)(h:i<k):(beN n k).take (i+1)=(beN n k).take i++[UInt8.ofNat (n/256 ^ (k-1-i))]:=by
 rw[List.take_succ_eq_append_getElem (by rw[Za7];exact h)]
 simp[beN]
def Zhc (l:List UInt8):Nat:=l.foldl (fun a c=>256*a+c.toNat) 0
def Zl6 (b:List UInt8)(p:Nat):Hd × Nat × Nat:=
 match b.drop p with
 | []=>((0,0,false),0,8)
 | c::r=>
  if c.toNat % 32<24 then(((c.toNat/32:Nat),c.toNat % 32,false),p+1,0)
  else if c.toNat % 32=31/\ZlI (c.toNat/32:Nat)=true then(((c.toNat/32:Nat),0,true),p+1,0)
  else if 27<c.toNat % 32 then((0,0,false),0,3)
  else if r.length<2 ^ (c.toNat % 32-24) then((0,0,false),0,8)
  else(((c.toNat/32:Nat),Zhc (r.take (2 ^ (c.toNat % 32-24))),false),p+1+2 ^ (c.toNat % 32-24),0)
theorem ZjA (l:List UInt8)(c:UInt8):Zhc (l++[c])=256*Zhc l+c.toNat:=by simp[Zhc]
theorem Zl7 (h:Hd):Zhb h<=9:=by
 unfold Zhb
 have:=ZfV h.2.1
 split
 ·split<;>omega
 ·omega
theorem ZcP (m i:Nat)(hm:m<=7)(hi:i<32):(Zb4 m i).toNat=32*m+i:=Zit (by omega)
theorem ZkE (n k:Nat)(h:n<256 ^ k):Zhc (beN n k)=n:=by
 have key:∀ i,i<=k->Zhc ((beN n k).take i)=n/256 ^ (k-i):=by
  intro i
  induction i with
  | zero=>intro _;simp[Zhc];exact(Nat.div_eq_of_lt h).symm
  | succ i ih=>
   intro hi
   rw[Zea n k i (by omega),ZjA,ih (by omega),UInt8.toNat_ofNat']
   have e:256 ^ (k-i)=256 ^ (k-1-i)*256:=by rw[<- Nat.pow_succ];congr 1;omega
   rw[e,<- Nat.div_div_eq_div_mul,show k-(i+1)=k-1-i from by omega]
   omega
 have:=key k (Nat.le_refl _)
 rwa [List.take_of_length_le (by rw[Za7];exact Nat.le_refl _),Nat.sub_self,Nat.pow_zero,Nat.div_one]at this
theorem ZeH (n:Nat)(hn:n<18446744073709551616):(n<24/\ZaH n=0/\Zbz n=n)\/(24<=n/\ZaH n=2 ^ (Zbz n-24)/\24<=Zbz n/\Zbz n<=27/\n<256 ^ ZaH n):=by
 unfold ZaH Zbz
 by_cases h1:n<24
 ·simp[h1]
 right
 refine⟨by omega,?_⟩
 by_cases h2:n<256
 ·simp[h1,h2]
 by_cases h3:n<65536
 ·simp[h1,h2,h3]
 by_cases h4:n<4294967296
 ·simp[h1,h2,h3,h4]
 ·simp[h1,h2,h3,h4];omega
theorem Zcq (h:Hd)(hr:Zbh h=true):(ZaV h).length=Zhb h:=by
 unfold ZaV Zhb
 rw[if_pos hr]
 split
 ·rfl
 ·simp[Za7];omega
theorem Zff {h:Hd}(hr:Zbh h=true):0<=h.1/\h.1<=7:=by
 obtain⟨m,n,o⟩:=h
 cases o<;>simp[Zbh,ZlI]at hr<;>dsimp only<;>omega
theorem Zhd {m:Int}{n:Nat}(hr:Zbh (m,n,true)=true):n=0/\ZlI m=true:=by
 simpa[Zbh]using hr
theorem ZjB (h:Hd)(hr:Zbh h=true)(hn:h.2.1<18446744073709551616)(a c:List UInt8):Zl6 (a++ZaV h++c) a.length=(h,a.length+(ZaV h).length,0):=by
 obtain⟨m,n,o⟩:=h
 obtain⟨hm0,hm7⟩:=Zff hr
 dsimp only at hn hm0 hm7
 obtain⟨M,rfl⟩:∃ M:Nat,m=(M:Int):=⟨m.toNat,by omega⟩
 have hM:M<=7:=by omega
 unfold Zl6
 rw[List.append_assoc,List.drop_left]
 cases o with
 | true=>
  obtain⟨rfl,hmay⟩:=Zhd hr
  simp only[ZaV,if_true,Int.toNat_natCast,List.cons_append,List.nil_append]
  rw[ZcP M 31 hM (by decide)]
  rw[if_neg (by omega),show(32*M+31)/32=M from by omega,if_pos ⟨by omega,hmay⟩]
  rfl
 | false=>
  have hw:ZaV ((M:Int),n,false)=Zb4 M (Zbz n)::beN n (ZaH n):=by simp[ZaV]
  rw[hw]
  simp only[List.cons_append]
  rcases ZeH n hn with⟨h1,h2,h3⟩ | ⟨h1,h2,h3,h4,h5⟩
  ·rw[ZcP M (Zbz n) hM (by omega),h3,h2]
   rw[if_pos (by omega),show(32*M+n)/32=M from by omega,show(32*M+n) % 32=n from by omega]
   simp[beN]
  ·rw[ZcP M (Zbz n) hM (by omega)]
   have e1:(32*M+Zbz n)/32=M:=by omega
   have e2:(32*M+Zbz n) % 32=Zbz n:=by omega
   rw[e1,e2,if_neg (by omega),if_neg (by omega),if_neg (by omega),<- h2]
   rw[if_neg (by rw[List.length_append,Za7];omega)]
   rw[List.take_append_of_le_length (by rw[Za7];exact Nat.le_refl _),List.take_of_length_le (by rw[Za7];exact Nat.le_refl _),ZkE n _ h5]
   rw[List.length_cons,Za7]
   congr 2
   omega
end Go.Proofs.YtakblclkflnnpaaGreatDoor
end
section
open Go.RowKit Go.Pl
namespace Go.Proofs.YtakblclkflnnpaaGreatDoor
def inB (c lo hi:Nat):Bool:=decide (lo<=c)&&decide (c<=hi)
def ptN (c:Nat):Nat:=if c<128 then 1 else if inB c 194 223 then 2 else if inB c 224 239 then 3 else if inB c 240 244 then 4 else 0
def Zct (c:Nat):Nat:=if c=224 then 160 else if c=240 then 144 else 128
def Zcu (c:Nat):Nat:=if c=237 then 159 else if c=244 then 143 else 191
def pt:List UInt8->Nat
 | []=>0
 | c::r=>match ptN c.toNat with
  | 1=>1
  | 2=>(match r with|c1::_=>if inB c1.toNat (Zct c.toNat) (Zcu c.toNat) then 2 else 0|_=>0)
  | 3=>(match r with|c1::c2::_=>if inB c1.toNat (Zct c.toNat) (Zcu c.toNat)&&inB c2.toNat 128 191 then 3 else 0|_=>0)
  | 4=>(match r with|c1::c2::c3::_=>if inB c1.toNat (Zct c.toNat) (Zcu c.toNat)&&(inB c2.toNat 128 191&&inB c3.toNat 128 191) then 4 else 0|_=>0)
  | _=>0
def ZeI:Nat->List UInt8->Bool
 | _,[]=>true
 | 0,_=>false
 | f+1,c::r=>match pt (c::r) with
  | 0=>false
  | k+1=>ZeI f (r.drop k)
def ZaD (b:List UInt8):Bool:=ZeI b.length b
theorem Zfg:∀(f g:Nat) (b:List UInt8),b.length<=f->b.length<=g->ZeI f b=ZeI g b
 | _,_,[],_,_=>by simp[ZeI]
 | 0,_,c::r,h,_=>by simp at h
 | _+1,0,c::r,_,h=>by simp at h
 | f+1,g+1,c::r,h1,h2=>by
  simp only[ZeI]
  split
  ·rfl
  ·rename_i k _
   simp at h1 h2
   exact Zfg f g _ (by simp;omega) (by simp;omega)
theorem Zbo (c:UInt8)(r:List UInt8):ZaD (c::r)=match pt (c::r) with|0=>false|k+1=>ZaD (r.drop k):=by
 show ZeI (r.length+1) (c::r)=_
 rw[ZeI]
 split
 ·rfl
 ·exact Zfg _ _ _ (by simp) (Nat.le_refl _)
theorem Zpe (b:List UInt8):pt b<=b.length:=by
 unfold pt
 repeat' split
 all_goals simp
inductive It where
 | mk (k:Int) (n:Nat) (b:List UInt8) (l:List It)
 deriving Inhabited
def It.k:It->Int | .mk k _ _ _=>k
def It.n:It->Nat | .mk _ n _ _=>n
def It.b:It->List UInt8 | .mk _ _ b _=>b
def It.l:It->List It | .mk _ _ _ l=>l
mutual
def It.beq:It->It->Bool
 | .mk k n b l,.mk k' n' b' l'=>(k==k')&&((n==n')&&((b==b')&&It.beqs l l'))
def It.beqs:List It->List It->Bool
 | [],[]=>true
 | x::l,y::l'=>match It.beq x y with|true=>It.beqs l l' | false=>false
 | _,_=>false
end
mutual
theorem It.beq_iff:∀ {x y:It},It.beq x y=true ↔ x=y
 | .mk k n b l,.mk k' n' b' l'=>by
  simp only[It.beq,Bool.and_eq_true,beq_iff_eq,It.mk.injEq]
  rw[It.beqs_iff]
theorem It.beqs_iff:∀ {l l':List It},It.beqs l l'=true ↔ l=l'
 | [],[]=>by simp[It.beqs]
 | [],y::l'=>by simp[It.beqs]
 | x::l,[]=>by simp[It.beqs]
 | x::l,y::l'=>by
  simp only[It.beqs,List.cons.injEq]
  cases h:It.beq x y with
  | true=>simp only[It.beq_iff.1 h,true_and];exact It.beqs_iff
  | false=>simp only[Bool.false_eq_true,false_iff,not_and];intro e;rw[It.beq_iff.2 e]at h;cases h
end
instance:DecidableEq It:=fun x y=>if h:It.beq x y=true then .isTrue (It.beq_iff.1 h) else .isFalse fun e=>h (It.beq_iff.2 e)
def ZdF (k:Int)(n:Nat)(b:List UInt8)(l:List It):Bool:=
 if k=0 then b.isEmpty&&l.isEmpty else if k=2 then decide (n=0)&&l.isEmpty else if k=3 then decide (n=0)&&(l.isEmpty&&ZaD b) else if k=4 then decide (n=0)&&b.isEmpty else false
mutual
def ZcT:It->Nat->Nat->Option Nat
 | .mk k n b l,d,m=>if 6<d then none else if m<1 then none else match ZdF k n b l with
  | false=>none
  | true=>Zcl l (d+1) (m-1)
def Zcl:List It->Nat->Nat->Option Nat
 | [],_,m=>some m
 | y::l,d,m=>match ZcT y d m with
  | none=>none
  | some r=>Zcl l d r
end
def Zaw (x:It):Bool:=(ZcT x 1 256).isSome
mutual
def wfI:It->Prop
 | .mk _ n b l=>n<18446744073709551616/\b.length<=140737488351232/\l.length<=2199023255488/\wfs l
def wfs:List It->Prop
 | []=>True
 | x::l=>wfI x/\wfs l
end
def It.hn:It->Nat | .mk k n b l=>if k=2 then b.length else if k=3 then b.length else if k=4 then l.length else n
mutual
def Za1:It->List UInt8
 | .mk k n b l=>(if Zbh (k,(It.mk k n b l).hn,false) then ZaV (k,(It.mk k n b l).hn,false) else [])++(b++Za0 l)
def Za0:List It->List UInt8
 | []=>[]
 | x::l=>Za1 x++Za0 l
end
abbrev Res (α:Type):=Except Nat α
def rdS:List UInt8->Res (Hd × List UInt8)
 | []=>.error 8
 | c::r=>
  if c.toNat % 32<24 then .ok (((c.toNat/32:Nat),c.toNat % 32,false),r)
  else if c.toNat % 32=31/\ZlI (c.toNat/32:Nat)=true then .ok (((c.toNat/32:Nat),0,true),r)
  else if 27<c.toNat % 32 then .error 3
  else if r.length<2 ^ (c.toNat % 32-24) then .error 8
  else .ok (((c.toNat/32:Nat),Zhc (r.take (2 ^ (c.toNat % 32-24))),false),r.drop (2 ^ (c.toNat % 32-24)))
def ZfW (h:Hd)(s:List UInt8):Res (List UInt8 × List UInt8):=
 if h.2.1<=s.length then(if h.1=3/\ZaD (s.take h.2.1)=false then .error 3 else .ok (s.take h.2.1,s.drop h.2.1)) else .error 8
def ZpF:List UInt8->Bool
 | c::_=>c==255
 | []=>false
def ZpG (m:Int):Nat->List UInt8->List UInt8->Res (List UInt8 × List UInt8)
 | 0,_,_=>.error 99
 | f+1,acc,s=>match ZpF s with
  | true=>.ok (acc,s.tail)
  | false=>match rdS s with
   | .error e=>.error e
   | .ok (p,r)=>if p.1=m/\p.2.2=false then(match ZfW p r with
     | .error e=>.error e
     | .ok (c,r2)=>ZpG m f (acc++c) r2) else .error 3
def Zns (it:Nat->List UInt8->Res (It × List UInt8 × Nat)):Nat->List It->Nat->List UInt8->Res (List It × List UInt8 × Nat)
 | 0,acc,m,s=>.ok (acc,s,m)
 | f+1,acc,m,s=>match it m s with
  | .error e=>.error e
  | .ok (x,r,m')=>Zns it f (acc++[x]) m' r
def ZpH (it:Nat->List UInt8->Res (It × List UInt8 × Nat)):Nat->List It->Nat->List UInt8->Res (List It × List UInt8 × Nat)
 | 0,_,_,_=>.error 99
 | f+1,acc,m,s=>match ZpF s with
  | true=>.ok (acc,s.tail,m)
  | false=>match it m s with
   | .error e=>.error e
   | .ok (x,r,m')=>ZpH it f (acc++[x]) m' r
def okK (k:Int):Bool:=k==0||(k==2||(k==3||k==4))
def Zov (h:Hd)(r:List UInt8):Res (List UInt8 × List UInt8):=match h.2.2 with
 | true=>ZpG h.1 (r.length+1) [] r
 | false=>ZfW h r
def Zpf (it:Nat->List UInt8->Res (It × List UInt8 × Nat))(h:Hd)(m:Nat)(r:List UInt8):Res (List It × List UInt8 × Nat):=match h.2.2 with
 | true=>ZpH it (r.length+1) [] m r
 | false=>if h.2.1<=r.length then Zns it h.2.1 [] m r else .error 8
def ZeL (it:Nat->List UInt8->Res (It × List UInt8 × Nat))(h:Hd)(m:Nat)(r:List UInt8):Res (It × List UInt8 × Nat):=
 if h.1=0 then .ok (.mk 0 h.2.1 [] [],r,m)
 else if h.1=4 then(match Zpf it h m r with
  | .error e=>.error e
  | .ok (l,r2,m2)=>.ok (.mk 4 0 [] l,r2,m2))
 else match Zov h r with
  | .error e=>.error e
  | .ok (c,r2)=>.ok (.mk h.1 0 c [],r2,m)
def Zfh:Nat->Nat->List UInt8->Res (It × List UInt8 × Nat)
 | 0,m,s=>match rdS s with
  | .error e=>.error e
  | .ok (h,r)=>if okK h.1=false then .error 3 else .error 9
 | d+1,m,s=>match rdS s with
  | .error e=>.error e
  | .ok (h,r)=>if okK h.1=false then .error 3 else if m=0 then .error 2 else ZeL (Zfh d) h (m-1) r
end Go.Proofs.YtakblclkflnnpaaGreatDoor
end
section
open Go.RowKit Go.Pl
namespace Go.Proofs.YtakblclkflnnpaaGreatDoor
theorem ZjC {s r:List UInt8}{h:Hd}(e:rdS s=.ok (h,r)):∃ pre,s=pre++r/\0<pre.length:=by
 cases s with
 | nil=>simp[rdS]at e
 | cons c t=>
  simp only[rdS]at e
  split at e
  ·injection e with e;injection e with e1 e2;subst e2;exact⟨[c],rfl,by simp⟩
  split at e
  ·injection e with e;injection e with e1 e2;subst e2;exact⟨[c],rfl,by simp⟩
  split at e
  ·cases e
  split at e
  ·cases e
  ·injection e with e;injection e with e1 e2;subst e2
   exact⟨c::t.take (2 ^ (c.toNat % 32-24)),by simp,by simp⟩
theorem ZkF (b:List UInt8)(p:Nat)(hp:p<=b.length):Zl6 b p=match rdS (b.drop p) with
  | .error e=>((0,0,false),0,e)
  | .ok (h,r)=>(h,b.length-r.length,0):=by
 unfold Zl6
 have hl:(b.drop p).length=b.length-p:=List.length_drop ..
 cases hs:b.drop p with
 | nil=>simp[rdS]
 | cons c r=>
  rw[hs]at hl
  simp at hl
  simp only[rdS]
  by_cases h1:c.toNat % 32<24
  ·simp[h1];omega
  by_cases h2:c.toNat % 32=31/\ZlI (c.toNat/32:Nat)=true
  ·rw[if_neg h1,if_pos h2,if_neg h1,if_pos h2]
   simp;omega
  by_cases h3:27<c.toNat % 32
  ·rw[if_neg h1,if_neg h2,if_pos h3,if_neg h1,if_neg h2,if_pos h3]
  by_cases h4:r.length<2 ^ (c.toNat % 32-24)
  ·rw[if_neg h1,if_neg h2,if_neg h3,if_pos h4,if_neg h1,if_neg h2,if_neg h3,if_pos h4]
  ·rw[if_neg h1,if_neg h2,if_neg h3,if_neg h4,if_neg h1,if_neg h2,if_neg h3,if_neg h4]
   generalize 2 ^ (c.toNat % 32-24)=k at h4 ⊢
   simp;omega
theorem Zhe (h:Hd)(hr:Zbh h=true)(hn:h.2.1<18446744073709551616)(s:List UInt8):rdS (ZaV h++s)=.ok (h,s):=by
 have e:=ZjB h hr hn [] s
 simp only[List.nil_append,List.length_nil,Nat.zero_add]at e
 rw[ZkF _ 0 (Nat.zero_le _),List.drop_zero]at e
 cases hx:rdS (ZaV h++s) with
 | error c => rw [hx] at e; simp at e; have := e.2.1; have := Zcq h hr; have : 0 < Zhb h := by unfold Zhb; rw [if_pos hr]; split <;> omega
              omega
 | ok y=>
  obtain⟨h',r⟩:=y
  rw[hx]at e
  simp only[Prod.mk.injEq,and_true]at e
  obtain⟨e1,e2⟩:=e
  obtain⟨pre,hp,_⟩:=ZjC hx
  have hl:=congrArg List.length hp
  simp at hl e2
  have:pre.length=(ZaV h).length:=by omega
  have:=List.append_inj hp this.symm
  rw[<- this.2,e1]
theorem Znt (h:Hd)(hr:Zbh h=true)(hn:h.2.1<18446744073709551616)(c:Nat)(hc:c<(ZaV h).length):rdS ((ZaV h).take c)=.error 8:=by
 cases c with
 | zero=>rfl
 | succ c=>
  obtain⟨m,n,o⟩:=h
  obtain⟨hm0,hm7⟩:=Zff hr
  cases o with
  | true=>simp[ZaV]at hc
  | false=>
   have hw:ZaV (m,n,false)=Zb4 m.toNat (Zbz n)::beN n (ZaH n):=rfl
   rw[hw]at hc ⊢
   simp only[List.length_cons,Za7]at hc
   dsimp only at hm0 hm7 hn
   rw[List.take_succ_cons]
   have hi:=ZiK n
   have ht:(Zb4 m.toNat (Zbz n)).toNat=32*m.toNat+Zbz n:=ZcP _ _ (by omega) (by omega)
   rcases ZeH n hn with⟨_,hf,_⟩ | ⟨_,hf,h24,h27,_⟩
   ·omega
   ·simp only[rdS,ht]
    have e:(32*m.toNat+Zbz n) % 32=Zbz n:=by omega
    rw[e,if_neg (by omega),if_neg (by omega),if_neg (by omega),if_pos]
    rw[List.length_take,Za7,<- hf]
    omega
theorem ZfX {k:Int}{n:Nat}{b:List UInt8}{l:List It}(h:ZdF k n b l=true):(k=0/\b=[]/\l=[])\/(k=2/\n=0/\l=[])\/(k=3/\n=0/\l=[]/\ZaD b=true)\/(k=4/\n=0/\b=[]):=by
 unfold ZdF at h
 by_cases h0:k=0
 ·simp[h0]at h;exact .inl ⟨h0,h⟩
 by_cases h2:k=2
 ·simp[h2]at h;exact .inr (.inl ⟨h2,h⟩)
 by_cases h3:k=3
 ·simp[h3]at h;exact .inr (.inr (.inl ⟨h3,h⟩))
 by_cases h4:k=4
 ·simp[h4]at h;exact .inr (.inr (.inr ⟨h4,h⟩))
 ·simp[h0,h2,h3,h4]at h
theorem ZiL {x:It}(h:0<=x.k/\x.k<=7):0<(Za1 x).length:=by
 obtain⟨k,n,b,l⟩:=x
 simp only[It.k]at h
 have hr:Zbh (k,(It.mk k n b l).hn,false)=true:=by simp[Zbh];exact h
 rw[Za1,if_pos hr,List.length_append,Zcq _ hr]
 unfold Zhb;rw[if_pos hr];simp;omega
theorem ZcD {k:Int}{n:Nat}{b:List UInt8}{l:List It}{d m m':Nat}(h:ZcT (.mk k n b l) d m=some m'):d<=6/\1<=m/\ZdF k n b l=true/\Zcl l (d+1) (m-1)=some m':=by
 rw[ZcT]at h
 split at h
 ·cases h
 split at h
 ·cases h
 split at h
 ·cases h
 ·rename_i h3;exact⟨by omega,by omega,h3,h⟩
theorem Zfi {k:Int}{n:Nat}{b:List UInt8}{l:List It}(h:ZdF k n b l=true):0<=k/\k<=7:=by
 rcases ZfX h with⟨h,_⟩ | ⟨h,_⟩ | ⟨h,_⟩ | ⟨h,_⟩<;>omega
theorem Zcv {x:It}{l:List It}{d m m':Nat}(h:Zcl (x::l) d m=some m'):∃ m1,ZcT x d m=some m1/\Zcl l d m1=some m':=by
 rw[Zcl]at h
 split at h
 ·cases h
 ·rename_i m1 h1;exact⟨m1,h1,h⟩
theorem ZiM:∀ {l:List It} {d m m':Nat},Zcl l d m=some m'->l.length<=(Za0 l).length
 | [],_,_,_,_=>by simp
 | x::l,d,m,m',h=>by
  obtain⟨m1,h1,h2⟩:=Zcv h
  have:=ZiM h2
  obtain⟨k,n,b,lx⟩:=x
  have:=ZiL (x:=.mk k n b lx) (Zfi (ZcD h1).2.2.1)
  rw[Za0];simp;omega
theorem ZkG {k:Int}{n:Nat}{b:List UInt8}{l:List It}(h:ZdF k n b l=true):okK k=true:=by
 rcases ZfX h with⟨h,_⟩ | ⟨h,_⟩ | ⟨h,_⟩ | ⟨h,_⟩<;>subst h<;>rfl
theorem ZiN {k:Int}{n:Nat}{b:List UInt8}{l:List It}(h:ZdF k n b l=true)(hw:wfI (.mk k n b l)):Zbh (k,(It.mk k n b l).hn,false)=true/\(It.mk k n b l).hn<18446744073709551616:=by
 refine⟨by simp[Zbh];exact Zfi h,?_⟩
 obtain⟨h1,h2,h3,_⟩:=hw
 rcases ZfX h with⟨h,_⟩ | ⟨h,_⟩ | ⟨h,_⟩ | ⟨h,_⟩<;>subst h<;>simp[It.hn]<;>omega
mutual
theorem ZiO:∀(x:It) (d m m':Nat) (r:List UInt8),wfI x->d<=6->ZcT x (7-d) m=some m'->Zfh d m (Za1 x++r)=.ok (x,r,m')
 | .mk k n b l,d,m,m',r,hw,hd,h=>by
  obtain⟨h1,h2,h3,h4⟩:=ZcD h
  obtain⟨hr,hn⟩:=ZiN h3 hw
  obtain⟨d,rfl⟩:∃ e,d=e+1:=⟨d-1,by omega⟩
  have e7:7-(d+1)+1=7-d:=by omega
  rw[e7]at h4
  rw[Za1,if_pos hr,List.append_assoc,Zfh,Zhe _ hr hn]
  dsimp only
  rw[ZkG h3,if_neg (by simp),if_neg (by omega)]
  obtain⟨w1,w2,w3,w4⟩:=hw
  rcases ZfX h3 with⟨rfl,rfl,rfl⟩ | ⟨rfl,rfl,rfl⟩ | ⟨rfl,rfl,rfl,hv⟩ | ⟨rfl,rfl,rfl⟩
  ·simp only[Zcl,Option.some.injEq]at h4
   simp[ZeL,Za0,It.hn,h4]
  ·simp only[Zcl,Option.some.injEq]at h4
   simp[ZeL,Za0,It.hn,Zov,ZfW,h4]
  ·simp only[Zcl,Option.some.injEq]at h4
   simp[ZeL,Za0,It.hn,Zov,ZfW,h4,hv]
  ·have hl:=ZiM h4
   have hq:=ZiP l d (m-1) m' [] r w4 (by omega) h4
   show ZeL (Zfh d) (4,l.length,false) (m-1) ([]++Za0 l++r)=_
   rw[ZeL,if_neg (by simp),if_pos rfl]
   simp only[Zpf,List.nil_append]
   rw[if_pos (by rw[List.length_append];omega),hq]
   rfl
theorem ZiP:∀(l:List It) (d m m':Nat) (acc:List It) (r:List UInt8),wfs l->d<=6->Zcl l (7-d) m=some m'->Zns (Zfh d) l.length acc m (Za0 l++r)=.ok (acc++l,r,m')
 | [],d,m,m',acc,r,_,_,h=>by
  simp only[Zcl,Option.some.injEq]at h
  simp[Zns,Za0,h]
 | x::l,d,m,m',acc,r,hw,hd,h=>by
  obtain⟨m1,h1,h2⟩:=Zcv h
  rw[Za0,List.append_assoc,List.length_cons,Zns,ZiO x d m m1 _ hw.1 hd h1]
  dsimp only
  rw[ZiP l d m1 m' (acc++[x]) r hw.2 hd h2]
  simp
end
mutual
theorem Zl8:∀(x:It) (d m m' c:Nat),wfI x->d<=6->ZcT x (7-d) m=some m'->c<(Za1 x).length->Zfh d m ((Za1 x).take c)=.error 8
 | .mk k n b l,d,m,m',c,hw,hd,h,hc=>by
  obtain⟨h1,h2,h3,h4⟩:=ZcD h
  obtain⟨hr,hn⟩:=ZiN h3 hw
  obtain⟨d,rfl⟩:∃ e,d=e+1:=⟨d-1,by omega⟩
  have e7:7-(d+1)+1=7-d:=by omega
  rw[e7]at h4
  rw[Za1,if_pos hr]at hc ⊢
  rw[Zfh]
  rcases Nat.lt_or_ge c (ZaV (k,(It.mk k n b l).hn,false)).length with hlt|hge
  ·rw[List.take_append_of_le_length (by omega),Znt _ hr hn _ hlt]
  ·rw[List.take_append,List.take_of_length_le hge,Zhe _ hr hn]
   dsimp only
   rw[ZkG h3,if_neg (by simp),if_neg (by omega)]
   obtain⟨w1,w2,w3,w4⟩:=hw
   generalize hc':c-(ZaV (k,(It.mk k n b l).hn,false)).length=c'
   have hlt:c'<(b++Za0 l).length:=by rw[List.length_append]at hc;omega
   rcases ZfX h3 with⟨rfl,rfl,rfl⟩ | ⟨rfl,rfl,rfl⟩ | ⟨rfl,rfl,rfl,hv⟩ | ⟨rfl,rfl,rfl⟩
   ·simp[Za0]at hlt
   ·simp[Za0]at hlt
    show ZeL (Zfh d) (2,b.length,false) (m-1) ((b++[]).take c')=_
    have hx:¬ b.length<=min c' b.length:=by omega
    simp[ZeL,Zov,ZfW,List.length_take,hx]
   ·simp[Za0]at hlt
    show ZeL (Zfh d) (3,b.length,false) (m-1) ((b++[]).take c')=_
    have hx:¬ b.length<=min c' b.length:=by omega
    simp[ZeL,Zov,ZfW,List.length_take,hx]
   ·simp only[List.nil_append]at hlt
    have hq:=ZiQ l d (m-1) m' c' [] w4 (by omega) h4 hlt
    show ZeL (Zfh d) (4,l.length,false) (m-1) (([]++Za0 l).take c')=_
    rw[ZeL,if_neg (by simp),if_pos rfl]
    simp only[Zpf,List.nil_append]
    by_cases hx:l.length<=((Za0 l).take c').length
    ·rw[if_pos hx,hq]
    ·rw[if_neg hx]
theorem ZiQ:∀(l:List It) (d m m' c:Nat) (acc:List It),wfs l->d<=6->Zcl l (7-d) m=some m'->c<(Za0 l).length->Zns (Zfh d) l.length acc m ((Za0 l).take c)=.error 8
 | [],d,m,m',c,acc,_,_,h,hc=>by simp[Za0]at hc
 | x::l,d,m,m',c,acc,hw,hd,h,hc=>by
  obtain⟨m1,h1,h2⟩:=Zcv h
  rw[Za0]at hc ⊢
  rw[List.length_cons,Zns]
  rcases Nat.lt_or_ge c (Za1 x).length with hlt|hge
  ·rw[List.take_append_of_le_length (by omega),Zl8 x d m m1 c hw.1 hd h1 hlt]
  ·rw[List.take_append,List.take_of_length_le hge,ZiO x d m m1 _ hw.1 hd h1]
   dsimp only
   exact ZiQ l d m1 m' _ _ hw.2 hd h2 (by rw[List.length_append]at hc;omega)
end
mutual
theorem ZiR:∀ {x:It} {d m m':Nat},ZcT x d m=some m'->m'+1<=m
 | .mk k n b l,d,m,m',h=>by
  obtain⟨_,h2,_,h4⟩:=ZcD h
  have:=ZiS h4
  omega
theorem ZiS:∀ {l:List It} {d m m':Nat},Zcl l d m=some m'->m'+l.length<=m
 | [],d,m,m',h=>by simp only[Zcl,Option.some.injEq]at h;simp[h]
 | x::l,d,m,m',h=>by
  obtain⟨m1,h1,h2⟩:=Zcv h
  have:=ZiR h1
  have:=ZiS h2
  simp;omega
end
theorem Zeb:∀(l l':List It),Za0 (l++l')=Za0 l++Za0 l'
 | [],l'=>rfl
 | x::l,l'=>by rw[List.cons_append,Za0,Za0,Zeb l l',List.append_assoc]
theorem ZkH {h:Hd}(hr:Zbh h=true)(ho:h.2.2=false):(ZaV h).length=1+ZaH h.2.1:=by
 rw[Zcq h hr];unfold Zhb;rw[if_pos hr,ho];rfl
end Go.Proofs.YtakblclkflnnpaaGreatDoor
end
