/- The types of this seat's program, laid open: which kind each is of, its size, its zero. -/
import Derived.Test.YtpodhnaofhfinaaGreatDoorG03
import Derived.Test.YtpodhnaofhfinaaGreatDoorProg
import Derived.Test.YtpodhnaofhfinaaGreatDoorG09
import Derived.Test.YtpodhnaofhfinaaGreatDoorG07
import Derived.Laws.RangeAny
import Derived.LoopTactic
import Derived.Test.YtpodhnaofhfinaaGreatDoorG08
import Derived.Lib.Strings
import Derived.Lib.Slices
import Derived.Lib.Walk
import Derived.Lib.Bytealg
import Derived.LaidEql
set_option linter.unusedVariables false
set_option linter.unusedSimpArgs false
section
open Go.RowKit Go.Pl Go.Av
namespace Go.Proofs.YtpodhnaofhfinaaGreatDoor
def tt : Tab := [(1, Ti.mk Kd.func 1 8 [ZK.f]) ,
 (2, Ti.mk (Kd.int IntKind.i64) 1 8 [ZK.i IntKind.i64]) ,
 (3, Ti.mk (Kd.int IntKind.i64) 1 8 [ZK.i IntKind.i64]) ,
 (4, Ti.mk Kd.bool 1 1 [ZK.b]) ,
 (5, Ti.mk (Kd.int IntKind.u8) 1 1 [ZK.i IntKind.u8]) ,
 (6, Ti.mk (Kd.int IntKind.u8) 1 1 [ZK.i IntKind.u8]) ,
 (7, Ti.mk (Kd.struct [Av.Fd.mk 0 1 Bool.false 2, Av.Fd.mk 1 1 Bool.false 3, Av.Fd.mk 2 1 Bool.false 4, Av.Fd.mk 3 1 Bool.false 6]) 4 24 [ZK.i IntKind.i64, ZK.i IntKind.i64, ZK.b, ZK.i IntKind.u8]) ,
 (8, Ti.mk (Kd.struct [Av.Fd.mk 0 1 Bool.false 2, Av.Fd.mk 1 1 Bool.false 3, Av.Fd.mk 2 1 Bool.false 4, Av.Fd.mk 3 1 Bool.false 6]) 4 24 [ZK.i IntKind.i64, ZK.i IntKind.i64, ZK.b, ZK.i IntKind.u8]) ,
 (9, Ti.mk Kd.str 1 16 [ZK.s]) ,
 (10, Ti.mk Kd.str 1 16 [ZK.s]) ,
 (11, Ti.mk Kd.str 1 16 [ZK.s]) ,
 (12, Ti.mk (Kd.int IntKind.u64) 1 8 [ZK.i IntKind.u64]) ,
 (13, Ti.mk (Kd.struct [Av.Fd.mk 0 1 Bool.false 9, Av.Fd.mk 1 1 Bool.false 12]) 2 24 [ZK.s, ZK.i IntKind.u64]) ,
 (14, Ti.mk (Kd.struct [Av.Fd.mk 0 1 Bool.false 9, Av.Fd.mk 1 1 Bool.false 12]) 2 24 [ZK.s, ZK.i IntKind.u64]) ,
 (15, Ti.mk (Kd.ptr 190) 1 8 [ZK.p]) ,
 (16, Ti.mk (Kd.ptr 193) 1 8 [ZK.p]) ,
 (17, Ti.mk (Kd.ptr 202) 1 8 [ZK.p]) ,
 (18, Ti.mk (Kd.struct [Av.Fd.mk 0 1 Bool.false 17]) 1 8 [ZK.p]) ,
 (19, Ti.mk (Kd.struct [Av.Fd.mk 0 1 Bool.false 17]) 1 8 [ZK.p]) ,
 (20, Ti.mk Kd.iface 1 16 [ZK.n]) ,
 (21, Ti.mk (Kd.int IntKind.i32) 1 4 [ZK.i IntKind.i32]) ,
 (22, Ti.mk (Kd.int IntKind.u64) 1 8 [ZK.i IntKind.u64]) ,
 (23, Ti.mk (Kd.struct [Av.Fd.mk 0 1 Bool.false 4, Av.Fd.mk 1 1 Bool.false 22, Av.Fd.mk 2 1 Bool.false 22, Av.Fd.mk 3 1 Bool.false 9, Av.Fd.mk 4 1 Bool.false 9]) 5 56 [ZK.b, ZK.i IntKind.u64, ZK.i IntKind.u64, ZK.s, ZK.s]) ,
 (24, Ti.mk (Kd.struct [Av.Fd.mk 0 1 Bool.false 4, Av.Fd.mk 1 1 Bool.false 22, Av.Fd.mk 2 1 Bool.false 22, Av.Fd.mk 3 1 Bool.false 9, Av.Fd.mk 4 1 Bool.false 9]) 5 56 [ZK.b, ZK.i IntKind.u64, ZK.i IntKind.u64, ZK.s, ZK.s]) ,
 (25, Ti.mk (Kd.struct [Av.Fd.mk 0 5 Bool.true 24, Av.Fd.mk 5 1 Bool.false 22, Av.Fd.mk 6 1 Bool.false 22]) 7 72 [ZK.b, ZK.i IntKind.u64, ZK.i IntKind.u64, ZK.s, ZK.s, ZK.i IntKind.u64, ZK.i IntKind.u64]) ,
 (26, Ti.mk (Kd.struct [Av.Fd.mk 0 5 Bool.true 24, Av.Fd.mk 5 1 Bool.false 22, Av.Fd.mk 6 1 Bool.false 22]) 7 72 [ZK.b, ZK.i IntKind.u64, ZK.i IntKind.u64, ZK.s, ZK.s, ZK.i IntKind.u64, ZK.i IntKind.u64]) ,
 (27, Ti.mk (Kd.struct [Av.Fd.mk 0 1 Bool.false 22, Av.Fd.mk 1 1 Bool.false 3, Av.Fd.mk 2 5 Bool.true 24, Av.Fd.mk 7 5 Bool.true 24, Av.Fd.mk 12 7 Bool.true 26, Av.Fd.mk 19 1 Bool.false 22]) 20 208 [ZK.i IntKind.u64, ZK.i IntKind.i64, ZK.b, ZK.i IntKind.u64, ZK.i IntKind.u64, ZK.s, ZK.s, ZK.b, ZK.i IntKind.u64, ZK.i IntKind.u64, ZK.s, ZK.s, ZK.b, ZK.i IntKind.u64, ZK.i IntKind.u64, ZK.s, ZK.s, ZK.i IntKind.u64, ZK.i IntKind.u64, ZK.i IntKind.u64]) ,
 (28, Ti.mk (Kd.struct [Av.Fd.mk 0 1 Bool.false 22, Av.Fd.mk 1 1 Bool.false 3, Av.Fd.mk 2 5 Bool.true 24, Av.Fd.mk 7 5 Bool.true 24, Av.Fd.mk 12 7 Bool.true 26, Av.Fd.mk 19 1 Bool.false 22]) 20 208 [ZK.i IntKind.u64, ZK.i IntKind.i64, ZK.b, ZK.i IntKind.u64, ZK.i IntKind.u64, ZK.s, ZK.s, ZK.b, ZK.i IntKind.u64, ZK.i IntKind.u64, ZK.s, ZK.s, ZK.b, ZK.i IntKind.u64, ZK.i IntKind.u64, ZK.s, ZK.s, ZK.i IntKind.u64, ZK.i IntKind.u64, ZK.i IntKind.u64]) ,
 (29, Ti.mk (Kd.slice 40) 1 24 [ZK.l]) ,
 (30, Ti.mk (Kd.struct [Av.Fd.mk 0 20 Bool.true 28, Av.Fd.mk 20 1 Bool.false 29]) 21 232 [ZK.i IntKind.u64, ZK.i IntKind.i64, ZK.b, ZK.i IntKind.u64, ZK.i IntKind.u64, ZK.s, ZK.s, ZK.b, ZK.i IntKind.u64, ZK.i IntKind.u64, ZK.s, ZK.s, ZK.b, ZK.i IntKind.u64, ZK.i IntKind.u64, ZK.s, ZK.s, ZK.i IntKind.u64, ZK.i IntKind.u64, ZK.i IntKind.u64, ZK.l]) ,
 (31, Ti.mk (Kd.struct [Av.Fd.mk 0 20 Bool.true 28, Av.Fd.mk 20 1 Bool.false 29]) 21 232 [ZK.i IntKind.u64, ZK.i IntKind.i64, ZK.b, ZK.i IntKind.u64, ZK.i IntKind.u64, ZK.s, ZK.s, ZK.b, ZK.i IntKind.u64, ZK.i IntKind.u64, ZK.s, ZK.s, ZK.b, ZK.i IntKind.u64, ZK.i IntKind.u64, ZK.s, ZK.s, ZK.i IntKind.u64, ZK.i IntKind.u64, ZK.i IntKind.u64, ZK.l]) ,
 (32, Ti.mk (Kd.slice 5) 1 24 [ZK.l]) ,
 (33, Ti.mk Kd.func 1 8 [ZK.f]) ,
 (34, Ti.mk Kd.func 1 8 [ZK.f]) ,
 (35, Ti.mk Kd.func 1 8 [ZK.f]) ,
 (36, Ti.mk (Kd.int IntKind.i64) 1 8 [ZK.i IntKind.i64]) ,
 (38, Ti.mk Kd.func 1 8 [ZK.f]) ,
 (39, Ti.mk (Kd.struct [Av.Fd.mk 0 1 Bool.false 22, Av.Fd.mk 1 1 Bool.false 22, Av.Fd.mk 2 1 Bool.false 22, Av.Fd.mk 3 1 Bool.false 3, Av.Fd.mk 4 1 Bool.false 32]) 5 56 [ZK.i IntKind.u64, ZK.i IntKind.u64, ZK.i IntKind.u64, ZK.i IntKind.i64, ZK.l]) ,
 (40, Ti.mk (Kd.struct [Av.Fd.mk 0 1 Bool.false 22, Av.Fd.mk 1 1 Bool.false 22, Av.Fd.mk 2 1 Bool.false 22, Av.Fd.mk 3 1 Bool.false 3, Av.Fd.mk 4 1 Bool.false 32]) 5 56 [ZK.i IntKind.u64, ZK.i IntKind.u64, ZK.i IntKind.u64, ZK.i IntKind.i64, ZK.l]) ,
 (42, Ti.mk Kd.func 1 8 [ZK.f]) ,
 (44, Ti.mk Kd.func 1 8 [ZK.f]) ,
 (46, Ti.mk Kd.func 1 8 [ZK.f]) ,
 (48, Ti.mk Kd.func 1 8 [ZK.f]) ,
 (49, Ti.mk Kd.func 1 8 [ZK.f]) ,
 (51, Ti.mk Kd.func 1 8 [ZK.f]) ,
 (52, Ti.mk Kd.func 1 8 [ZK.f]) ,
 (53, Ti.mk (Kd.struct [Av.Fd.mk 0 1 Bool.false 4, Av.Fd.mk 1 1 Bool.false 4, Av.Fd.mk 2 1 Bool.false 4, Av.Fd.mk 3 1 Bool.false 22, Av.Fd.mk 4 1 Bool.false 22, Av.Fd.mk 5 7 Bool.true 26]) 12 96 [ZK.b, ZK.b, ZK.b, ZK.i IntKind.u64, ZK.i IntKind.u64, ZK.b, ZK.i IntKind.u64, ZK.i IntKind.u64, ZK.s, ZK.s, ZK.i IntKind.u64, ZK.i IntKind.u64]) ,
 (54, Ti.mk (Kd.struct [Av.Fd.mk 0 1 Bool.false 4, Av.Fd.mk 1 1 Bool.false 4, Av.Fd.mk 2 1 Bool.false 4, Av.Fd.mk 3 1 Bool.false 22, Av.Fd.mk 4 1 Bool.false 22, Av.Fd.mk 5 7 Bool.true 26]) 12 96 [ZK.b, ZK.b, ZK.b, ZK.i IntKind.u64, ZK.i IntKind.u64, ZK.b, ZK.i IntKind.u64, ZK.i IntKind.u64, ZK.s, ZK.s, ZK.i IntKind.u64, ZK.i IntKind.u64]) ,
 (55, Ti.mk Kd.func 1 8 [ZK.f]) ,
 (56, Ti.mk Kd.func 1 8 [ZK.f]) ,
 (58, Ti.mk Kd.func 1 8 [ZK.f]) ,
 (59, Ti.mk Kd.func 1 8 [ZK.f]) ,
 (60, Ti.mk Kd.func 1 8 [ZK.f]) ,
 (61, Ti.mk Kd.func 1 8 [ZK.f]) ,
 (62, Ti.mk Kd.func 1 8 [ZK.f]) ,
 (63, Ti.mk Kd.func 1 8 [ZK.f]) ,
 (64, Ti.mk Kd.func 1 8 [ZK.f]) ,
 (65, Ti.mk Kd.func 1 8 [ZK.f]) ,
 (67, Ti.mk Kd.func 1 8 [ZK.f]) ,
 (68, Ti.mk Kd.func 1 8 [ZK.f]) ,
 (69, Ti.mk Kd.func 1 8 [ZK.f]) ,
 (70, Ti.mk Kd.func 1 8 [ZK.f]) ,
 (72, Ti.mk Kd.func 1 8 [ZK.f]) ,
 (73, Ti.mk Kd.func 1 8 [ZK.f]) ,
 (75, Ti.mk Kd.func 1 8 [ZK.f]) ,
 (76, Ti.mk Kd.func 1 8 [ZK.f]) ,
 (77, Ti.mk Kd.func 1 8 [ZK.f]) ,
 (78, Ti.mk Kd.func 1 8 [ZK.f]) ,
 (80, Ti.mk Kd.func 1 8 [ZK.f]) ,
 (81, Ti.mk (Kd.slice 83) 1 24 [ZK.l]) ,
 (82, Ti.mk (Kd.struct [Av.Fd.mk 0 1 Bool.false 3, Av.Fd.mk 1 1 Bool.false 22, Av.Fd.mk 2 1 Bool.false 32, Av.Fd.mk 3 1 Bool.false 81]) 4 64 [ZK.i IntKind.i64, ZK.i IntKind.u64, ZK.l, ZK.l]) ,
 (83, Ti.mk (Kd.struct [Av.Fd.mk 0 1 Bool.false 3, Av.Fd.mk 1 1 Bool.false 22, Av.Fd.mk 2 1 Bool.false 32, Av.Fd.mk 3 1 Bool.false 81]) 4 64 [ZK.i IntKind.i64, ZK.i IntKind.u64, ZK.l, ZK.l]) ,
 (85, Ti.mk Kd.func 1 8 [ZK.f]) ,
 (87, Ti.mk Kd.func 1 8 [ZK.f]) ,
 (88, Ti.mk Kd.func 1 8 [ZK.f]) ,
 (90, Ti.mk Kd.func 1 8 [ZK.f]) ,
 (91, Ti.mk Kd.func 1 8 [ZK.f]) ,
 (93, Ti.mk Kd.func 1 8 [ZK.f]) ,
 (94, Ti.mk Kd.func 1 8 [ZK.f]) ,
 (96, Ti.mk Kd.func 1 8 [ZK.f]) ,
 (97, Ti.mk Kd.func 1 8 [ZK.f]) ,
 (98, Ti.mk Kd.func 1 8 [ZK.f]) ,
 (99, Ti.mk Kd.func 1 8 [ZK.f]) ,
 (100, Ti.mk Kd.func 1 8 [ZK.f]) ,
 (101, Ti.mk Kd.func 1 8 [ZK.f]) ,
 (103, Ti.mk Kd.func 1 8 [ZK.f]) ,
 (104, Ti.mk Kd.func 1 8 [ZK.f]) ,
 (105, Ti.mk Kd.func 1 8 [ZK.f]) ,
 (106, Ti.mk Kd.func 1 8 [ZK.f]) ,
 (107, Ti.mk Kd.func 1 8 [ZK.f]) ,
 (108, Ti.mk Kd.func 1 8 [ZK.f]) ,
 (109, Ti.mk Kd.func 1 8 [ZK.f]) ,
 (110, Ti.mk Kd.func 1 8 [ZK.f]) ,
 (111, Ti.mk Kd.func 1 8 [ZK.f]) ,
 (112, Ti.mk Kd.func 1 8 [ZK.f]) ,
 (113, Ti.mk Kd.func 1 8 [ZK.f]) ,
 (114, Ti.mk Kd.func 1 8 [ZK.f]) ,
 (115, Ti.mk (Kd.struct [Av.Fd.mk 0 1 Bool.false 36]) 1 8 [ZK.i IntKind.i64]) ,
 (116, Ti.mk (Kd.struct [Av.Fd.mk 0 1 Bool.false 36]) 1 8 [ZK.i IntKind.i64]) ,
 (118, Ti.mk (Kd.ptr 120) 1 8 [ZK.p]) ,
 (119, Ti.mk (Kd.struct [Av.Fd.mk 0 1 Bool.false 32, Av.Fd.mk 1 1 Bool.false 3, Av.Fd.mk 2 1 Bool.false 3]) 3 40 [ZK.l, ZK.i IntKind.i64, ZK.i IntKind.i64]) ,
 (120, Ti.mk (Kd.struct [Av.Fd.mk 0 1 Bool.false 32, Av.Fd.mk 1 1 Bool.false 3, Av.Fd.mk 2 1 Bool.false 3]) 3 40 [ZK.l, ZK.i IntKind.i64, ZK.i IntKind.i64]) ,
 (121, Ti.mk Kd.func 1 8 [ZK.f]) ,
 (123, Ti.mk Kd.func 1 8 [ZK.f]) ,
 (124, Ti.mk Kd.func 1 8 [ZK.f]) ,
 (125, Ti.mk Kd.func 1 8 [ZK.f]) ,
 (126, Ti.mk Kd.func 1 8 [ZK.f]) ,
 (127, Ti.mk Kd.func 1 8 [ZK.f]) ,
 (128, Ti.mk (Kd.slice 4) 1 24 [ZK.l]) ,
 (129, Ti.mk Kd.func 1 8 [ZK.f]) ,
 (130, Ti.mk Kd.func 1 8 [ZK.f]) ,
 (131, Ti.mk Kd.func 1 8 [ZK.f]) ,
 (132, Ti.mk (Kd.slice 22) 1 24 [ZK.l]) ,
 (133, Ti.mk Kd.func 1 8 [ZK.f]) ,
 (134, Ti.mk Kd.func 1 8 [ZK.f]) ,
 (136, Ti.mk Kd.func 1 8 [ZK.f]) ,
 (137, Ti.mk Kd.func 1 8 [ZK.f]) ,
 (138, Ti.mk Kd.func 1 8 [ZK.f]) ,
 (139, Ti.mk Kd.func 1 8 [ZK.f]) ,
 (140, Ti.mk (Kd.struct [Av.Fd.mk 0 1 Bool.false 3, Av.Fd.mk 1 1 Bool.false 22, Av.Fd.mk 2 1 Bool.false 4]) 3 24 [ZK.i IntKind.i64, ZK.i IntKind.u64, ZK.b]) ,
 (141, Ti.mk (Kd.struct [Av.Fd.mk 0 1 Bool.false 3, Av.Fd.mk 1 1 Bool.false 22, Av.Fd.mk 2 1 Bool.false 4]) 3 24 [ZK.i IntKind.i64, ZK.i IntKind.u64, ZK.b]) ,
 (142, Ti.mk Kd.func 1 8 [ZK.f]) ,
 (143, Ti.mk Kd.func 1 8 [ZK.f]) ,
 (144, Ti.mk Kd.func 1 8 [ZK.f]) ,
 (145, Ti.mk Kd.func 1 8 [ZK.f]) ,
 (146, Ti.mk Kd.func 1 8 [ZK.f]) ,
 (147, Ti.mk Kd.func 1 8 [ZK.f]) ,
 (148, Ti.mk Kd.func 1 8 [ZK.f]) ,
 (149, Ti.mk Kd.func 1 8 [ZK.f]) ,
 (151, Ti.mk Kd.func 1 8 [ZK.f]) ,
 (152, Ti.mk Kd.func 1 8 [ZK.f]) ,
 (153, Ti.mk Kd.func 1 8 [ZK.f]) ,
 (154, Ti.mk Kd.func 1 8 [ZK.f]) ,
 (155, Ti.mk Kd.func 1 8 [ZK.f]) ,
 (157, Ti.mk Kd.func 1 8 [ZK.f]) ,
 (158, Ti.mk Kd.func 1 8 [ZK.f]) ,
 (159, Ti.mk Kd.func 1 8 [ZK.f]) ,
 (160, Ti.mk (Kd.int IntKind.u16) 1 2 [ZK.i IntKind.u16]) ,
 (161, Ti.mk Kd.func 1 8 [ZK.f]) ,
 (162, Ti.mk (Kd.int IntKind.u64) 1 8 [ZK.i IntKind.u64]) ,
 (163, Ti.mk (Kd.int IntKind.u32) 1 4 [ZK.i IntKind.u32]) ,
 (164, Ti.mk Kd.func 1 8 [ZK.f]) ,
 (166, Ti.mk Kd.func 1 8 [ZK.f]) ,
 (168, Ti.mk Kd.func 1 8 [ZK.f]) ,
 (169, Ti.mk Kd.func 1 8 [ZK.f]) ,
 (170, Ti.mk Kd.func 1 8 [ZK.f]) ,
 (171, Ti.mk Kd.func 1 8 [ZK.f]) ,
 (172, Ti.mk Kd.func 1 8 [ZK.f]) ,
 (173, Ti.mk Kd.func 1 8 [ZK.f]) ,
 (174, Ti.mk Kd.func 1 8 [ZK.f]) ,
 (175, Ti.mk Kd.func 1 8 [ZK.f]) ,
 (176, Ti.mk Kd.func 1 8 [ZK.f]) ,
 (177, Ti.mk (Kd.array 256 5) 256 256 [ZK.i IntKind.u8, ZK.i IntKind.u8, ZK.i IntKind.u8, ZK.i IntKind.u8, ZK.i IntKind.u8, ZK.i IntKind.u8, ZK.i IntKind.u8, ZK.i IntKind.u8, ZK.i IntKind.u8, ZK.i IntKind.u8, ZK.i IntKind.u8, ZK.i IntKind.u8, ZK.i IntKind.u8, ZK.i IntKind.u8, ZK.i IntKind.u8, ZK.i IntKind.u8, ZK.i IntKind.u8, ZK.i IntKind.u8, ZK.i IntKind.u8, ZK.i IntKind.u8, ZK.i IntKind.u8, ZK.i IntKind.u8, ZK.i IntKind.u8, ZK.i IntKind.u8, ZK.i IntKind.u8, ZK.i IntKind.u8, ZK.i IntKind.u8, ZK.i IntKind.u8, ZK.i IntKind.u8, ZK.i IntKind.u8, ZK.i IntKind.u8, ZK.i IntKind.u8, ZK.i IntKind.u8, ZK.i IntKind.u8, ZK.i IntKind.u8, ZK.i IntKind.u8, ZK.i IntKind.u8, ZK.i IntKind.u8, ZK.i IntKind.u8, ZK.i IntKind.u8, ZK.i IntKind.u8, ZK.i IntKind.u8, ZK.i IntKind.u8, ZK.i IntKind.u8, ZK.i IntKind.u8, ZK.i IntKind.u8, ZK.i IntKind.u8, ZK.i IntKind.u8, ZK.i IntKind.u8, ZK.i IntKind.u8, ZK.i IntKind.u8, ZK.i IntKind.u8, ZK.i IntKind.u8, ZK.i IntKind.u8, ZK.i IntKind.u8, ZK.i IntKind.u8, ZK.i IntKind.u8, ZK.i IntKind.u8, ZK.i IntKind.u8, ZK.i IntKind.u8, ZK.i IntKind.u8, ZK.i IntKind.u8, ZK.i IntKind.u8, ZK.i IntKind.u8, ZK.i IntKind.u8, ZK.i IntKind.u8, ZK.i IntKind.u8, ZK.i IntKind.u8, ZK.i IntKind.u8, ZK.i IntKind.u8, ZK.i IntKind.u8, ZK.i IntKind.u8, ZK.i IntKind.u8, ZK.i IntKind.u8, ZK.i IntKind.u8, ZK.i IntKind.u8, ZK.i IntKind.u8, ZK.i IntKind.u8, ZK.i IntKind.u8, ZK.i IntKind.u8, ZK.i IntKind.u8, ZK.i IntKind.u8, ZK.i IntKind.u8, ZK.i IntKind.u8, ZK.i IntKind.u8, ZK.i IntKind.u8, ZK.i IntKind.u8, ZK.i IntKind.u8, ZK.i IntKind.u8, ZK.i IntKind.u8, ZK.i IntKind.u8, ZK.i IntKind.u8, ZK.i IntKind.u8, ZK.i IntKind.u8, ZK.i IntKind.u8, ZK.i IntKind.u8, ZK.i IntKind.u8, ZK.i IntKind.u8, ZK.i IntKind.u8, ZK.i IntKind.u8, ZK.i IntKind.u8, ZK.i IntKind.u8, ZK.i IntKind.u8, ZK.i IntKind.u8, ZK.i IntKind.u8, ZK.i IntKind.u8, ZK.i IntKind.u8, ZK.i IntKind.u8, ZK.i IntKind.u8, ZK.i IntKind.u8, ZK.i IntKind.u8, ZK.i IntKind.u8, ZK.i IntKind.u8, ZK.i IntKind.u8, ZK.i IntKind.u8, ZK.i IntKind.u8, ZK.i IntKind.u8, ZK.i IntKind.u8, ZK.i IntKind.u8, ZK.i IntKind.u8, ZK.i IntKind.u8, ZK.i IntKind.u8, ZK.i IntKind.u8, ZK.i IntKind.u8, ZK.i IntKind.u8, ZK.i IntKind.u8, ZK.i IntKind.u8, ZK.i IntKind.u8, ZK.i IntKind.u8, ZK.i IntKind.u8, ZK.i IntKind.u8, ZK.i IntKind.u8, ZK.i IntKind.u8, ZK.i IntKind.u8, ZK.i IntKind.u8, ZK.i IntKind.u8, ZK.i IntKind.u8, ZK.i IntKind.u8, ZK.i IntKind.u8, ZK.i IntKind.u8, ZK.i IntKind.u8, ZK.i IntKind.u8, ZK.i IntKind.u8, ZK.i IntKind.u8, ZK.i IntKind.u8, ZK.i IntKind.u8, ZK.i IntKind.u8, ZK.i IntKind.u8, ZK.i IntKind.u8, ZK.i IntKind.u8, ZK.i IntKind.u8, ZK.i IntKind.u8, ZK.i IntKind.u8, ZK.i IntKind.u8, ZK.i IntKind.u8, ZK.i IntKind.u8, ZK.i IntKind.u8, ZK.i IntKind.u8, ZK.i IntKind.u8, ZK.i IntKind.u8, ZK.i IntKind.u8, ZK.i IntKind.u8, ZK.i IntKind.u8, ZK.i IntKind.u8, ZK.i IntKind.u8, ZK.i IntKind.u8, ZK.i IntKind.u8, ZK.i IntKind.u8, ZK.i IntKind.u8, ZK.i IntKind.u8, ZK.i IntKind.u8, ZK.i IntKind.u8, ZK.i IntKind.u8, ZK.i IntKind.u8, ZK.i IntKind.u8, ZK.i IntKind.u8, ZK.i IntKind.u8, ZK.i IntKind.u8, ZK.i IntKind.u8, ZK.i IntKind.u8, ZK.i IntKind.u8, ZK.i IntKind.u8, ZK.i IntKind.u8, ZK.i IntKind.u8, ZK.i IntKind.u8, ZK.i IntKind.u8, ZK.i IntKind.u8, ZK.i IntKind.u8, ZK.i IntKind.u8, ZK.i IntKind.u8, ZK.i IntKind.u8, ZK.i IntKind.u8, ZK.i IntKind.u8, ZK.i IntKind.u8, ZK.i IntKind.u8, ZK.i IntKind.u8, ZK.i IntKind.u8, ZK.i IntKind.u8, ZK.i IntKind.u8, ZK.i IntKind.u8, ZK.i IntKind.u8, ZK.i IntKind.u8, ZK.i IntKind.u8, ZK.i IntKind.u8, ZK.i IntKind.u8, ZK.i IntKind.u8, ZK.i IntKind.u8, ZK.i IntKind.u8, ZK.i IntKind.u8, ZK.i IntKind.u8, ZK.i IntKind.u8, ZK.i IntKind.u8, ZK.i IntKind.u8, ZK.i IntKind.u8, ZK.i IntKind.u8, ZK.i IntKind.u8, ZK.i IntKind.u8, ZK.i IntKind.u8, ZK.i IntKind.u8, ZK.i IntKind.u8, ZK.i IntKind.u8, ZK.i IntKind.u8, ZK.i IntKind.u8, ZK.i IntKind.u8, ZK.i IntKind.u8, ZK.i IntKind.u8, ZK.i IntKind.u8, ZK.i IntKind.u8, ZK.i IntKind.u8, ZK.i IntKind.u8, ZK.i IntKind.u8, ZK.i IntKind.u8, ZK.i IntKind.u8, ZK.i IntKind.u8, ZK.i IntKind.u8, ZK.i IntKind.u8, ZK.i IntKind.u8, ZK.i IntKind.u8, ZK.i IntKind.u8, ZK.i IntKind.u8, ZK.i IntKind.u8, ZK.i IntKind.u8, ZK.i IntKind.u8, ZK.i IntKind.u8, ZK.i IntKind.u8, ZK.i IntKind.u8, ZK.i IntKind.u8, ZK.i IntKind.u8, ZK.i IntKind.u8, ZK.i IntKind.u8, ZK.i IntKind.u8, ZK.i IntKind.u8, ZK.i IntKind.u8, ZK.i IntKind.u8, ZK.i IntKind.u8, ZK.i IntKind.u8]) ,
 (178, Ti.mk (Kd.struct [Av.Fd.mk 0 1 Bool.false 5, Av.Fd.mk 1 1 Bool.false 5]) 2 2 [ZK.i IntKind.u8, ZK.i IntKind.u8]) ,
 (179, Ti.mk (Kd.struct [Av.Fd.mk 0 1 Bool.false 5, Av.Fd.mk 1 1 Bool.false 5]) 2 2 [ZK.i IntKind.u8, ZK.i IntKind.u8]) ,
 (180, Ti.mk (Kd.array 16 179) 32 32 [ZK.i IntKind.u8, ZK.i IntKind.u8, ZK.i IntKind.u8, ZK.i IntKind.u8, ZK.i IntKind.u8, ZK.i IntKind.u8, ZK.i IntKind.u8, ZK.i IntKind.u8, ZK.i IntKind.u8, ZK.i IntKind.u8, ZK.i IntKind.u8, ZK.i IntKind.u8, ZK.i IntKind.u8, ZK.i IntKind.u8, ZK.i IntKind.u8, ZK.i IntKind.u8, ZK.i IntKind.u8, ZK.i IntKind.u8, ZK.i IntKind.u8, ZK.i IntKind.u8, ZK.i IntKind.u8, ZK.i IntKind.u8, ZK.i IntKind.u8, ZK.i IntKind.u8, ZK.i IntKind.u8, ZK.i IntKind.u8, ZK.i IntKind.u8, ZK.i IntKind.u8, ZK.i IntKind.u8, ZK.i IntKind.u8, ZK.i IntKind.u8, ZK.i IntKind.u8]) ,
 (181, Ti.mk Kd.func 1 8 [ZK.f]) ,
 (182, Ti.mk Kd.func 1 8 [ZK.f]) ,
 (183, Ti.mk Kd.func 1 8 [ZK.f]) ,
 (184, Ti.mk Kd.func 1 8 [ZK.f]) ,
 (185, Ti.mk Kd.func 1 8 [ZK.f]) ,
 (187, Ti.mk Kd.func 1 8 [ZK.f]) ,
 (188, Ti.mk Kd.func 1 8 [ZK.f]) ,
 (189, Ti.mk (Kd.struct [Av.Fd.mk 0 1 Bool.false 17, Av.Fd.mk 1 1 Bool.false 17, Av.Fd.mk 2 1 Bool.false 17, Av.Fd.mk 3 1 Bool.false 9]) 4 40 [ZK.p, ZK.p, ZK.p, ZK.s]) ,
 (190, Ti.mk (Kd.struct [Av.Fd.mk 0 1 Bool.false 17, Av.Fd.mk 1 1 Bool.false 17, Av.Fd.mk 2 1 Bool.false 17, Av.Fd.mk 3 1 Bool.false 9]) 4 40 [ZK.p, ZK.p, ZK.p, ZK.s]) ,
 (191, Ti.mk (Kd.array 0 16) 0 0 []) ,
 (192, Ti.mk (Kd.struct [Av.Fd.mk 0 0 Bool.true 191]) 0 0 []) ,
 (193, Ti.mk (Kd.struct [Av.Fd.mk 0 0 Bool.true 191]) 0 0 []) ,
 (194, Ti.mk Kd.func 1 8 [ZK.f]) ,
 (195, Ti.mk (Kd.int IntKind.u8) 1 1 [ZK.i IntKind.u8]) ,
 (196, Ti.mk (Kd.int IntKind.u8) 1 1 [ZK.i IntKind.u8]) ,
 (197, Ti.mk Kd.func 1 8 [ZK.f]) ,
 (198, Ti.mk (Kd.ptr 5) 1 8 [ZK.p]) ,
 (199, Ti.mk (Kd.int IntKind.i32) 1 4 [ZK.i IntKind.i32]) ,
 (200, Ti.mk (Kd.int IntKind.i32) 1 4 [ZK.i IntKind.i32]) ,
 (201, Ti.mk (Kd.struct [Av.Fd.mk 0 1 Bool.false 12, Av.Fd.mk 1 1 Bool.false 12, Av.Fd.mk 2 1 Bool.false 163, Av.Fd.mk 3 1 Bool.false 195, Av.Fd.mk 4 1 Bool.false 5, Av.Fd.mk 5 1 Bool.false 5, Av.Fd.mk 6 1 Bool.false 196, Av.Fd.mk 7 1 Bool.false 197, Av.Fd.mk 8 1 Bool.false 198, Av.Fd.mk 9 1 Bool.false 199, Av.Fd.mk 10 1 Bool.false 200]) 11 48 [ZK.i IntKind.u64, ZK.i IntKind.u64, ZK.i IntKind.u32, ZK.i IntKind.u8, ZK.i IntKind.u8, ZK.i IntKind.u8, ZK.i IntKind.u8, ZK.f, ZK.p, ZK.i IntKind.i32, ZK.i IntKind.i32]) ,
 (202, Ti.mk (Kd.struct [Av.Fd.mk 0 1 Bool.false 12, Av.Fd.mk 1 1 Bool.false 12, Av.Fd.mk 2 1 Bool.false 163, Av.Fd.mk 3 1 Bool.false 195, Av.Fd.mk 4 1 Bool.false 5, Av.Fd.mk 5 1 Bool.false 5, Av.Fd.mk 6 1 Bool.false 196, Av.Fd.mk 7 1 Bool.false 197, Av.Fd.mk 8 1 Bool.false 198, Av.Fd.mk 9 1 Bool.false 199, Av.Fd.mk 10 1 Bool.false 200]) 11 48 [ZK.i IntKind.u64, ZK.i IntKind.u64, ZK.i IntKind.u32, ZK.i IntKind.u8, ZK.i IntKind.u8, ZK.i IntKind.u8, ZK.i IntKind.u8, ZK.f, ZK.p, ZK.i IntKind.i32, ZK.i IntKind.i32])]
theorem ttok : chk Tryz.prog tt = true := by kernel_rfl
end Go.Proofs.YtpodhnaofhfinaaGreatDoor
end
section
open Go.RowKit Go.Pl Go.Av
namespace Go.Proofs.YtpodhnaofhfinaaGreatDoor
theorem hmix : Tryz.prog.follows .mixedOrders = true := by kernel_rfl
abbrev byE (l : List UInt8) : D := .sl .ext (l.map E.byte)
theorem uniB1 (l : List UInt8) : Uni 1 (l.map E.byte) := Uni.map (f := E.byte) (fun _ => rfl) l
end Go.Proofs.YtpodhnaofhfinaaGreatDoor
end
section
open Go.RowKit Go.Pl Go.Av
namespace Go.Proofs.YtpodhnaofhfinaaGreatDoor
set_option maxHeartbeats 1000000
def okB (m : Nat) (c : UInt8) : Bool := (97 <= c.toNat && c.toNat <= 122) || (48 <= c.toNat && c.toNat <= 57) || c.toNat == 45 || c.toNat == m
theorem okB_true {m : Nat} {c : UInt8} : okB m c = true ↔ (97 <= (c.toNat : Int) /\ (c.toNat : Int) <= 122) \/ (48 <= (c.toNat : Int) /\ (c.toNat : Int) <= 57) \/ (c.toNat : Int) = 45 \/ (c.toNat : Int) = (m : Int) := by
 simp only [okB, Bool.or_eq_true, Bool.and_eq_true, decide_eq_true_eq, beq_iff_eq]
 omega
theorem plain_walk (s : ByteArray) (m : Nat) (hm : m < 128) (w : World) (B : Bool) (hB : s.data.toList.all (okB m) = B) :
  Calls Tryz.prog 42 #[.string s, .int .i32 (m : Int)] w fun e w' => e = .returned (.bool B) /\ Below w.heap.size w w' := by
 have hT : (∀ j, j < s.size -> ∀ c, s.data.toList[j]? = some c -> okB m c = true) -> B = true := fun h => by
  rw [<- hB, List.all_eq_true]
  intro x hx
  obtain ⟨j, hj⟩ := List.getElem?_of_mem hx
  have hlt := (List.getElem?_eq_some_iff.1 hj).1
  exact h j (by simpa using hlt) x hj
 have hF : ∀ (j : Nat) (c : UInt8), s.data.toList[j]? = some c -> ¬ okB m c = true -> B = false := fun j c hj hc => by
  rw [<- hB, List.all_eq_false]
  exact ⟨c, List.mem_of_getElem? hj, hc⟩
 clear hB
 go_enter Tryz.func42, Tryz.ntmps42
 go_wp2
 go_loopw [] (fun w' => ∃ pos, w' = w.iter s pos /\ pos <= s.size /\ Hid (∀ j, j < pos -> ∀ c, s.data.toList[j]? = some c -> okB m c = true)) (fun w' => s.size - w'.iterPos w.heap.size)
 case atStart => exact ⟨0, rfl, Nat.zero_le _, fun j hj => by omega⟩
 case round =>
  obtain ⟨pos, rfl, hps, hall⟩ := hrel
  have hb : ∀ p, Below w.heap.size w (w.iter s p) := fun p => (Below.refl _ _).alloc (Nat.le_refl _) _
  by_cases hp : pos < s.size
  ·have hget : s.data.toList[pos]? = some (s[pos]'hp) := by
    have hlt : pos < s.data.toList.length := by simpa using hp
    rw [List.getElem?_eq_getElem hlt]; rfl
   by_cases ha : (s[pos]'hp).toNat < 128
   ·obtain ⟨c, hc⟩ : ∃ c, c = s[pos]'hp := ⟨_, rfl⟩
    have hnx : ∀ ty, (Instr.next (.pointer (some ⟨w.heap.size, 0, none⟩)) true ty).run Tryz.prog (w.iter s pos) = .ok (.tuple #[.bool true, .int .i64 pos, .int .i32 (c.toNat : Int)]) (w.iter s (pos + 1)) := fun ty => by
     rw [hc]; exact run_next_ascii w s pos ty hp ha
    rw [<- hc] at hget ha
    clear hc
    have hbad := hid (hF pos c hget)
    have hstep : Hid (okB m c = true -> ∀ j, j < pos + 1 -> ∀ c, s.data.toList[j]? = some c -> okB m c = true) := fun hc j hj c' hj' => by
     rcases Nat.lt_or_ge j pos with h | h
     ·exact hall j h c' hj'
     ·have : j = pos := by omega
      subst this
      rw [hget] at hj'
      injection hj' with hj'
      subst hj'
      exact hc
    clear hT hF hget
    go_wp2
    all_goals first
     | (go_ret
        have hBf := hbad (fun h => by rw [okB_true] at h; clear hbad hstep hnx; (try simp only [bne_iff_ne, ne_eq, bne_eq_false_iff_eq] at *); omega)
        subst hBf
        exact ⟨rfl, hb _⟩)
     | (refine ⟨⟨pos + 1, rfl, by omega, hstep ?_⟩, ?_⟩
        ·rw [okB_true]
         clear hbad hstep hnx
         try simp only [bne_iff_ne, ne_eq, bne_eq_false_iff_eq] at *
         omega
        ·simp; omega)
   ·obtain ⟨hd1, hd2⟩ := decode_high s pos hp (by omega)
    have hle := decode_le s pos
    have hnx : ∀ ty, (Instr.next (.pointer (some ⟨w.heap.size, 0, none⟩)) true ty).run Tryz.prog (w.iter s pos) = _ := fun ty => run_next_any w s pos ty hp
    have hBf := hF pos _ hget (fun h => by rw [okB_true] at h; omega)
    clear hT hF hget
    subst hBf
    generalize Utf8.decode s pos = dd at hd1 hd2 hle hnx
    have n1 : ¬ ((dd.1 : Int) < 97) := by omega
    have n2 : ((dd.1 : Int) > 122) := by omega
    have n3 : ¬ ((dd.1 : Int) < 48) := by omega
    have n4 : ((dd.1 : Int) > 57) := by omega
    have n5 : ¬ ((dd.1 : Int) = 45) := by omega
    have n6 : ¬ ((dd.1 : Int) = (m : Int)) := by omega
    go_wp2
    all_goals first
     | (go_ret; exact ⟨rfl, hb _⟩)
     | (exfalso; clear hnx hb hall; (try simp only [bne_iff_ne, ne_eq, bne_eq_false_iff_eq] at *); omega)
  ·have hnx : ∀ ty, (Instr.next (.pointer (some ⟨w.heap.size, 0, none⟩)) true ty).run Tryz.prog (w.iter s pos) = _ := fun ty => run_next_end w s pos ty hp
   have hBt := hT (fun j hj => hall j (by omega))
   subst hBt
   go_wp2
   go_ret
   exact ⟨rfl, hb _⟩
end Go.Proofs.YtpodhnaofhfinaaGreatDoor
end
section
open Go.RowKit Go.Pl Go.Av
namespace Go.Proofs.YtpodhnaofhfinaaGreatDoor
set_option maxHeartbeats 1000000
theorem av_plain [Known] (s : List UInt8) (m : Nat) (hm : m < 128) : AP Tryz.prog 42 [.str s, .int .i32 (m : Int)] (.bool (s.all (okB m))) [] := by
 refine ⟨fun g w vs hmem hl hv => ?_⟩
 obtain ⟨v0, v1, rfl⟩ : ∃ v0 v1, vs = [v0, v1] := by
  match vs, hl with
  | [v0, v1], _ => exact ⟨v0, v1, rfl⟩
 have h0 := (hv 0 _ _ rfl rfl).str_inv.1
 have h1 := (hv 1 _ _ rfl rfl).int_inv
 subst h0 h1
 exact (plain_walk ⟨s.toArray⟩ m hm w _ rfl).mono fun e w' ⟨he, hb⟩ => endBelow hmem hb he (.bool _)
structure EidV where
 i : Bool
 n : Nat
 s : Nat
 h : List UInt8
 d : List UInt8
 deriving DecidableEq
abbrev eC (x : EidV) : List D := [.bool x.i, .int .u64 (x.n : Int), .int .u64 (x.s : Int), .str x.h, .str x.d]
def eidZ : EidV := ⟨false, 0, 0, [], []⟩
def isZ (x : EidV) : Bool := x.i == false && ((x.n : Int) == 0 && ((x.s : Int) == 0 && (x.h == [] && (x.d == [] && true))))
def eRight (x : EidV) : Bool :=
 if isZ x then true
 else if x.i then (x.i == true && ((x.n : Int) == (x.n : Int) && ((x.s : Int) == (x.s : Int) && (x.h == [] && (x.d == [] && true))))) && decide ((x.n : Int) ≥ 1) && decide ((x.n : Int) <= 4294967295) && decide ((x.s : Int) <= 4294967295)
 else (x.i == false && ((x.n : Int) == 0 && ((x.s : Int) == 0 && (x.h == x.h && (x.d == x.d && true))))) && decide ((x.h.length : Int) ≥ 1) && decide ((x.h.length : Int) <= 16) && decide ((x.d.length : Int) <= 24) && x.h.all (okB 45) && x.d.all (okB 47)
theorem eRight_Z {x : EidV} (h : isZ x = true) : eRight x = true := by unfold eRight; rw [if_pos h]
theorem eRight_I {x : EidV} (h : isZ x = false) (hi : x.i = true) : eRight x = ((x.i == true && ((x.n : Int) == (x.n : Int) && ((x.s : Int) == (x.s : Int) && (x.h == [] && (x.d == [] && true))))) && decide ((x.n : Int) ≥ 1) && decide ((x.n : Int) <= 4294967295) && decide ((x.s : Int) <= 4294967295)) := by
 unfold eRight; rw [if_neg (by rw [h]; decide), if_pos hi]
theorem eRight_T {x : EidV} (h : isZ x = false) (hi : x.i = false) : eRight x = ((x.i == false && ((x.n : Int) == 0 && ((x.s : Int) == 0 && (x.h == x.h && (x.d == x.d && true))))) && decide ((x.h.length : Int) ≥ 1) && decide ((x.h.length : Int) <= 16) && decide ((x.d.length : Int) <= 24) && x.h.all (okB 45) && x.d.all (okB 47)) := by
 unfold eRight; rw [if_neg (by rw [h]; decide), if_neg (by rw [hi]; decide)]
theorem av_eRight [Known] (x : EidV) : AP Tryz.prog 20 [.agg (eC x)] (.bool (eRight x)) [] := by
 refine AP.ofA ?_
 refine AC_of Tryz.func20 rfl Tryz.ntmps20 rfl rfl ?_
 cases hz : isZ x with
 | true =>
  rw [eRight_Z hz]
  unfold isZ at hz
  repeat' (first | (apply AL_go ttok; exact rfl) | (apply AW_go ttok; exact rfl) | (apply K_go ttok; exact rfl) | (apply AW_condA; exact rfl; (first | with_reducible assumption | (solve | simp only [bn]))) | (apply AL_eqS ttok; (iterate 4 exact rfl); (kernel_rfl); (kernel_rfl); (iterate 3 exact rfl)))
  (apply endQ []; (apply resG_ok ttok; exact rfl); (iterate 4 exact rfl))
  all_goals rfl
 | false =>
  cases hi : x.i with
  | true =>
   rw [eRight_I hz hi]
   unfold isZ at hz
   repeat' (first | (apply AL_go ttok; exact rfl) | (apply AW_go ttok; exact rfl) | (apply K_go ttok; exact rfl) | (apply AL_guardT; (iterate 3 exact rfl); (first | with_reducible assumption | (solve | simp only [bn]))) | (apply AL_guardFt; (iterate 3 exact rfl); (first | with_reducible assumption | (solve | simp only [bn]))) | (apply AL_guardS; exact rfl; exact rfl; all_goals intro hb) | (apply AL_pickT; exact rfl; (first | with_reducible assumption | (solve | simp only [bn])); exact rfl; exact rfl) | (apply AL_pickF; exact rfl; (first | with_reducible assumption | (solve | simp only [bn])); exact rfl; exact rfl) | (apply AW_condA; exact rfl; (first | with_reducible assumption | (solve | simp only [bn]))) | (apply AW_condB; exact rfl; (first | with_reducible assumption | (solve | simp only [bn]))) | (apply AL_eqS ttok; (iterate 4 exact rfl); (kernel_rfl); (kernel_rfl); (iterate 3 exact rfl)))
   all_goals (apply endQ []; (apply resG_ok ttok; exact rfl); (iterate 4 exact rfl))
   all_goals first | rfl | (clear hi hz; simp only [*]; done) | (clear hi hz; simp only [*]; simp only [Bool.and_true, Bool.true_and, Bool.and_false, Bool.false_and]; done)
  | false =>
   rw [eRight_T hz hi]
   unfold isZ at hz
   repeat' (first | (apply AL_callPw (av_plain x.h 45 (by decide)); kernel_rfl; (iterate 4 exact rfl)) | (apply AL_callPw (av_plain x.d 47 (by decide)); kernel_rfl; (iterate 4 exact rfl)) | (apply AL_go ttok; exact rfl) | (apply AW_go ttok; exact rfl) | (apply K_go ttok; exact rfl) | (apply AL_guardT; (iterate 3 exact rfl); (first | with_reducible assumption | (solve | simp only [bn]))) | (apply AL_guardFt; (iterate 3 exact rfl); (first | with_reducible assumption | (solve | simp only [bn]))) | (apply AL_guardS; exact rfl; exact rfl; all_goals intro hb) | (apply AL_pickT; exact rfl; (first | with_reducible assumption | (solve | simp only [bn])); exact rfl; exact rfl) | (apply AL_pickF; exact rfl; (first | with_reducible assumption | (solve | simp only [bn])); exact rfl; exact rfl) | (apply AW_condB; exact rfl; (first | with_reducible assumption | (solve | simp only [bn]))) | (apply AL_lens ttok; (iterate 4 exact rfl)) | (apply AL_eqS ttok; (iterate 4 exact rfl); (kernel_rfl); (kernel_rfl); (iterate 3 exact rfl)))
   all_goals (apply endQ []; (apply resG_ok ttok; exact rfl); (iterate 4 exact rfl))
   all_goals first | rfl | (clear hi hz; simp only [*]; done) | (clear hi hz; simp only [*]; simp only [Bool.and_true, Bool.true_and, Bool.and_false, Bool.false_and]; done)
end Go.Proofs.YtpodhnaofhfinaaGreatDoor
end
section
open Go.RowKit Go.Pl Go.Av
namespace Go.Proofs.YtpodhnaofhfinaaGreatDoor
def cutV (c : UInt8) : List UInt8 -> List UInt8 × List UInt8 × Bool
 | [] => ([], [], false)
 | x :: s => if x = c then ([], s, true) else (x :: (cutV c s).1, (cutV c s).2.1, (cutV c s).2.2)
theorem cutV_no {c : UInt8} : ∀ {s : List UInt8}, c ∉ s -> cutV c s = (s, [], false)
 | [], _ => rfl
 | x :: s, h => by
  have h1 : ¬ x = c := fun e => h (by rw [e]; exact List.mem_cons_self ..)
  have h2 := cutV_no (c := c) (s := s) fun hm => h (List.mem_cons_of_mem _ hm)
  rw [cutV, if_neg h1, h2]
theorem cutV_yes {c : UInt8} : ∀ {a b : List UInt8}, c ∉ a -> cutV c (a ++ c :: b) = (a, b, true)
 | [], b, _ => by rw [List.nil_append, cutV, if_pos rfl]
 | x :: a, b, h => by
  have h1 : ¬ x = c := fun e => h (by rw [e]; exact List.mem_cons_self ..)
  have h2 := cutV_yes (c := c) (a := a) (b := b) fun hm => h (List.mem_cons_of_mem _ hm)
  rw [List.cons_append, cutV, if_neg h1, h2]
def preV (p s : List UInt8) : List UInt8 × Bool := if s.take p.length == p then (s.drop p.length, true) else (s, false)
theorem preV_app (p r : List UInt8) : preV p (p ++ r) = (r, true) := by
 unfold preV
 rw [List.take_left, beq_self_eq_true, if_pos rfl, List.drop_left]
theorem preV_no {p s : List UInt8} (h : (s.take p.length == p) = false) : preV p s = (s, false) := by
 unfold preV; rw [h]; rfl
def ppV (s : List UInt8) : EidV × Bool :=
 (⟨false, 0, 0, (cutV 47 (preV [47, 47] s).1).1, (cutV 47 (preV [47, 47] s).1).2.1⟩, (preV [47, 47] s).2 && ((cutV 47 (preV [47, 47] s).1).2.2 && ((cutV 47 (preV [47, 47] s).1).1 != [] && eRight ⟨false, 0, 0, (cutV 47 (preV [47, 47] s).1).1, (cutV 47 (preV [47, 47] s).1).2.1⟩)))
theorem isZ_iff {x : EidV} : isZ x = true ↔ x = eidZ := by
 obtain ⟨i, n, s, h, d⟩ := x
 simp only [isZ, eidZ, Bool.and_eq_true, beq_iff_eq, EidV.mk.injEq]
 constructor
 ·rintro ⟨h1, h2, h3, h4, h5, _⟩
  exact ⟨h1, by omega, by omega, h4, h5⟩
 ·rintro ⟨h1, h2, h3, h4, h5⟩
  exact ⟨h1, by omega, by omega, h4, h5, trivial⟩
theorem not_mem_ok {m : Nat} {c : UInt8} {l : List UInt8} (hl : l.all (okB m) = true) (h : okB m c = false) : c ∉ l := fun hm => by
 have := List.all_eq_true.1 hl c hm
 rw [h] at this; cases this
end Go.Proofs.YtpodhnaofhfinaaGreatDoor
end
section
open Go.RowKit Go.Pl Go.Av
namespace Go.Proofs.YtpodhnaofhfinaaGreatDoor
set_option maxHeartbeats 4000000
set_option maxRecDepth 100000 in
theorem ixb_walk (s : ByteArray) (c : Int) (w : World) : Calls Tryz.prog 122 #[.string s, .int .u8 c] w fun e w' => e = .returned (.int .i64 (Lib.indexByte s.data.toList c.toNat.toUInt8)) /\ w' = w := by
 go_enter Tryz.func122, Tryz.ntmps122
 go_wp2
 rw [run_callFunc_extern Tryz.func126 (by kernel_rfl) (by kernel_rfl) (by kernel_rfl) (e := Extern.BytealgIndexByte.indexByte) (by kernel_rfl), Lib.run_indexByteString]
 simp only [Result.andThen]
 rw [Oper.upon_value]
 go_wp2
 go_ret
 exact ⟨rfl, rfl⟩
theorem av_ixb [Known] (s : List UInt8) (c : Int) : AP Tryz.prog 122 [.str s, .int .u8 c] (.int .i64 (Lib.indexByte s c.toNat.toUInt8)) [] := by
 refine ⟨fun g w vs hmem hl hv => ?_⟩
 obtain ⟨v0, v1, rfl⟩ : ∃ v0 v1, vs = [v0, v1] := by
  match vs, hl with
  | [v0, v1], _ => exact ⟨v0, v1, rfl⟩
 have h0 := (hv 0 _ _ rfl rfl).str_inv.1
 have h1 := (hv 1 _ _ rfl rfl).int_inv
 subst h0 h1
 exact (ixb_walk ⟨s.toArray⟩ c w).mono fun e w' ⟨he, hb⟩ => endBelow hmem (hb ▸ Below.refl _ _) he (.int _ _)
end Go.Proofs.YtpodhnaofhfinaaGreatDoor
end
section
open Go.RowKit Go.Pl Go.Av
namespace Go.Proofs.YtpodhnaofhfinaaGreatDoor
set_option maxHeartbeats 4000000
theorem av_hasPre [Known] (s p : List UInt8) (hs : s.length <= 4611686018427387904) (hp : p.length <= 4611686018427387904) : AP Tryz.prog 119 [.str s, .str p] (.bool (s.take p.length == p)) [] := by
 by_cases h : p.length <= s.length
 ·have t1 : decide ((s.length : Int) ≥ (p.length : Int)) = true := decide_eq_true (by omega)
  have hq : ((p.length : Nat) : Int).toNat <= s.length := by rw [Int.toNat_natCast]; exact h
  have hs2 : (s.take ((p.length : Nat) : Int).toNat).drop 0 = s.take p.length := by rw [Int.toNat_natCast, List.drop_zero]
  generalize s.take p.length = s2 at *
  refine AP.ofA ?_
  refine AC_of Tryz.func119 rfl Tryz.ntmps119 rfl rfl ?_
  repeat' (first | (apply AL_sliceS ttok; (iterate 4 exact rfl); exact .dft _; exact .lit _ _ _ _ rfl (Int.natCast_nonneg _); exact Nat.zero_le _; exact hq; exact hs2) | (apply AL_go ttok; exact rfl) | (apply AW_go ttok; exact rfl) | (apply AL_guardT; (iterate 3 exact rfl); (first | with_reducible assumption | decide +kernel)) | (apply AL_pickT; exact rfl; (first | with_reducible assumption | decide +kernel); exact rfl; exact rfl) | (apply AL_lens ttok; (iterate 4 exact rfl)))
  all_goals (apply endQ []; (apply resG_ok ttok; exact rfl); (iterate 4 exact rfl))
  all_goals rfl
 ·have t1 : decide ((s.length : Int) ≥ (p.length : Int)) = false := decide_eq_false (by omega)
  have e : (s.take p.length == p) = false := by
   rw [beq_eq_false_iff_ne]
   intro e
   have := congrArg List.length e
   rw [List.length_take] at this
   omega
  rw [e]
  refine AP.ofA ?_
  refine AC_of Tryz.func119 rfl Tryz.ntmps119 rfl rfl ?_
  repeat' (first | (apply AL_go ttok; exact rfl) | (apply AW_go ttok; exact rfl) | (apply AL_guardFt; (iterate 3 exact rfl); (first | with_reducible assumption | decide +kernel)) | (apply AL_pickF; exact rfl; (first | with_reducible assumption | decide +kernel); exact rfl; exact rfl) | (apply AL_lens ttok; (iterate 4 exact rfl)))
  all_goals (apply endQ []; (apply resG_ok ttok; exact rfl); (iterate 4 exact rfl))
  all_goals rfl
theorem av_cutPreY [Known] (p r : List UInt8) (hs : (p ++ r).length <= 4611686018427387904) : AP Tryz.prog 104 [.str (p ++ r), .str p] (.tup [.str r, .bool true]) [] := by
 have hH := av_hasPre (p ++ r) p hs (by rw [List.length_append] at hs; omega)
 rw [List.take_left, beq_self_eq_true] at hH
 have hq : ((p.length : Nat) : Int).toNat <= (p ++ r).length := by rw [Int.toNat_natCast, List.length_append]; omega
 have hs2 : ((p ++ r).take (p ++ r).length).drop ((p.length : Nat) : Int).toNat = r := by rw [Int.toNat_natCast, List.take_length, List.drop_left]
 have hC : AP Tryz.prog 115 [.str (p ++ r), .str p] (.tup [.str r, .bool true]) [] := by
  generalize p ++ r = s at *
  refine AP.ofA ?_
  refine AC_of Tryz.func115 rfl Tryz.ntmps115 rfl rfl ?_
  repeat' (first | (apply AL_callPw (hH); kernel_rfl; (iterate 4 exact rfl)) | (apply AL_sliceS ttok; (iterate 4 exact rfl); exact .lit _ _ _ _ rfl (Int.natCast_nonneg _); exact .dft _; exact hq; exact Nat.le_refl _; exact hs2) | (apply AL_go ttok; exact rfl) | (apply AW_go ttok; exact rfl) | (apply K_go ttok; exact rfl) | (apply AW_condB; exact rfl; (first | with_reducible assumption | decide +kernel)) | (apply AL_lens ttok; (iterate 4 exact rfl)))
  all_goals (apply endQ []; (apply resG_ok ttok; exact rfl); (iterate 4 exact rfl))
  all_goals rfl
 refine AP.ofA ?_
 refine AC_of Tryz.func104 rfl Tryz.ntmps104 rfl rfl ?_
 repeat' (first | (apply AL_callPw (hC); kernel_rfl; (iterate 4 exact rfl)) | (apply AL_go ttok; exact rfl) | (apply AW_go ttok; exact rfl))
 all_goals (apply endQ []; (apply resG_ok ttok; exact rfl); (iterate 4 exact rfl))
 all_goals rfl
theorem av_cutPreN [Known] (s p : List UInt8) (hs : s.length <= 4611686018427387904) (hp : p.length <= 4611686018427387904) (h : (s.take p.length == p) = false) : AP Tryz.prog 104 [.str s, .str p] (.tup [.str s, .bool false]) [] := by
 have hH := av_hasPre s p hs hp
 rw [h] at hH
 have hC : AP Tryz.prog 115 [.str s, .str p] (.tup [.str s, .bool false]) [] := by
  refine AP.ofA ?_
  refine AC_of Tryz.func115 rfl Tryz.ntmps115 rfl rfl ?_
  repeat' (first | (apply AL_callPw (hH); kernel_rfl; (iterate 4 exact rfl)) | (apply AL_go ttok; exact rfl) | (apply AW_go ttok; exact rfl) | (apply K_go ttok; exact rfl) | (apply AW_condA; exact rfl; (first | with_reducible assumption | decide +kernel)))
  all_goals (apply endQ []; (apply resG_ok ttok; exact rfl); (iterate 4 exact rfl))
  all_goals rfl
 refine AP.ofA ?_
 refine AC_of Tryz.func104 rfl Tryz.ntmps104 rfl rfl ?_
 repeat' (first | (apply AL_callPw (hC); kernel_rfl; (iterate 4 exact rfl)) | (apply AL_go ttok; exact rfl) | (apply AW_go ttok; exact rfl))
 all_goals (apply endQ []; (apply resG_ok ttok; exact rfl); (iterate 4 exact rfl))
 all_goals rfl
theorem pre_cases (s p : List UInt8) : (∃ r, s = p ++ r) \/ (s.take p.length == p) = false := by
 cases h : s.take p.length == p with
 | true =>
  refine .inl ⟨s.drop p.length, ?_⟩
  have := beq_iff_eq.1 h
  conv => lhs; rw [<- List.take_append_drop p.length s, this]
 | false => exact .inr rfl
theorem ixb_no : ∀ {l : List UInt8} {c : UInt8}, c ∉ l -> Lib.indexByte l c = -1
 | [], _, _ => rfl
 | x :: l, c, h => by
  have h1 : ¬ x = c := fun e => h (by rw [e]; exact List.mem_cons_self ..)
  have h2 := ixb_no (l := l) (c := c) fun hm => h (List.mem_cons_of_mem _ hm)
  simp [Lib.indexByte, h1, h2]
theorem ixb_yes : ∀ {a b : List UInt8} {c : UInt8}, c ∉ a -> Lib.indexByte (a ++ c :: b) c = (a.length : Int)
 | [], b, c, _ => by simp [Lib.indexByte]
 | x :: a, b, c, h => by
  have h1 : ¬ x = c := fun e => h (by rw [e]; exact List.mem_cons_self ..)
  have h2 := ixb_yes (a := a) (b := b) (c := c) fun hm => h (List.mem_cons_of_mem _ hm)
  rw [List.cons_append]
  simp only [Lib.indexByte, h2, List.length_cons, beq_iff_eq, h1, if_false]
  (repeat' split) <;> omega
theorem av_index1 [Known] (s : List UInt8) (c : UInt8) : AP Tryz.prog 120 [.str s, .str [c]] (.int .i64 (Lib.indexByte s c)) [] := by
 have hI := av_ixb s (c.toNat : Int)
 have e : ((c.toNat : Int)).toNat.toUInt8 = c := by rw [Int.toNat_natCast]; simp
 rw [e] at hI
 have t0 : ((([c] : List UInt8).length : Int) == 0) = false := rfl
 have t1 : ((([c] : List UInt8).length : Int) == 1) = true := rfl
 by_cases hs : [c] = s
 ·subst hs
  have t2 : ([c] == [c]) = true := by simp
  have e0 : Lib.indexByte [c] c = 0 := by simp [Lib.indexByte]
  rw [e0]
  refine AP.ofA ?_
  refine AC_of Tryz.func120 rfl Tryz.ntmps120 rfl rfl ?_
  repeat' (first | (apply AL_go ttok; exact rfl) | (apply AW_go ttok; exact rfl) | (apply K_go ttok; exact rfl) | (apply AL_guardT; (iterate 3 exact rfl); (first | with_reducible assumption | decide +kernel)) | (apply AL_pickF; exact rfl; (first | with_reducible assumption | decide +kernel); exact rfl; exact rfl) | (apply AW_condA; exact rfl; (first | with_reducible assumption | decide +kernel)) | (apply AL_lens ttok; (iterate 4 exact rfl)))
  all_goals (apply endQ []; (apply resG_ok ttok; exact rfl); (iterate 4 exact rfl))
  all_goals rfl
 ·have t2 : ([c] == s) = false := by simpa using hs
  refine AP.ofA ?_
  refine AC_of Tryz.func120 rfl Tryz.ntmps120 rfl rfl ?_
  repeat' (first | (apply AL_callPw (hI); kernel_rfl; (iterate 4 exact rfl)) | (apply AL_idxs ttok; (iterate 5 exact rfl); decide +kernel; exact rfl) | (apply AL_go ttok; exact rfl) | (apply AW_go ttok; exact rfl) | (apply K_go ttok; exact rfl) | (apply AL_guardT; (iterate 3 exact rfl); (first | with_reducible assumption | decide +kernel)) | (apply AL_pickF; exact rfl; (first | with_reducible assumption | decide +kernel); exact rfl; exact rfl) | (apply AW_condA; exact rfl; (first | with_reducible assumption | decide +kernel)) | (apply AW_condB; exact rfl; (first | with_reducible assumption | decide +kernel)) | (apply AL_lens ttok; (iterate 4 exact rfl)))
  all_goals (apply endQ []; (apply resG_ok ttok; exact rfl); (iterate 4 exact rfl))
  all_goals rfl
theorem av_cutN [Known] (s : List UInt8) (c : UInt8) (h : c ∉ s) : AP Tryz.prog 105 [.str s, .str [c]] (.tup [.str s, .str [], .bool false]) [] := by
 have hI := av_index1 s c
 rw [ixb_no h] at hI
 have hC : AP Tryz.prog 116 [.str s, .str [c]] (.tup [.str s, .str [], .bool false]) [] := by
  refine AP.ofA ?_
  refine AC_of Tryz.func116 rfl Tryz.ntmps116 rfl rfl ?_
  repeat' (first | (apply AL_callPw (hI); kernel_rfl; (iterate 4 exact rfl)) | (apply AL_go ttok; exact rfl) | (apply AW_go ttok; exact rfl) | (apply AW_condB; exact rfl; (first | with_reducible assumption | decide +kernel)))
  all_goals (apply endQ []; (apply resG_ok ttok; exact rfl); (iterate 4 exact rfl))
  all_goals rfl
 refine AP.ofA ?_
 refine AC_of Tryz.func105 rfl Tryz.ntmps105 rfl rfl ?_
 repeat' (first | (apply AL_callPw (hC); kernel_rfl; (iterate 4 exact rfl)) | (apply AL_go ttok; exact rfl) | (apply AW_go ttok; exact rfl))
 all_goals (apply endQ []; (apply resG_ok ttok; exact rfl); (iterate 4 exact rfl))
 all_goals rfl
theorem av_cutY [Known] (a b : List UInt8) (c : UInt8) (h : c ∉ a) (hl : (a ++ c :: b).length <= 4611686018427387904) : AP Tryz.prog 105 [.str (a ++ c :: b), .str [c]] (.tup [.str a, .str b, .bool true]) [] := by
 have hI := av_index1 (a ++ c :: b) c
 rw [ixb_yes h] at hI
 have hal : a.length + 1 <= (a ++ c :: b).length := by rw [List.length_append, List.length_cons]; omega
 have t1 : decide ((a.length : Int) ≥ 0) = true := decide_eq_true (by omega)
 have e1 : IntKind.i64.wrap ((a.length : Int) + (([c] : List UInt8).length : Int)) = ((a.length + 1 : Nat) : Int) := by
  rw [IntWalk.i64_in _ (by simp; omega)]; simp
 have q1 : ((a.length : Nat) : Int).toNat <= (a ++ c :: b).length := by rw [Int.toNat_natCast]; omega
 have q2 : ((a.length + 1 : Nat) : Int).toNat <= (a ++ c :: b).length := by rw [Int.toNat_natCast]; omega
 have s1 : ((a ++ c :: b).take ((a.length : Nat) : Int).toNat).drop 0 = a := by rw [Int.toNat_natCast, List.drop_zero, List.take_left]
 have s2 : ((a ++ c :: b).take (a ++ c :: b).length).drop ((a.length + 1 : Nat) : Int).toNat = b := by
  rw [Int.toNat_natCast, List.take_length, show a.length + 1 = (a ++ [c]).length by simp, show a ++ c :: b = (a ++ [c]) ++ b by simp, List.drop_left]
 have hC : AP Tryz.prog 116 [.str (a ++ c :: b), .str [c]] (.tup [.str a, .str b, .bool true]) [] := by
  generalize a ++ c :: b = s at *
  refine AP.ofA ?_
  refine AC_of Tryz.func116 rfl Tryz.ntmps116 rfl rfl ?_
  repeat' (first | rw [e1] | (apply AL_callPw (hI); kernel_rfl; (iterate 4 exact rfl)) | (apply AL_sliceS ttok; (iterate 4 exact rfl); exact .dft _; exact .lit _ _ _ _ rfl (Int.natCast_nonneg _); exact Nat.zero_le _; exact q1; exact s1) | (apply AL_sliceS ttok; (iterate 4 exact rfl); exact .lit _ _ _ _ rfl (Int.natCast_nonneg _); exact .dft _; exact q2; exact Nat.le_refl _; exact s2) | (apply AL_go ttok; exact rfl) | (apply AW_go ttok; exact rfl) | (apply AW_condA; exact rfl; (first | with_reducible assumption | decide +kernel)) | (apply AL_lens ttok; (iterate 4 exact rfl)) | (apply AW_drawE 10 hmix; (decide +kernel); (kernel_rfl); (kernel_rfl); (kernel_rfl); exact rfl; exact rfl) | (apply AE_consZ; (iterate 4 exact rfl)) | exact AE.nil _ _ _ _ | (apply AEk_puT; exact rfl) | (apply AOt_mk; exact rfl; exact rfl; (decide +kernel); exact rfl) | (apply AO_puT; exact rfl) | exact AO.nil _ _ _ | (apply AOs_skip; (decide +kernel)) | exact AOs.nil | exact qY_ok rfl rfl)
  all_goals (apply endQ []; (apply resG_ok ttok; exact rfl); (iterate 4 exact rfl))
  all_goals rfl
 refine AP.ofA ?_
 refine AC_of Tryz.func105 rfl Tryz.ntmps105 rfl rfl ?_
 repeat' (first | (apply AL_callPw (hC); kernel_rfl; (iterate 4 exact rfl)) | (apply AL_go ttok; exact rfl) | (apply AW_go ttok; exact rfl))
 all_goals (apply endQ []; (apply resG_ok ttok; exact rfl); (iterate 4 exact rfl))
 all_goals rfl
theorem cut_cases (c : UInt8) : ∀ s : List UInt8, (c ∉ s) \/ ∃ a b, s = a ++ c :: b /\ c ∉ a
 | [] => .inl (by simp)
 | x :: s => by
  by_cases e : x = c
  ·subst e; exact .inr ⟨[], s, rfl, by simp⟩
  ·rcases cut_cases c s with h | ⟨a, b, rfl, h⟩
   ·refine .inl fun hm => ?_
    rcases List.mem_cons.1 hm with h2 | h2
    ·exact e h2.symm
    ·exact h h2
   ·refine .inr ⟨x :: a, b, rfl, fun hm => ?_⟩
    rcases List.mem_cons.1 hm with h2 | h2
    ·exact e h2.symm
    ·exact h h2
end Go.Proofs.YtpodhnaofhfinaaGreatDoor
end
section
open Go.RowKit Go.Pl
namespace Go.Av
section
variable {P : Program} {Q : X -> St -> Prop} {n : Nat} {ee : Nat × Nat} {tm : List (Nat × D)} {bx : List (List D)} {fr : List Fr}
variable {ops : Array Oper} {rest : List Oper} {t ty : Nat} {pos : String} {after : Array Edge}
end
end Go.Av
end
section
open Go.RowKit Go.Pl Go.Av
namespace Go.Proofs.YtpodhnaofhfinaaGreatDoor
set_option maxHeartbeats 4000000
theorem preV_len (p s : List UInt8) : (preV p s).1.length <= s.length := by
 unfold preV
 split
 ·simp
 ·exact Nat.le_refl _
theorem av_cut [Known] (s : List UInt8) (c : UInt8) (hl : s.length <= 4611686018427387904) : AP Tryz.prog 105 [.str s, .str [c]] (.tup [.str (cutV c s).1, .str (cutV c s).2.1, .bool (cutV c s).2.2]) [] := by
 rcases cut_cases c s with h | ⟨a, b, rfl, h⟩
 ·rw [cutV_no h]; exact av_cutN s c h
 ·rw [cutV_yes h]; exact av_cutY a b c h hl
theorem av_cutPre [Known] (s p : List UInt8) (hs : s.length <= 4611686018427387904) (hp : p.length <= 4611686018427387904) : AP Tryz.prog 104 [.str s, .str p] (.tup [.str (preV p s).1, .bool (preV p s).2]) [] := by
 rcases pre_cases s p with ⟨r, rfl⟩ | h
 ·rw [preV_app]; exact av_cutPreY p r hs
 ·rw [preV_no h]; exact av_cutPreN s p hs hp h
theorem av_pp [Known] (s : List UInt8) (hs : s.length <= 140737488351232) : AP Tryz.prog 90 [.str s] (.tup [.agg (eC (ppV s).1), .bool (ppV s).2]) [] := by
 have hP := av_cutPre s [47, 47] (by omega) (by decide)
 have hl := preV_len [47, 47] s
 unfold ppV
 dsimp only
 generalize (preV [47, 47] s).1 = r at *
 generalize (preV [47, 47] s).2 = ok at *
 have hC := av_cut r 47 (by omega)
 generalize (cutV 47 r).1 = a at *
 generalize (cutV 47 r).2.1 = b at *
 generalize (cutV 47 r).2.2 = k at *
 have hR := av_eRight ⟨false, 0, 0, a, b⟩
 generalize eRight ⟨false, 0, 0, a, b⟩ = R at *
 replace hR : AP Tryz.prog _ [.agg [.bool false, .int .u64 0, .int .u64 0, .str a, .str b]] (.bool R) [] := hR
 show AP Tryz.prog _ _ (.tup [.agg [.bool false, .int .u64 0, .int .u64 0, .str a, .str b], _]) _
 obtain ⟨ne, h1⟩ : ∃ ne, (a != []) = ne := ⟨_, rfl⟩
 rw [h1]
 cases ok with
 | false =>
  refine AP.ofA ?_
  refine AC_of Tryz.func90 rfl Tryz.ntmps90 rfl rfl ?_
  repeat' (first | (apply AL_callPw (hP); kernel_rfl; (iterate 4 exact rfl)) | (apply AL_callPw (hC); kernel_rfl; (iterate 4 exact rfl)) | (apply AL_go ttok; exact rfl) | (apply AW_go ttok; exact rfl) | (apply AL_guardFt; (iterate 3 exact rfl); (first | with_reducible assumption | decide +kernel)) | (apply AL_pickF; exact rfl; (first | with_reducible assumption | decide +kernel); exact rfl; exact rfl) | (apply AW_drawE 14 hmix; (decide +kernel); (kernel_rfl); (kernel_rfl); (kernel_rfl); exact rfl; exact rfl) | (apply AE_consZ; (iterate 4 exact rfl)) | exact AE.nil _ _ _ _ | (apply AEk_puT; exact rfl) | (apply AEk_ef; exact rfl) | (apply AOt_mk; exact rfl; exact rfl; (decide +kernel); exact rfl) | (apply AO_puT; exact rfl) | (apply AO_ef; exact rfl) | exact AO.nil _ _ _ | (apply AOs_skip; (decide +kernel)) | (apply AOs_goZ; (iterate 3 exact rfl)) | exact AOs.nil | exact qY_ok rfl rfl | exact qY_efn rfl)
  all_goals (apply endQ []; (apply resG_ok ttok; exact rfl); (iterate 4 exact rfl))
  all_goals rfl
 | true =>
  cases k with
  | false =>
   refine AP.ofA ?_
   refine AC_of Tryz.func90 rfl Tryz.ntmps90 rfl rfl ?_
   repeat' (first | (apply AL_callPw (hP); kernel_rfl; (iterate 4 exact rfl)) | (apply AL_callPw (hC); kernel_rfl; (iterate 4 exact rfl)) | (apply AL_go ttok; exact rfl) | (apply AW_go ttok; exact rfl) | (apply AL_guardT; (iterate 3 exact rfl); (first | with_reducible assumption | decide +kernel)) | (apply AL_guardFt; (iterate 3 exact rfl); (first | with_reducible assumption | decide +kernel)) | (apply AL_pickT; exact rfl; (first | with_reducible assumption | decide +kernel); exact rfl; exact rfl) | (apply AL_pickF; exact rfl; (first | with_reducible assumption | decide +kernel); exact rfl; exact rfl) | (apply AW_drawE 14 hmix; (decide +kernel); (kernel_rfl); (kernel_rfl); (kernel_rfl); exact rfl; exact rfl) | (apply AE_consZ; (iterate 4 exact rfl)) | exact AE.nil _ _ _ _ | (apply AEk_puT; exact rfl) | (apply AEk_ef; exact rfl) | (apply AOt_mk; exact rfl; exact rfl; (decide +kernel); exact rfl) | (apply AO_puT; exact rfl) | (apply AO_ef; exact rfl) | exact AO.nil _ _ _ | (apply AOs_skip; (decide +kernel)) | (apply AOs_goZ; (iterate 3 exact rfl)) | exact AOs.nil | exact qY_ok rfl rfl | exact qY_efn rfl)
   all_goals (apply endQ []; (apply resG_ok ttok; exact rfl); (iterate 4 exact rfl))
   all_goals rfl
  | true =>
   cases ne <;> cases R
   all_goals
    refine AP.ofA ?_
    refine AC_of Tryz.func90 rfl Tryz.ntmps90 rfl rfl ?_
    repeat' (first | rw [h1] | (apply AL_callPw (hP); kernel_rfl; (iterate 4 exact rfl)) | (apply AL_callPw (hC); kernel_rfl; (iterate 4 exact rfl)) | (apply AL_callPw (hR); kernel_rfl; (iterate 4 exact rfl)) | (apply AL_go ttok; exact rfl) | (apply AW_go ttok; exact rfl) | (apply AL_guardT; (iterate 3 exact rfl); (first | with_reducible assumption | decide +kernel)) | (apply AL_guardFt; (iterate 3 exact rfl); (first | with_reducible assumption | decide +kernel)) | (apply AL_pickT; exact rfl; (first | with_reducible assumption | decide +kernel); exact rfl; exact rfl) | (apply AL_pickF; exact rfl; (first | with_reducible assumption | decide +kernel); exact rfl; exact rfl) | (apply AW_drawE 14 hmix; (decide +kernel); (kernel_rfl); (kernel_rfl); (kernel_rfl); exact rfl; exact rfl) | (apply AE_consZ; (iterate 4 exact rfl)) | exact AE.nil _ _ _ _ | (apply AEk_puT; exact rfl) | (apply AEk_ef; exact rfl) | (apply AOt_mk; exact rfl; exact rfl; (decide +kernel); exact rfl) | (apply AO_puT; exact rfl) | (apply AO_ef; exact rfl) | exact AO.nil _ _ _ | (apply AOs_skip; (decide +kernel)) | (apply AOs_goZ; (iterate 3 exact rfl)) | exact AOs.nil | exact qY_ok rfl rfl | exact qY_efn rfl)
    all_goals (apply endQ []; (apply resG_ok ttok; exact rfl); (iterate 4 exact rfl))
    all_goals rfl
end Go.Proofs.YtpodhnaofhfinaaGreatDoor
end
