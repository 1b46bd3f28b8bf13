/- The types of this seat's program, laid open: which kind each is of, its size, its zero. -/
import Derived.Test.YtfkmicjlaedlkaaDoorG03
import Derived.Test.YtfkmicjlaedlkaaDoorProg
import Derived.Test.YtfkmicjlaedlkaaDoorG09
import Derived.Test.YtfkmicjlaedlkaaDoorG01
set_option linter.unusedVariables false
set_option linter.unusedSimpArgs false
section
open Go.RowKit Go.Pl Go.Av
namespace Go.Proofs.YtfkmicjlaedlkaaDoor
def tt : Tab := [(1, Ti.mk Kd.func 1 8 [ZK.f]) ,
 (2, Ti.mk (Kd.int IntKind.i64) 1 8 [ZK.i IntKind.i64]) ,
 (3, Ti.mk (Kd.int IntKind.i64) 1 8 [ZK.i IntKind.i64]) ,
 (4, Ti.mk Kd.bool 1 1 [ZK.b]) ,
 (5, Ti.mk (Kd.int IntKind.u8) 1 1 [ZK.i IntKind.u8]) ,
 (6, Ti.mk (Kd.int IntKind.u8) 1 1 [ZK.i IntKind.u8]) ,
 (7, Ti.mk (Kd.struct [Av.Fd.mk 0 1 Bool.false 2, Av.Fd.mk 1 1 Bool.false 3, Av.Fd.mk 2 1 Bool.false 4, Av.Fd.mk 3 1 Bool.false 6]) 4 24 [ZK.i IntKind.i64, ZK.i IntKind.i64, ZK.b, ZK.i IntKind.u8]) ,
 (8, Ti.mk (Kd.struct [Av.Fd.mk 0 1 Bool.false 2, Av.Fd.mk 1 1 Bool.false 3, Av.Fd.mk 2 1 Bool.false 4, Av.Fd.mk 3 1 Bool.false 6]) 4 24 [ZK.i IntKind.i64, ZK.i IntKind.i64, ZK.b, ZK.i IntKind.u8]) ,
 (9, Ti.mk Kd.str 1 16 [ZK.s]) ,
 (10, Ti.mk Kd.str 1 16 [ZK.s]) ,
 (11, Ti.mk Kd.str 1 16 [ZK.s]) ,
 (12, Ti.mk (Kd.int IntKind.u64) 1 8 [ZK.i IntKind.u64]) ,
 (13, Ti.mk (Kd.struct [Av.Fd.mk 0 1 Bool.false 9, Av.Fd.mk 1 1 Bool.false 12]) 2 24 [ZK.s, ZK.i IntKind.u64]) ,
 (14, Ti.mk (Kd.struct [Av.Fd.mk 0 1 Bool.false 9, Av.Fd.mk 1 1 Bool.false 12]) 2 24 [ZK.s, ZK.i IntKind.u64]) ,
 (15, Ti.mk (Kd.ptr 199) 1 8 [ZK.p]) ,
 (16, Ti.mk (Kd.ptr 202) 1 8 [ZK.p]) ,
 (17, Ti.mk (Kd.ptr 211) 1 8 [ZK.p]) ,
 (18, Ti.mk (Kd.struct [Av.Fd.mk 0 1 Bool.false 17]) 1 8 [ZK.p]) ,
 (19, Ti.mk (Kd.struct [Av.Fd.mk 0 1 Bool.false 17]) 1 8 [ZK.p]) ,
 (20, Ti.mk Kd.iface 1 16 [ZK.n]) ,
 (21, Ti.mk (Kd.int IntKind.i32) 1 4 [ZK.i IntKind.i32]) ,
 (22, Ti.mk (Kd.int IntKind.u64) 1 8 [ZK.i IntKind.u64]) ,
 (23, Ti.mk (Kd.slice 5) 1 24 [ZK.l]) ,
 (24, Ti.mk Kd.func 1 8 [ZK.f]) ,
 (25, Ti.mk (Kd.slice 27) 1 24 [ZK.l]) ,
 (26, Ti.mk (Kd.struct [Av.Fd.mk 0 1 Bool.false 3, Av.Fd.mk 1 1 Bool.false 22, Av.Fd.mk 2 1 Bool.false 23, Av.Fd.mk 3 1 Bool.false 25]) 4 64 [ZK.i IntKind.i64, ZK.i IntKind.u64, ZK.l, ZK.l]) ,
 (27, Ti.mk (Kd.struct [Av.Fd.mk 0 1 Bool.false 3, Av.Fd.mk 1 1 Bool.false 22, Av.Fd.mk 2 1 Bool.false 23, Av.Fd.mk 3 1 Bool.false 25]) 4 64 [ZK.i IntKind.i64, ZK.i IntKind.u64, ZK.l, ZK.l]) ,
 (28, Ti.mk Kd.func 1 8 [ZK.f]) ,
 (29, Ti.mk Kd.func 1 8 [ZK.f]) ,
 (30, Ti.mk Kd.func 1 8 [ZK.f]) ,
 (31, Ti.mk Kd.func 1 8 [ZK.f]) ,
 (32, Ti.mk Kd.func 1 8 [ZK.f]) ,
 (33, Ti.mk Kd.func 1 8 [ZK.f]) ,
 (34, Ti.mk (Kd.int IntKind.i64) 1 8 [ZK.i IntKind.i64]) ,
 (36, Ti.mk Kd.func 1 8 [ZK.f]) ,
 (37, Ti.mk (Kd.slice 39) 1 24 [ZK.l]) ,
 (38, Ti.mk (Kd.struct [Av.Fd.mk 0 1 Bool.false 3, Av.Fd.mk 1 1 Bool.false 22, Av.Fd.mk 2 1 Bool.false 23, Av.Fd.mk 3 1 Bool.false 37]) 4 64 [ZK.i IntKind.i64, ZK.i IntKind.u64, ZK.l, ZK.l]) ,
 (39, Ti.mk (Kd.struct [Av.Fd.mk 0 1 Bool.false 3, Av.Fd.mk 1 1 Bool.false 22, Av.Fd.mk 2 1 Bool.false 23, Av.Fd.mk 3 1 Bool.false 37]) 4 64 [ZK.i IntKind.i64, ZK.i IntKind.u64, ZK.l, ZK.l]) ,
 (41, Ti.mk Kd.func 1 8 [ZK.f]) ,
 (42, Ti.mk Kd.func 1 8 [ZK.f]) ,
 (44, Ti.mk Kd.func 1 8 [ZK.f]) ,
 (46, Ti.mk Kd.func 1 8 [ZK.f]) ,
 (47, Ti.mk Kd.func 1 8 [ZK.f]) ,
 (48, Ti.mk Kd.func 1 8 [ZK.f]) ,
 (49, Ti.mk Kd.func 1 8 [ZK.f]) ,
 (50, Ti.mk (Kd.struct [Av.Fd.mk 0 1 Bool.false 4, Av.Fd.mk 1 1 Bool.false 22, Av.Fd.mk 2 1 Bool.false 22, Av.Fd.mk 3 1 Bool.false 9, Av.Fd.mk 4 1 Bool.false 9]) 5 56 [ZK.b, ZK.i IntKind.u64, ZK.i IntKind.u64, ZK.s, ZK.s]) ,
 (51, Ti.mk (Kd.struct [Av.Fd.mk 0 1 Bool.false 4, Av.Fd.mk 1 1 Bool.false 22, Av.Fd.mk 2 1 Bool.false 22, Av.Fd.mk 3 1 Bool.false 9, Av.Fd.mk 4 1 Bool.false 9]) 5 56 [ZK.b, ZK.i IntKind.u64, ZK.i IntKind.u64, ZK.s, ZK.s]) ,
 (52, Ti.mk (Kd.struct [Av.Fd.mk 0 5 Bool.true 51, Av.Fd.mk 5 1 Bool.false 22, Av.Fd.mk 6 1 Bool.false 22]) 7 72 [ZK.b, ZK.i IntKind.u64, ZK.i IntKind.u64, ZK.s, ZK.s, ZK.i IntKind.u64, ZK.i IntKind.u64]) ,
 (53, Ti.mk (Kd.struct [Av.Fd.mk 0 5 Bool.true 51, Av.Fd.mk 5 1 Bool.false 22, Av.Fd.mk 6 1 Bool.false 22]) 7 72 [ZK.b, ZK.i IntKind.u64, ZK.i IntKind.u64, ZK.s, ZK.s, ZK.i IntKind.u64, ZK.i IntKind.u64]) ,
 (54, Ti.mk (Kd.struct [Av.Fd.mk 0 1 Bool.false 22, Av.Fd.mk 1 1 Bool.false 3, Av.Fd.mk 2 5 Bool.true 51, Av.Fd.mk 7 5 Bool.true 51, Av.Fd.mk 12 7 Bool.true 53, Av.Fd.mk 19 1 Bool.false 22]) 20 208 [ZK.i IntKind.u64, ZK.i IntKind.i64, ZK.b, ZK.i IntKind.u64, ZK.i IntKind.u64, ZK.s, ZK.s, ZK.b, ZK.i IntKind.u64, ZK.i IntKind.u64, ZK.s, ZK.s, ZK.b, ZK.i IntKind.u64, ZK.i IntKind.u64, ZK.s, ZK.s, ZK.i IntKind.u64, ZK.i IntKind.u64, ZK.i IntKind.u64]) ,
 (55, Ti.mk (Kd.struct [Av.Fd.mk 0 1 Bool.false 22, Av.Fd.mk 1 1 Bool.false 3, Av.Fd.mk 2 5 Bool.true 51, Av.Fd.mk 7 5 Bool.true 51, Av.Fd.mk 12 7 Bool.true 53, Av.Fd.mk 19 1 Bool.false 22]) 20 208 [ZK.i IntKind.u64, ZK.i IntKind.i64, ZK.b, ZK.i IntKind.u64, ZK.i IntKind.u64, ZK.s, ZK.s, ZK.b, ZK.i IntKind.u64, ZK.i IntKind.u64, ZK.s, ZK.s, ZK.b, ZK.i IntKind.u64, ZK.i IntKind.u64, ZK.s, ZK.s, ZK.i IntKind.u64, ZK.i IntKind.u64, ZK.i IntKind.u64]) ,
 (56, Ti.mk Kd.func 1 8 [ZK.f]) ,
 (57, Ti.mk Kd.func 1 8 [ZK.f]) ,
 (59, Ti.mk Kd.func 1 8 [ZK.f]) ,
 (60, Ti.mk Kd.func 1 8 [ZK.f]) ,
 (61, Ti.mk Kd.func 1 8 [ZK.f]) ,
 (62, Ti.mk (Kd.int IntKind.u16) 1 2 [ZK.i IntKind.u16]) ,
 (63, Ti.mk Kd.func 1 8 [ZK.f]) ,
 (64, Ti.mk Kd.func 1 8 [ZK.f]) ,
 (65, Ti.mk (Kd.struct [Av.Fd.mk 0 1 Bool.false 4, Av.Fd.mk 1 1 Bool.false 4, Av.Fd.mk 2 1 Bool.false 4, Av.Fd.mk 3 1 Bool.false 22, Av.Fd.mk 4 1 Bool.false 22, Av.Fd.mk 5 7 Bool.true 53]) 12 96 [ZK.b, ZK.b, ZK.b, ZK.i IntKind.u64, ZK.i IntKind.u64, ZK.b, ZK.i IntKind.u64, ZK.i IntKind.u64, ZK.s, ZK.s, ZK.i IntKind.u64, ZK.i IntKind.u64]) ,
 (66, Ti.mk (Kd.struct [Av.Fd.mk 0 1 Bool.false 4, Av.Fd.mk 1 1 Bool.false 4, Av.Fd.mk 2 1 Bool.false 4, Av.Fd.mk 3 1 Bool.false 22, Av.Fd.mk 4 1 Bool.false 22, Av.Fd.mk 5 7 Bool.true 53]) 12 96 [ZK.b, ZK.b, ZK.b, ZK.i IntKind.u64, ZK.i IntKind.u64, ZK.b, ZK.i IntKind.u64, ZK.i IntKind.u64, ZK.s, ZK.s, ZK.i IntKind.u64, ZK.i IntKind.u64]) ,
 (67, Ti.mk (Kd.slice 74) 1 24 [ZK.l]) ,
 (68, Ti.mk (Kd.struct [Av.Fd.mk 0 20 Bool.true 55, Av.Fd.mk 20 1 Bool.false 67]) 21 232 [ZK.i IntKind.u64, ZK.i IntKind.i64, ZK.b, ZK.i IntKind.u64, ZK.i IntKind.u64, ZK.s, ZK.s, ZK.b, ZK.i IntKind.u64, ZK.i IntKind.u64, ZK.s, ZK.s, ZK.b, ZK.i IntKind.u64, ZK.i IntKind.u64, ZK.s, ZK.s, ZK.i IntKind.u64, ZK.i IntKind.u64, ZK.i IntKind.u64, ZK.l]) ,
 (69, Ti.mk (Kd.struct [Av.Fd.mk 0 20 Bool.true 55, Av.Fd.mk 20 1 Bool.false 67]) 21 232 [ZK.i IntKind.u64, ZK.i IntKind.i64, ZK.b, ZK.i IntKind.u64, ZK.i IntKind.u64, ZK.s, ZK.s, ZK.b, ZK.i IntKind.u64, ZK.i IntKind.u64, ZK.s, ZK.s, ZK.b, ZK.i IntKind.u64, ZK.i IntKind.u64, ZK.s, ZK.s, ZK.i IntKind.u64, ZK.i IntKind.u64, ZK.i IntKind.u64, ZK.l]) ,
 (71, Ti.mk Kd.func 1 8 [ZK.f]) ,
 (72, Ti.mk Kd.func 1 8 [ZK.f]) ,
 (73, Ti.mk (Kd.struct [Av.Fd.mk 0 1 Bool.false 22, Av.Fd.mk 1 1 Bool.false 22, Av.Fd.mk 2 1 Bool.false 22, Av.Fd.mk 3 1 Bool.false 3, Av.Fd.mk 4 1 Bool.false 23]) 5 56 [ZK.i IntKind.u64, ZK.i IntKind.u64, ZK.i IntKind.u64, ZK.i IntKind.i64, ZK.l]) ,
 (74, Ti.mk (Kd.struct [Av.Fd.mk 0 1 Bool.false 22, Av.Fd.mk 1 1 Bool.false 22, Av.Fd.mk 2 1 Bool.false 22, Av.Fd.mk 3 1 Bool.false 3, Av.Fd.mk 4 1 Bool.false 23]) 5 56 [ZK.i IntKind.u64, ZK.i IntKind.u64, ZK.i IntKind.u64, ZK.i IntKind.i64, ZK.l]) ,
 (76, Ti.mk Kd.func 1 8 [ZK.f]) ,
 (77, Ti.mk Kd.func 1 8 [ZK.f]) ,
 (79, Ti.mk Kd.func 1 8 [ZK.f]) ,
 (80, Ti.mk Kd.func 1 8 [ZK.f]) ,
 (81, Ti.mk Kd.func 1 8 [ZK.f]) ,
 (82, Ti.mk Kd.func 1 8 [ZK.f]) ,
 (83, Ti.mk Kd.func 1 8 [ZK.f]) ,
 (85, Ti.mk Kd.func 1 8 [ZK.f]) ,
 (86, Ti.mk Kd.func 1 8 [ZK.f]) ,
 (87, Ti.mk Kd.func 1 8 [ZK.f]) ,
 (88, Ti.mk Kd.func 1 8 [ZK.f]) ,
 (89, Ti.mk Kd.func 1 8 [ZK.f]) ,
 (90, Ti.mk Kd.func 1 8 [ZK.f]) ,
 (91, Ti.mk Kd.func 1 8 [ZK.f]) ,
 (92, Ti.mk Kd.func 1 8 [ZK.f]) ,
 (93, Ti.mk Kd.func 1 8 [ZK.f]) ,
 (95, Ti.mk Kd.func 1 8 [ZK.f]) ,
 (96, Ti.mk Kd.func 1 8 [ZK.f]) ,
 (97, Ti.mk Kd.func 1 8 [ZK.f]) ,
 (98, Ti.mk Kd.func 1 8 [ZK.f]) ,
 (99, Ti.mk Kd.func 1 8 [ZK.f]) ,
 (100, Ti.mk Kd.func 1 8 [ZK.f]) ,
 (101, Ti.mk Kd.func 1 8 [ZK.f]) ,
 (103, Ti.mk Kd.func 1 8 [ZK.f]) ,
 (105, Ti.mk Kd.func 1 8 [ZK.f]) ,
 (106, Ti.mk Kd.func 1 8 [ZK.f]) ,
 (107, Ti.mk Kd.func 1 8 [ZK.f]) ,
 (108, Ti.mk Kd.func 1 8 [ZK.f]) ,
 (109, Ti.mk Kd.func 1 8 [ZK.f]) ,
 (110, Ti.mk Kd.func 1 8 [ZK.f]) ,
 (111, Ti.mk Kd.func 1 8 [ZK.f]) ,
 (113, Ti.mk Kd.func 1 8 [ZK.f]) ,
 (115, Ti.mk Kd.func 1 8 [ZK.f]) ,
 (116, Ti.mk Kd.func 1 8 [ZK.f]) ,
 (117, Ti.mk (Kd.struct [Av.Fd.mk 0 1 Bool.false 34]) 1 8 [ZK.i IntKind.i64]) ,
 (118, Ti.mk (Kd.struct [Av.Fd.mk 0 1 Bool.false 34]) 1 8 [ZK.i IntKind.i64]) ,
 (120, Ti.mk (Kd.ptr 122) 1 8 [ZK.p]) ,
 (121, Ti.mk (Kd.struct [Av.Fd.mk 0 1 Bool.false 23, Av.Fd.mk 1 1 Bool.false 3, Av.Fd.mk 2 1 Bool.false 3]) 3 40 [ZK.l, ZK.i IntKind.i64, ZK.i IntKind.i64]) ,
 (122, Ti.mk (Kd.struct [Av.Fd.mk 0 1 Bool.false 23, Av.Fd.mk 1 1 Bool.false 3, Av.Fd.mk 2 1 Bool.false 3]) 3 40 [ZK.l, ZK.i IntKind.i64, ZK.i IntKind.i64]) ,
 (123, Ti.mk Kd.func 1 8 [ZK.f]) ,
 (124, Ti.mk Kd.func 1 8 [ZK.f]) ,
 (125, Ti.mk Kd.func 1 8 [ZK.f]) ,
 (126, Ti.mk Kd.func 1 8 [ZK.f]) ,
 (127, Ti.mk (Kd.int IntKind.u64) 1 8 [ZK.i IntKind.u64]) ,
 (128, Ti.mk (Kd.int IntKind.u32) 1 4 [ZK.i IntKind.u32]) ,
 (129, Ti.mk Kd.func 1 8 [ZK.f]) ,
 (130, Ti.mk Kd.func 1 8 [ZK.f]) ,
 (131, Ti.mk Kd.func 1 8 [ZK.f]) ,
 (132, Ti.mk Kd.func 1 8 [ZK.f]) ,
 (133, Ti.mk Kd.func 1 8 [ZK.f]) ,
 (134, Ti.mk Kd.func 1 8 [ZK.f]) ,
 (136, Ti.mk Kd.func 1 8 [ZK.f]) ,
 (137, Ti.mk (Kd.slice 22) 1 24 [ZK.l]) ,
 (139, Ti.mk Kd.func 1 8 [ZK.f]) ,
 (140, Ti.mk Kd.func 1 8 [ZK.f]) ,
 (141, Ti.mk Kd.func 1 8 [ZK.f]) ,
 (142, Ti.mk Kd.func 1 8 [ZK.f]) ,
 (143, Ti.mk Kd.func 1 8 [ZK.f]) ,
 (144, Ti.mk Kd.func 1 8 [ZK.f]) ,
 (145, Ti.mk Kd.func 1 8 [ZK.f]) ,
 (146, Ti.mk Kd.func 1 8 [ZK.f]) ,
 (147, Ti.mk (Kd.struct [Av.Fd.mk 0 1 Bool.false 3, Av.Fd.mk 1 1 Bool.false 22, Av.Fd.mk 2 1 Bool.false 4]) 3 24 [ZK.i IntKind.i64, ZK.i IntKind.u64, ZK.b]) ,
 (148, Ti.mk (Kd.struct [Av.Fd.mk 0 1 Bool.false 3, Av.Fd.mk 1 1 Bool.false 22, Av.Fd.mk 2 1 Bool.false 4]) 3 24 [ZK.i IntKind.i64, ZK.i IntKind.u64, ZK.b]) ,
 (149, Ti.mk Kd.func 1 8 [ZK.f]) ,
 (150, Ti.mk Kd.func 1 8 [ZK.f]) ,
 (151, Ti.mk Kd.func 1 8 [ZK.f]) ,
 (152, Ti.mk Kd.func 1 8 [ZK.f]) ,
 (153, Ti.mk Kd.func 1 8 [ZK.f]) ,
 (154, Ti.mk (Kd.struct [Av.Fd.mk 0 1 Bool.false 3, Av.Fd.mk 1 1 Bool.false 22, Av.Fd.mk 2 1 Bool.false 4]) 3 24 [ZK.i IntKind.i64, ZK.i IntKind.u64, ZK.b]) ,
 (155, Ti.mk Kd.func 1 8 [ZK.f]) ,
 (156, Ti.mk Kd.func 1 8 [ZK.f]) ,
 (158, Ti.mk Kd.func 1 8 [ZK.f]) ,
 (160, Ti.mk Kd.func 1 8 [ZK.f]) ,
 (161, Ti.mk (Kd.slice 4) 1 24 [ZK.l]) ,
 (162, Ti.mk Kd.func 1 8 [ZK.f]) ,
 (163, Ti.mk Kd.func 1 8 [ZK.f]) ,
 (164, Ti.mk Kd.func 1 8 [ZK.f]) ,
 (165, Ti.mk Kd.func 1 8 [ZK.f]) ,
 (166, Ti.mk Kd.func 1 8 [ZK.f]) ,
 (167, Ti.mk Kd.func 1 8 [ZK.f]) ,
 (169, Ti.mk Kd.func 1 8 [ZK.f]) ,
 (170, Ti.mk Kd.func 1 8 [ZK.f]) ,
 (171, Ti.mk Kd.func 1 8 [ZK.f]) ,
 (172, Ti.mk Kd.func 1 8 [ZK.f]) ,
 (173, Ti.mk Kd.func 1 8 [ZK.f]) ,
 (174, Ti.mk Kd.func 1 8 [ZK.f]) ,
 (175, Ti.mk Kd.func 1 8 [ZK.f]) ,
 (176, Ti.mk Kd.func 1 8 [ZK.f]) ,
 (178, Ti.mk Kd.func 1 8 [ZK.f]) ,
 (180, Ti.mk Kd.func 1 8 [ZK.f]) ,
 (181, Ti.mk Kd.func 1 8 [ZK.f]) ,
 (182, Ti.mk Kd.func 1 8 [ZK.f]) ,
 (183, Ti.mk (Kd.array 256 5) 256 256 [ZK.i IntKind.u8, ZK.i IntKind.u8, ZK.i IntKind.u8, ZK.i IntKind.u8, ZK.i IntKind.u8, ZK.i IntKind.u8, ZK.i IntKind.u8, ZK.i IntKind.u8, ZK.i IntKind.u8, ZK.i IntKind.u8, ZK.i IntKind.u8, ZK.i IntKind.u8, ZK.i IntKind.u8, ZK.i IntKind.u8, ZK.i IntKind.u8, ZK.i IntKind.u8, ZK.i IntKind.u8, ZK.i IntKind.u8, ZK.i IntKind.u8, ZK.i IntKind.u8, ZK.i IntKind.u8, ZK.i IntKind.u8, ZK.i IntKind.u8, ZK.i IntKind.u8, ZK.i IntKind.u8, ZK.i IntKind.u8, ZK.i IntKind.u8, ZK.i IntKind.u8, ZK.i IntKind.u8, ZK.i IntKind.u8, ZK.i IntKind.u8, ZK.i IntKind.u8, ZK.i IntKind.u8, ZK.i IntKind.u8, ZK.i IntKind.u8, ZK.i IntKind.u8, ZK.i IntKind.u8, ZK.i IntKind.u8, ZK.i IntKind.u8, ZK.i IntKind.u8, ZK.i IntKind.u8, ZK.i IntKind.u8, ZK.i IntKind.u8, ZK.i IntKind.u8, ZK.i IntKind.u8, ZK.i IntKind.u8, ZK.i IntKind.u8, ZK.i IntKind.u8, ZK.i IntKind.u8, ZK.i IntKind.u8, ZK.i IntKind.u8, ZK.i IntKind.u8, ZK.i IntKind.u8, ZK.i IntKind.u8, ZK.i IntKind.u8, ZK.i IntKind.u8, ZK.i IntKind.u8, ZK.i IntKind.u8, ZK.i IntKind.u8, ZK.i IntKind.u8, ZK.i IntKind.u8, ZK.i IntKind.u8, ZK.i IntKind.u8, ZK.i IntKind.u8, ZK.i IntKind.u8, ZK.i IntKind.u8, ZK.i IntKind.u8, ZK.i IntKind.u8, ZK.i IntKind.u8, ZK.i IntKind.u8, ZK.i IntKind.u8, ZK.i IntKind.u8, ZK.i IntKind.u8, ZK.i IntKind.u8, ZK.i IntKind.u8, ZK.i IntKind.u8, ZK.i IntKind.u8, ZK.i IntKind.u8, ZK.i IntKind.u8, ZK.i IntKind.u8, ZK.i IntKind.u8, ZK.i IntKind.u8, ZK.i IntKind.u8, ZK.i IntKind.u8, ZK.i IntKind.u8, ZK.i IntKind.u8, ZK.i IntKind.u8, ZK.i IntKind.u8, ZK.i IntKind.u8, ZK.i IntKind.u8, ZK.i IntKind.u8, ZK.i IntKind.u8, ZK.i IntKind.u8, ZK.i IntKind.u8, ZK.i IntKind.u8, ZK.i IntKind.u8, ZK.i IntKind.u8, ZK.i IntKind.u8, ZK.i IntKind.u8, ZK.i IntKind.u8, ZK.i IntKind.u8, ZK.i IntKind.u8, ZK.i IntKind.u8, ZK.i IntKind.u8, ZK.i IntKind.u8, ZK.i IntKind.u8, ZK.i IntKind.u8, ZK.i IntKind.u8, ZK.i IntKind.u8, ZK.i IntKind.u8, ZK.i IntKind.u8, ZK.i IntKind.u8, ZK.i IntKind.u8, ZK.i IntKind.u8, ZK.i IntKind.u8, ZK.i IntKind.u8, ZK.i IntKind.u8, ZK.i IntKind.u8, ZK.i IntKind.u8, ZK.i IntKind.u8, ZK.i IntKind.u8, ZK.i IntKind.u8, ZK.i IntKind.u8, ZK.i IntKind.u8, ZK.i IntKind.u8, ZK.i IntKind.u8, ZK.i IntKind.u8, ZK.i IntKind.u8, ZK.i IntKind.u8, ZK.i IntKind.u8, ZK.i IntKind.u8, ZK.i IntKind.u8, ZK.i IntKind.u8, ZK.i IntKind.u8, ZK.i IntKind.u8, ZK.i IntKind.u8, ZK.i IntKind.u8, ZK.i IntKind.u8, ZK.i IntKind.u8, ZK.i IntKind.u8, ZK.i IntKind.u8, ZK.i IntKind.u8, ZK.i IntKind.u8, ZK.i IntKind.u8, ZK.i IntKind.u8, ZK.i IntKind.u8, ZK.i IntKind.u8, ZK.i IntKind.u8, ZK.i IntKind.u8, ZK.i IntKind.u8, ZK.i IntKind.u8, ZK.i IntKind.u8, ZK.i IntKind.u8, ZK.i IntKind.u8, ZK.i IntKind.u8, ZK.i IntKind.u8, ZK.i IntKind.u8, ZK.i IntKind.u8, ZK.i IntKind.u8, ZK.i IntKind.u8, ZK.i IntKind.u8, ZK.i IntKind.u8, ZK.i IntKind.u8, ZK.i IntKind.u8, ZK.i IntKind.u8, ZK.i IntKind.u8, ZK.i IntKind.u8, ZK.i IntKind.u8, ZK.i IntKind.u8, ZK.i IntKind.u8, ZK.i IntKind.u8, ZK.i IntKind.u8, ZK.i IntKind.u8, ZK.i IntKind.u8, ZK.i IntKind.u8, ZK.i IntKind.u8, ZK.i IntKind.u8, ZK.i IntKind.u8, ZK.i IntKind.u8, ZK.i IntKind.u8, ZK.i IntKind.u8, ZK.i IntKind.u8, ZK.i IntKind.u8, ZK.i IntKind.u8, ZK.i IntKind.u8, ZK.i IntKind.u8, ZK.i IntKind.u8, ZK.i IntKind.u8, ZK.i IntKind.u8, ZK.i IntKind.u8, ZK.i IntKind.u8, ZK.i IntKind.u8, ZK.i IntKind.u8, ZK.i IntKind.u8, ZK.i IntKind.u8, ZK.i IntKind.u8, ZK.i IntKind.u8, ZK.i IntKind.u8, ZK.i IntKind.u8, ZK.i IntKind.u8, ZK.i IntKind.u8, ZK.i IntKind.u8, ZK.i IntKind.u8, ZK.i IntKind.u8, ZK.i IntKind.u8, ZK.i IntKind.u8, ZK.i IntKind.u8, ZK.i IntKind.u8, ZK.i IntKind.u8, ZK.i IntKind.u8, ZK.i IntKind.u8, ZK.i IntKind.u8, ZK.i IntKind.u8, ZK.i IntKind.u8, ZK.i IntKind.u8, ZK.i IntKind.u8, ZK.i IntKind.u8, ZK.i IntKind.u8, ZK.i IntKind.u8, ZK.i IntKind.u8, ZK.i IntKind.u8, ZK.i IntKind.u8, ZK.i IntKind.u8, ZK.i IntKind.u8, ZK.i IntKind.u8, ZK.i IntKind.u8, ZK.i IntKind.u8, ZK.i IntKind.u8, ZK.i IntKind.u8, ZK.i IntKind.u8, ZK.i IntKind.u8, ZK.i IntKind.u8, ZK.i IntKind.u8, ZK.i IntKind.u8, ZK.i IntKind.u8, ZK.i IntKind.u8, ZK.i IntKind.u8, ZK.i IntKind.u8, ZK.i IntKind.u8, ZK.i IntKind.u8, ZK.i IntKind.u8, ZK.i IntKind.u8, ZK.i IntKind.u8, ZK.i IntKind.u8, ZK.i IntKind.u8, ZK.i IntKind.u8, ZK.i IntKind.u8, ZK.i IntKind.u8, ZK.i IntKind.u8, ZK.i IntKind.u8, ZK.i IntKind.u8, ZK.i IntKind.u8, ZK.i IntKind.u8, ZK.i IntKind.u8, ZK.i IntKind.u8, ZK.i IntKind.u8]) ,
 (184, Ti.mk (Kd.struct [Av.Fd.mk 0 1 Bool.false 5, Av.Fd.mk 1 1 Bool.false 5]) 2 2 [ZK.i IntKind.u8, ZK.i IntKind.u8]) ,
 (185, Ti.mk (Kd.struct [Av.Fd.mk 0 1 Bool.false 5, Av.Fd.mk 1 1 Bool.false 5]) 2 2 [ZK.i IntKind.u8, ZK.i IntKind.u8]) ,
 (186, Ti.mk (Kd.array 16 185) 32 32 [ZK.i IntKind.u8, ZK.i IntKind.u8, ZK.i IntKind.u8, ZK.i IntKind.u8, ZK.i IntKind.u8, ZK.i IntKind.u8, ZK.i IntKind.u8, ZK.i IntKind.u8, ZK.i IntKind.u8, ZK.i IntKind.u8, ZK.i IntKind.u8, ZK.i IntKind.u8, ZK.i IntKind.u8, ZK.i IntKind.u8, ZK.i IntKind.u8, ZK.i IntKind.u8, ZK.i IntKind.u8, ZK.i IntKind.u8, ZK.i IntKind.u8, ZK.i IntKind.u8, ZK.i IntKind.u8, ZK.i IntKind.u8, ZK.i IntKind.u8, ZK.i IntKind.u8, ZK.i IntKind.u8, ZK.i IntKind.u8, ZK.i IntKind.u8, ZK.i IntKind.u8, ZK.i IntKind.u8, ZK.i IntKind.u8, ZK.i IntKind.u8, ZK.i IntKind.u8]) ,
 (187, Ti.mk Kd.func 1 8 [ZK.f]) ,
 (188, Ti.mk Kd.func 1 8 [ZK.f]) ,
 (189, Ti.mk Kd.func 1 8 [ZK.f]) ,
 (190, Ti.mk Kd.func 1 8 [ZK.f]) ,
 (191, Ti.mk Kd.func 1 8 [ZK.f]) ,
 (193, Ti.mk Kd.func 1 8 [ZK.f]) ,
 (194, Ti.mk Kd.func 1 8 [ZK.f]) ,
 (196, Ti.mk Kd.func 1 8 [ZK.f]) ,
 (197, Ti.mk Kd.func 1 8 [ZK.f]) ,
 (198, Ti.mk (Kd.struct [Av.Fd.mk 0 1 Bool.false 17, Av.Fd.mk 1 1 Bool.false 17, Av.Fd.mk 2 1 Bool.false 17, Av.Fd.mk 3 1 Bool.false 9]) 4 40 [ZK.p, ZK.p, ZK.p, ZK.s]) ,
 (199, Ti.mk (Kd.struct [Av.Fd.mk 0 1 Bool.false 17, Av.Fd.mk 1 1 Bool.false 17, Av.Fd.mk 2 1 Bool.false 17, Av.Fd.mk 3 1 Bool.false 9]) 4 40 [ZK.p, ZK.p, ZK.p, ZK.s]) ,
 (200, Ti.mk (Kd.array 0 16) 0 0 []) ,
 (201, Ti.mk (Kd.struct [Av.Fd.mk 0 0 Bool.true 200]) 0 0 []) ,
 (202, Ti.mk (Kd.struct [Av.Fd.mk 0 0 Bool.true 200]) 0 0 []) ,
 (203, Ti.mk Kd.func 1 8 [ZK.f]) ,
 (204, Ti.mk (Kd.int IntKind.u8) 1 1 [ZK.i IntKind.u8]) ,
 (205, Ti.mk (Kd.int IntKind.u8) 1 1 [ZK.i IntKind.u8]) ,
 (206, Ti.mk Kd.func 1 8 [ZK.f]) ,
 (207, Ti.mk (Kd.ptr 5) 1 8 [ZK.p]) ,
 (208, Ti.mk (Kd.int IntKind.i32) 1 4 [ZK.i IntKind.i32]) ,
 (209, Ti.mk (Kd.int IntKind.i32) 1 4 [ZK.i IntKind.i32]) ,
 (210, Ti.mk (Kd.struct [Av.Fd.mk 0 1 Bool.false 12, Av.Fd.mk 1 1 Bool.false 12, Av.Fd.mk 2 1 Bool.false 128, Av.Fd.mk 3 1 Bool.false 204, Av.Fd.mk 4 1 Bool.false 5, Av.Fd.mk 5 1 Bool.false 5, Av.Fd.mk 6 1 Bool.false 205, Av.Fd.mk 7 1 Bool.false 206, Av.Fd.mk 8 1 Bool.false 207, Av.Fd.mk 9 1 Bool.false 208, Av.Fd.mk 10 1 Bool.false 209]) 11 48 [ZK.i IntKind.u64, ZK.i IntKind.u64, ZK.i IntKind.u32, ZK.i IntKind.u8, ZK.i IntKind.u8, ZK.i IntKind.u8, ZK.i IntKind.u8, ZK.f, ZK.p, ZK.i IntKind.i32, ZK.i IntKind.i32]) ,
 (211, Ti.mk (Kd.struct [Av.Fd.mk 0 1 Bool.false 12, Av.Fd.mk 1 1 Bool.false 12, Av.Fd.mk 2 1 Bool.false 128, Av.Fd.mk 3 1 Bool.false 204, Av.Fd.mk 4 1 Bool.false 5, Av.Fd.mk 5 1 Bool.false 5, Av.Fd.mk 6 1 Bool.false 205, Av.Fd.mk 7 1 Bool.false 206, Av.Fd.mk 8 1 Bool.false 207, Av.Fd.mk 9 1 Bool.false 208, Av.Fd.mk 10 1 Bool.false 209]) 11 48 [ZK.i IntKind.u64, ZK.i IntKind.u64, ZK.i IntKind.u32, ZK.i IntKind.u8, ZK.i IntKind.u8, ZK.i IntKind.u8, ZK.i IntKind.u8, ZK.f, ZK.p, ZK.i IntKind.i32, ZK.i IntKind.i32])]
theorem ttok : chk Tryd.prog tt = true := by kernel_rfl
end Go.Proofs.YtfkmicjlaedlkaaDoor
end
section
open Go.RowKit Go.Pl Go.Av
namespace Go.Proofs.YtfkmicjlaedlkaaDoor
theorem hmix : Tryd.prog.follows .mixedOrders = true := by kernel_rfl
abbrev byE (l : List UInt8) : D := .sl .ext (l.map E.byte)
theorem uniB1 (l : List UInt8) : Uni 1 (l.map E.byte) := Uni.map (f := E.byte) (fun _ => rfl) l
end Go.Proofs.YtfkmicjlaedlkaaDoor
end
section
open Go.RowKit Go.Pl
namespace Go.Proofs.YtfkmicjlaedlkaaDoor
abbrev Hd := Int × Nat × Bool
def hv (h : Hd) : Value := .agg #[.int .i64 h.1, .int .u64 (h.2.1 : Int), .bool h.2.2]
def mayB (m : Int) : Bool := decide (2 <= m /\ m <= 5 \/ m = 7)
def rightB (h : Hd) : Bool := if h.2.2 then decide (h.2.1 = 0) && mayB h.1 else decide (0 <= h.1 /\ h.1 <= 7)
def followN (n : Nat) : Nat := if n < 24 then 0 else if n < 256 then 1 else if n < 65536 then 2 else if n < 4294967296 then 4 else 8
def infoN (n : Nat) : Nat := if n < 24 then n else if n < 256 then 24 else if n < 65536 then 25 else if n < 4294967296 then 26 else 27
def sizeN (h : Hd) : Nat := if rightB h then (if h.2.2 then 1 else 1 + followN h.2.1) else 0
def beN (n k : Nat) : List UInt8 := (List.range k).map (fun i => UInt8.ofNat (n / 256 ^ (k - 1 - i)))
def firstB (m i : Nat) : UInt8 := UInt8.ofNat (32 * m + i)
def writeL (h : Hd) : List UInt8 := if h.2.2 then [firstB h.1.toNat 31] else firstB h.1.toNat (infoN h.2.1) :: beN h.2.1 (followN h.2.1)
theorem followN_le (n : Nat) : followN n <= 8 := by
 unfold followN
 repeat' split
 all_goals omega
theorem infoN_le (n : Nat) : infoN n <= 27 := by
 unfold infoN
 repeat' split
 all_goals omega
theorem or32 (M i : Nat) (hM : M <= 7) (hi : i < 32) : bits .or .u8 ((M : Int) * 32) (i : Int) = ((32 * M + i : Nat) : Int) := by
 have h := u8_or ((M : Int) * 32) (i : Int) (by omega) (by omega) (by omega) (by omega)
 rw [h, show ((M : Int) * 32).toNat = 32 * M from by omega, Int.toNat_natCast]
 rw [nat_join 5 (32 * M) i (by omega) (by omega)]
theorem beN_length (n k : Nat) : (beN n k).length = k := by simp [beN]
theorem beN_take_succ (n k i : Nat) (h : i < k) : (beN n k).take (i + 1) = (beN n k).take i ++ [UInt8.ofNat (n / 256 ^ (k - 1 - i))] := by
 rw [List.take_succ_eq_append_getElem (by rw [beN_length]; exact h)]
 simp [beN]
def beVal (l : List UInt8) : Nat := l.foldl (fun a c => 256 * a + c.toNat) 0
def readN (b : List UInt8) (p : Nat) : Hd × Nat × Nat :=
 match b.drop p with
 | [] => ((0, 0, false), 0, 8)
 | c :: r =>
  if c.toNat % 32 < 24 then (((c.toNat / 32 : Nat), c.toNat % 32, false), p + 1, 0)
  else if c.toNat % 32 = 31 /\ mayB (c.toNat / 32 : Nat) = true then (((c.toNat / 32 : Nat), 0, true), p + 1, 0)
  else if 27 < c.toNat % 32 then ((0, 0, false), 0, 3)
  else if r.length < 2 ^ (c.toNat % 32 - 24) then ((0, 0, false), 0, 8)
  else (((c.toNat / 32 : Nat), beVal (r.take (2 ^ (c.toNat % 32 - 24))), false), p + 1 + 2 ^ (c.toNat % 32 - 24), 0)
theorem beVal_snoc (l : List UInt8) (c : UInt8) : beVal (l ++ [c]) = 256 * beVal l + c.toNat := by simp [beVal]
theorem sizeN_le (h : Hd) : sizeN h <= 9 := by
 unfold sizeN
 have := followN_le h.2.1
 split
 ·split <;> omega
 ·omega
theorem firstB_toNat (m i : Nat) (hm : m <= 7) (hi : i < 32) : (firstB m i).toNat = 32 * m + i := u8_ofNat (by omega)
theorem beVal_beN (n k : Nat) (h : n < 256 ^ k) : beVal (beN n k) = n := by
 have key : ∀ i, i <= k -> beVal ((beN n k).take i) = n / 256 ^ (k - i) := by
  intro i
  induction i with
  | zero => intro _; simp [beVal]; exact (Nat.div_eq_of_lt h).symm
  | succ i ih =>
   intro hi
   rw [beN_take_succ n k i (by omega), beVal_snoc, ih (by omega), UInt8.toNat_ofNat']
   have e : 256 ^ (k - i) = 256 ^ (k - 1 - i) * 256 := by rw [<- Nat.pow_succ]; congr 1; omega
   rw [e, <- Nat.div_div_eq_div_mul, show k - (i + 1) = k - 1 - i from by omega]
   omega
 have := key k (Nat.le_refl _)
 rwa [List.take_of_length_le (by rw [beN_length]; exact Nat.le_refl _), Nat.sub_self, Nat.pow_zero, Nat.div_one] at this
theorem follow_cases (n : Nat) (hn : n < 18446744073709551616) : (n < 24 /\ followN n = 0 /\ infoN n = n) \/ (24 <= n /\ followN n = 2 ^ (infoN n - 24) /\ 24 <= infoN n /\ infoN n <= 27 /\ n < 256 ^ followN n) := by
 unfold followN infoN
 by_cases h1 : n < 24
 ·simp [h1]
 right
 refine ⟨by omega, ?_⟩
 by_cases h2 : n < 256
 ·simp [h1, h2]
 by_cases h3 : n < 65536
 ·simp [h1, h2, h3]
 by_cases h4 : n < 4294967296
 ·simp [h1, h2, h3, h4]
 ·simp [h1, h2, h3, h4]; omega
theorem writeL_length (h : Hd) (hr : rightB h = true) : (writeL h).length = sizeN h := by
 unfold writeL sizeN
 rw [if_pos hr]
 split
 ·rfl
 ·simp [beN_length]; omega
theorem right_major {h : Hd} (hr : rightB h = true) : 0 <= h.1 /\ h.1 <= 7 := by
 obtain ⟨m, n, o⟩ := h
 cases o <;> simp [rightB, mayB] at hr <;> dsimp only <;> omega
theorem mayB_of_open {m : Int} {n : Nat} (hr : rightB (m, n, true) = true) : n = 0 /\ mayB m = true := by
 simpa [rightB] using hr
theorem read_write (h : Hd) (hr : rightB h = true) (hn : h.2.1 < 18446744073709551616) (a c : List UInt8) : readN (a ++ writeL h ++ c) a.length = (h, a.length + (writeL h).length, 0) := by
 obtain ⟨m, n, o⟩ := h
 obtain ⟨hm0, hm7⟩ := right_major hr
 dsimp only at hn hm0 hm7
 obtain ⟨M, rfl⟩ : ∃ M : Nat, m = (M : Int) := ⟨m.toNat, by omega⟩
 have hM : M <= 7 := by omega
 unfold readN
 rw [List.append_assoc, List.drop_left]
 cases o with
 | true =>
  obtain ⟨rfl, hmay⟩ := mayB_of_open hr
  simp only [writeL, if_true, Int.toNat_natCast, List.cons_append, List.nil_append]
  rw [firstB_toNat M 31 hM (by decide)]
  rw [if_neg (by omega), show (32 * M + 31) / 32 = M from by omega, if_pos ⟨by omega, hmay⟩]
  rfl
 | false =>
  have hw : writeL ((M : Int), n, false) = firstB M (infoN n) :: beN n (followN n) := by simp [writeL]
  rw [hw]
  simp only [List.cons_append]
  rcases follow_cases n hn with ⟨h1, h2, h3⟩ | ⟨h1, h2, h3, h4, h5⟩
  ·rw [firstB_toNat M (infoN n) hM (by omega), h3, h2]
   rw [if_pos (by omega), show (32 * M + n) / 32 = M from by omega, show (32 * M + n) % 32 = n from by omega]
   simp [beN]
  ·rw [firstB_toNat M (infoN n) hM (by omega)]
   have e1 : (32 * M + infoN n) / 32 = M := by omega
   have e2 : (32 * M + infoN n) % 32 = infoN n := by omega
   rw [e1, e2, if_neg (by omega), if_neg (by omega), if_neg (by omega), <- h2]
   rw [if_neg (by rw [List.length_append, beN_length]; omega)]
   rw [List.take_append_of_le_length (by rw [beN_length]; exact Nat.le_refl _), List.take_of_length_le (by rw [beN_length]; exact Nat.le_refl _), beVal_beN n _ h5]
   rw [List.length_cons, beN_length]
   congr 2
   omega
end Go.Proofs.YtfkmicjlaedlkaaDoor
end
section
open Go.RowKit Go.Pl
namespace Go.Proofs.YtfkmicjlaedlkaaDoor
def inB (c lo hi : Nat) : Bool := decide (lo <= c) && decide (c <= hi)
def ptN (c : Nat) : Nat := if c < 128 then 1 else if inB c 194 223 then 2 else if inB c 224 239 then 3 else if inB c 240 244 then 4 else 0
def ptLo (c : Nat) : Nat := if c = 224 then 160 else if c = 240 then 144 else 128
def ptHi (c : Nat) : Nat := if c = 237 then 159 else if c = 244 then 143 else 191
def pt : List UInt8 -> Nat
 | [] => 0
 | c :: r => match ptN c.toNat with
  | 1 => 1
  | 2 => (match r with | c1 :: _ => if inB c1.toNat (ptLo c.toNat) (ptHi c.toNat) then 2 else 0 | _ => 0)
  | 3 => (match r with | c1 :: c2 :: _ => if inB c1.toNat (ptLo c.toNat) (ptHi c.toNat) && inB c2.toNat 128 191 then 3 else 0 | _ => 0)
  | 4 => (match r with | c1 :: c2 :: c3 :: _ => if inB c1.toNat (ptLo c.toNat) (ptHi c.toNat) && (inB c2.toNat 128 191 && inB c3.toNat 128 191) then 4 else 0 | _ => 0)
  | _ => 0
def validF : Nat -> List UInt8 -> Bool
 | _, [] => true
 | 0, _ => false
 | f + 1, c :: r => match pt (c :: r) with
  | 0 => false
  | k + 1 => validF f (r.drop k)
def validU (b : List UInt8) : Bool := validF b.length b
theorem validF_more : ∀ (f g : Nat) (b : List UInt8), b.length <= f -> b.length <= g -> validF f b = validF g b
 | _, _, [], _, _ => by simp [validF]
 | 0, _, c :: r, h, _ => by simp at h
 | _ + 1, 0, c :: r, _, h => by simp at h
 | f + 1, g + 1, c :: r, h1, h2 => by
  simp only [validF]
  split
  ·rfl
  ·rename_i k _
   simp at h1 h2
   exact validF_more f g _ (by simp; omega) (by simp; omega)
theorem validU_cons (c : UInt8) (r : List UInt8) : validU (c :: r) = match pt (c :: r) with | 0 => false | k + 1 => validU (r.drop k) := by
 show validF (r.length + 1) (c :: r) = _
 rw [validF]
 split
 ·rfl
 ·exact validF_more _ _ _ (by simp) (Nat.le_refl _)
inductive It where
 | mk (k : Int) (n : Nat) (b : List UInt8) (l : List It)
 deriving Inhabited
def It.k : It -> Int | .mk k _ _ _ => k
def It.n : It -> Nat | .mk _ n _ _ => n
def It.b : It -> List UInt8 | .mk _ _ b _ => b
def It.l : It -> List It | .mk _ _ _ l => l
mutual
def It.beq : It -> It -> Bool
 | .mk k n b l, .mk k' n' b' l' => (k == k') && ((n == n') && ((b == b') && It.beqs l l'))
def It.beqs : List It -> List It -> Bool
 | [], [] => true
 | x :: l, y :: l' => match It.beq x y with | true => It.beqs l l' | false => false
 | _, _ => false
end
mutual
theorem It.beq_iff : ∀ {x y : It}, It.beq x y = true ↔ x = y
 | .mk k n b l, .mk k' n' b' l' => by
  simp only [It.beq, Bool.and_eq_true, beq_iff_eq, It.mk.injEq]
  rw [It.beqs_iff]
theorem It.beqs_iff : ∀ {l l' : List It}, It.beqs l l' = true ↔ l = l'
 | [], [] => by simp [It.beqs]
 | [], y :: l' => by simp [It.beqs]
 | x :: l, [] => by simp [It.beqs]
 | x :: l, y :: l' => by
  simp only [It.beqs, List.cons.injEq]
  cases h : It.beq x y with
  | true => simp only [It.beq_iff.1 h, true_and]; exact It.beqs_iff
  | false => simp only [Bool.false_eq_true, false_iff, not_and]; intro e; rw [It.beq_iff.2 e] at h; cases h
end
instance : DecidableEq It := fun x y => if h : It.beq x y = true then .isTrue (It.beq_iff.1 h) else .isFalse fun e => h (It.beq_iff.2 e)
def ownI (k : Int) (n : Nat) (b : List UInt8) (l : List It) : Bool :=
 if k = 0 then b.isEmpty && l.isEmpty else if k = 2 then decide (n = 0) && l.isEmpty else if k = 3 then decide (n = 0) && (l.isEmpty && validU b) else if k = 4 then decide (n = 0) && b.isEmpty else false
mutual
def walkI : It -> Nat -> Nat -> Option Nat
 | .mk k n b l, d, m => if 6 < d then none else if m < 1 then none else match ownI k n b l with
  | false => none
  | true => walks l (d + 1) (m - 1)
def walks : List It -> Nat -> Nat -> Option Nat
 | [], _, m => some m
 | y :: l, d, m => match walkI y d m with
  | none => none
  | some r => walks l d r
end
def rightI (x : It) : Bool := (walkI x 1 256).isSome
mutual
def wfI : It -> Prop
 | .mk _ n b l => n < 18446744073709551616 /\ b.length <= 140737488351232 /\ l.length <= 2199023255488 /\ wfs l
def wfs : List It -> Prop
 | [] => True
 | x :: l => wfI x /\ wfs l
end
def It.hn : It -> Nat | .mk k n b l => if k = 2 then b.length else if k = 3 then b.length else if k = 4 then l.length else n
mutual
def putI : It -> List UInt8
 | .mk k n b l => (if rightB (k, (It.mk k n b l).hn, false) then writeL (k, (It.mk k n b l).hn, false) else []) ++ (b ++ puts l)
def puts : List It -> List UInt8
 | [] => []
 | x :: l => putI x ++ puts l
end
abbrev Res (α : Type) := Except Nat α
def rdS : List UInt8 -> Res (Hd × List UInt8)
 | [] => .error 8
 | c :: r =>
  if c.toNat % 32 < 24 then .ok (((c.toNat / 32 : Nat), c.toNat % 32, false), r)
  else if c.toNat % 32 = 31 /\ mayB (c.toNat / 32 : Nat) = true then .ok (((c.toNat / 32 : Nat), 0, true), r)
  else if 27 < c.toNat % 32 then .error 3
  else if r.length < 2 ^ (c.toNat % 32 - 24) then .error 8
  else .ok (((c.toNat / 32 : Nat), beVal (r.take (2 ^ (c.toNat % 32 - 24))), false), r.drop (2 ^ (c.toNat % 32 - 24)))
def pieceS (h : Hd) (s : List UInt8) : Res (List UInt8 × List UInt8) :=
 if h.2.1 <= s.length then (if h.1 = 3 /\ validU (s.take h.2.1) = false then .error 3 else .ok (s.take h.2.1, s.drop h.2.1)) else .error 8
def endB : List UInt8 -> Bool
 | c :: _ => c == 255
 | [] => false
def strS (m : Int) : Nat -> List UInt8 -> List UInt8 -> Res (List UInt8 × List UInt8)
 | 0, _, _ => .error 99
 | f + 1, acc, s => match endB s with
  | true => .ok (acc, s.tail)
  | false => match rdS s with
   | .error e => .error e
   | .ok (p, r) => if p.1 = m /\ p.2.2 = false then (match pieceS p r with
     | .error e => .error e
     | .ok (c, r2) => strS m f (acc ++ c) r2) else .error 3
def lstN (it : Nat -> List UInt8 -> Res (It × List UInt8 × Nat)) : Nat -> List It -> Nat -> List UInt8 -> Res (List It × List UInt8 × Nat)
 | 0, acc, m, s => .ok (acc, s, m)
 | f + 1, acc, m, s => match it m s with
  | .error e => .error e
  | .ok (x, r, m') => lstN it f (acc ++ [x]) m' r
def lstO (it : Nat -> List UInt8 -> Res (It × List UInt8 × Nat)) : Nat -> List It -> Nat -> List UInt8 -> Res (List It × List UInt8 × Nat)
 | 0, _, _, _ => .error 99
 | f + 1, acc, m, s => match endB s with
  | true => .ok (acc, s.tail, m)
  | false => match it m s with
   | .error e => .error e
   | .ok (x, r, m') => lstO it f (acc ++ [x]) m' r
def okK (k : Int) : Bool := k == 0 || (k == 2 || (k == 3 || k == 4))
def txtS (h : Hd) (r : List UInt8) : Res (List UInt8 × List UInt8) := match h.2.2 with
 | true => strS h.1 (r.length + 1) [] r
 | false => pieceS h r
def lisS (it : Nat -> List UInt8 -> Res (It × List UInt8 × Nat)) (h : Hd) (m : Nat) (r : List UInt8) : Res (List It × List UInt8 × Nat) := match h.2.2 with
 | true => lstO it (r.length + 1) [] m r
 | false => if h.2.1 <= r.length then lstN it h.2.1 [] m r else .error 8
def bodyS (it : Nat -> List UInt8 -> Res (It × List UInt8 × Nat)) (h : Hd) (m : Nat) (r : List UInt8) : Res (It × List UInt8 × Nat) :=
 if h.1 = 0 then .ok (.mk 0 h.2.1 [] [], r, m)
 else if h.1 = 4 then (match lisS it h m r with
  | .error e => .error e
  | .ok (l, r2, m2) => .ok (.mk 4 0 [] l, r2, m2))
 else match txtS h r with
  | .error e => .error e
  | .ok (c, r2) => .ok (.mk h.1 0 c [], r2, m)
def itemS : Nat -> Nat -> List UInt8 -> Res (It × List UInt8 × Nat)
 | 0, m, s => match rdS s with
  | .error e => .error e
  | .ok (h, r) => if okK h.1 = false then .error 3 else .error 9
 | d + 1, m, s => match rdS s with
  | .error e => .error e
  | .ok (h, r) => if okK h.1 = false then .error 3 else if m = 0 then .error 2 else bodyS (itemS d) h (m - 1) r
end Go.Proofs.YtfkmicjlaedlkaaDoor
end
section
open Go.RowKit Go.Pl
namespace Go.Proofs.YtfkmicjlaedlkaaDoor
theorem rdS_suffix {s r : List UInt8} {h : Hd} (e : rdS s = .ok (h, r)) : ∃ pre, s = pre ++ r /\ 0 < pre.length := by
 cases s with
 | nil => simp [rdS] at e
 | cons c t =>
  simp only [rdS] at e
  split at e
  ·injection e with e; injection e with e1 e2; subst e2; exact ⟨[c], rfl, by simp⟩
  split at e
  ·injection e with e; injection e with e1 e2; subst e2; exact ⟨[c], rfl, by simp⟩
  split at e
  ·cases e
  split at e
  ·cases e
  ·injection e with e; injection e with e1 e2; subst e2
   exact ⟨c :: t.take (2 ^ (c.toNat % 32 - 24)), by simp, by simp⟩
theorem readN_rdS (b : List UInt8) (p : Nat) (hp : p <= b.length) : readN b p = match rdS (b.drop p) with
  | .error e => ((0, 0, false), 0, e)
  | .ok (h, r) => (h, b.length - r.length, 0) := by
 unfold readN
 have hl : (b.drop p).length = b.length - p := List.length_drop ..
 cases hs : b.drop p with
 | nil => simp [rdS]
 | cons c r =>
  rw [hs] at hl
  simp at hl
  simp only [rdS]
  by_cases h1 : c.toNat % 32 < 24
  ·simp [h1]; omega
  by_cases h2 : c.toNat % 32 = 31 /\ mayB (c.toNat / 32 : Nat) = true
  ·rw [if_neg h1, if_pos h2, if_neg h1, if_pos h2]
   simp; omega
  by_cases h3 : 27 < c.toNat % 32
  ·rw [if_neg h1, if_neg h2, if_pos h3, if_neg h1, if_neg h2, if_pos h3]
  by_cases h4 : r.length < 2 ^ (c.toNat % 32 - 24)
  ·rw [if_neg h1, if_neg h2, if_neg h3, if_pos h4, if_neg h1, if_neg h2, if_neg h3, if_pos h4]
  ·rw [if_neg h1, if_neg h2, if_neg h3, if_neg h4, if_neg h1, if_neg h2, if_neg h3, if_neg h4]
   generalize 2 ^ (c.toNat % 32 - 24) = k at h4 ⊢
   simp; omega
theorem rdS_write (h : Hd) (hr : rightB h = true) (hn : h.2.1 < 18446744073709551616) (s : List UInt8) : rdS (writeL h ++ s) = .ok (h, s) := by
 have e := read_write h hr hn [] s
 simp only [List.nil_append, List.length_nil, Nat.zero_add] at e
 rw [readN_rdS _ 0 (Nat.zero_le _), List.drop_zero] at e
 cases hx : rdS (writeL h ++ s) with
 | error c => rw [hx] at e; simp at e; have := e.2.1; have := writeL_length h hr; have : 0 < sizeN h := by unfold sizeN; rw [if_pos hr]; split <;> omega
              omega
 | ok y =>
  obtain ⟨h', r⟩ := y
  rw [hx] at e
  simp only [Prod.mk.injEq, and_true] at e
  obtain ⟨e1, e2⟩ := e
  obtain ⟨pre, hp, _⟩ := rdS_suffix hx
  have hl := congrArg List.length hp
  simp at hl e2
  have : pre.length = (writeL h).length := by omega
  have := List.append_inj hp this.symm
  rw [<- this.2, e1]
theorem rdS_cut (h : Hd) (hr : rightB h = true) (hn : h.2.1 < 18446744073709551616) (c : Nat) (hc : c < (writeL h).length) : rdS ((writeL h).take c) = .error 8 := by
 cases c with
 | zero => rfl
 | succ c =>
  obtain ⟨m, n, o⟩ := h
  obtain ⟨hm0, hm7⟩ := right_major hr
  cases o with
  | true => simp [writeL] at hc
  | false =>
   have hw : writeL (m, n, false) = firstB m.toNat (infoN n) :: beN n (followN n) := rfl
   rw [hw] at hc ⊢
   simp only [List.length_cons, beN_length] at hc
   dsimp only at hm0 hm7 hn
   rw [List.take_succ_cons]
   have hi := infoN_le n
   have ht : (firstB m.toNat (infoN n)).toNat = 32 * m.toNat + infoN n := firstB_toNat _ _ (by omega) (by omega)
   rcases follow_cases n hn with ⟨_, hf, _⟩ | ⟨_, hf, h24, h27, _⟩
   ·omega
   ·simp only [rdS, ht]
    have e : (32 * m.toNat + infoN n) % 32 = infoN n := by omega
    rw [e, if_neg (by omega), if_neg (by omega), if_neg (by omega), if_pos]
    rw [List.length_take, beN_length, <- hf]
    omega
theorem ownI_k {k : Int} {n : Nat} {b : List UInt8} {l : List It} (h : ownI k n b l = true) : (k = 0 /\ b = [] /\ l = []) \/ (k = 2 /\ n = 0 /\ l = []) \/ (k = 3 /\ n = 0 /\ l = [] /\ validU b = true) \/ (k = 4 /\ n = 0 /\ b = []) := by
 unfold ownI at h
 by_cases h0 : k = 0
 ·simp [h0] at h; exact .inl ⟨h0, h⟩
 by_cases h2 : k = 2
 ·simp [h2] at h; exact .inr (.inl ⟨h2, h⟩)
 by_cases h3 : k = 3
 ·simp [h3] at h; exact .inr (.inr (.inl ⟨h3, h⟩))
 by_cases h4 : k = 4
 ·simp [h4] at h; exact .inr (.inr (.inr ⟨h4, h⟩))
 ·simp [h0, h2, h3, h4] at h
theorem putI_pos {x : It} (h : 0 <= x.k /\ x.k <= 7) : 0 < (putI x).length := by
 obtain ⟨k, n, b, l⟩ := x
 simp only [It.k] at h
 have hr : rightB (k, (It.mk k n b l).hn, false) = true := by simp [rightB]; exact h
 rw [putI, if_pos hr, List.length_append, writeL_length _ hr]
 unfold sizeN; rw [if_pos hr]; simp; omega
theorem walkI_own {k : Int} {n : Nat} {b : List UInt8} {l : List It} {d m m' : Nat} (h : walkI (.mk k n b l) d m = some m') : d <= 6 /\ 1 <= m /\ ownI k n b l = true /\ walks l (d + 1) (m - 1) = some m' := by
 rw [walkI] at h
 split at h
 ·cases h
 split at h
 ·cases h
 split at h
 ·cases h
 ·rename_i h3; exact ⟨by omega, by omega, h3, h⟩
theorem own_k07 {k : Int} {n : Nat} {b : List UInt8} {l : List It} (h : ownI k n b l = true) : 0 <= k /\ k <= 7 := by
 rcases ownI_k h with ⟨h, _⟩ | ⟨h, _⟩ | ⟨h, _⟩ | ⟨h, _⟩ <;> omega
theorem walks_cons {x : It} {l : List It} {d m m' : Nat} (h : walks (x :: l) d m = some m') : ∃ m1, walkI x d m = some m1 /\ walks l d m1 = some m' := by
 rw [walks] at h
 split at h
 ·cases h
 ·rename_i m1 h1; exact ⟨m1, h1, h⟩
theorem puts_len : ∀ {l : List It} {d m m' : Nat}, walks l d m = some m' -> l.length <= (puts l).length
 | [], _, _, _, _ => by simp
 | x :: l, d, m, m', h => by
  obtain ⟨m1, h1, h2⟩ := walks_cons h
  have := puts_len h2
  obtain ⟨k, n, b, lx⟩ := x
  have := putI_pos (x := .mk k n b lx) (own_k07 (walkI_own h1).2.2.1)
  rw [puts]; simp; omega
theorem okK_own {k : Int} {n : Nat} {b : List UInt8} {l : List It} (h : ownI k n b l = true) : okK k = true := by
 rcases ownI_k h with ⟨h, _⟩ | ⟨h, _⟩ | ⟨h, _⟩ | ⟨h, _⟩ <;> subst h <;> rfl
theorem head_put {k : Int} {n : Nat} {b : List UInt8} {l : List It} (h : ownI k n b l = true) (hw : wfI (.mk k n b l)) : rightB (k, (It.mk k n b l).hn, false) = true /\ (It.mk k n b l).hn < 18446744073709551616 := by
 refine ⟨by simp [rightB]; exact own_k07 h, ?_⟩
 obtain ⟨h1, h2, h3, _⟩ := hw
 rcases ownI_k h with ⟨h, _⟩ | ⟨h, _⟩ | ⟨h, _⟩ | ⟨h, _⟩ <;> subst h <;> simp [It.hn] <;> omega
mutual
theorem item_put : ∀ (x : It) (d m m' : Nat) (r : List UInt8), wfI x -> d <= 6 -> walkI x (7 - d) m = some m' -> itemS d m (putI x ++ r) = .ok (x, r, m')
 | .mk k n b l, d, m, m', r, hw, hd, h => by
  obtain ⟨h1, h2, h3, h4⟩ := walkI_own h
  obtain ⟨hr, hn⟩ := head_put h3 hw
  obtain ⟨d, rfl⟩ : ∃ e, d = e + 1 := ⟨d - 1, by omega⟩
  have e7 : 7 - (d + 1) + 1 = 7 - d := by omega
  rw [e7] at h4
  rw [putI, if_pos hr, List.append_assoc, itemS, rdS_write _ hr hn]
  dsimp only
  rw [okK_own h3, if_neg (by simp), if_neg (by omega)]
  obtain ⟨w1, w2, w3, w4⟩ := hw
  rcases ownI_k h3 with ⟨rfl, rfl, rfl⟩ | ⟨rfl, rfl, rfl⟩ | ⟨rfl, rfl, rfl, hv⟩ | ⟨rfl, rfl, rfl⟩
  ·simp only [walks, Option.some.injEq] at h4
   simp [bodyS, puts, It.hn, h4]
  ·simp only [walks, Option.some.injEq] at h4
   simp [bodyS, puts, It.hn, txtS, pieceS, h4]
  ·simp only [walks, Option.some.injEq] at h4
   simp [bodyS, puts, It.hn, txtS, pieceS, h4, hv]
  ·have hl := puts_len h4
   have hq := list_put l d (m - 1) m' [] r w4 (by omega) h4
   show bodyS (itemS d) (4, l.length, false) (m - 1) ([] ++ puts l ++ r) = _
   rw [bodyS, if_neg (by simp), if_pos rfl]
   simp only [lisS, List.nil_append]
   rw [if_pos (by rw [List.length_append]; omega), hq]
   rfl
theorem list_put : ∀ (l : List It) (d m m' : Nat) (acc : List It) (r : List UInt8), wfs l -> d <= 6 -> walks l (7 - d) m = some m' -> lstN (itemS d) l.length acc m (puts l ++ r) = .ok (acc ++ l, r, m')
 | [], d, m, m', acc, r, _, _, h => by
  simp only [walks, Option.some.injEq] at h
  simp [lstN, puts, h]
 | x :: l, d, m, m', acc, r, hw, hd, h => by
  obtain ⟨m1, h1, h2⟩ := walks_cons h
  rw [puts, List.append_assoc, List.length_cons, lstN, item_put x d m m1 _ hw.1 hd h1]
  dsimp only
  rw [list_put l d m1 m' (acc ++ [x]) r hw.2 hd h2]
  simp
end
mutual
theorem item_cut : ∀ (x : It) (d m m' c : Nat), wfI x -> d <= 6 -> walkI x (7 - d) m = some m' -> c < (putI x).length -> itemS d m ((putI x).take c) = .error 8
 | .mk k n b l, d, m, m', c, hw, hd, h, hc => by
  obtain ⟨h1, h2, h3, h4⟩ := walkI_own h
  obtain ⟨hr, hn⟩ := head_put h3 hw
  obtain ⟨d, rfl⟩ : ∃ e, d = e + 1 := ⟨d - 1, by omega⟩
  have e7 : 7 - (d + 1) + 1 = 7 - d := by omega
  rw [e7] at h4
  rw [putI, if_pos hr] at hc ⊢
  rw [itemS]
  rcases Nat.lt_or_ge c (writeL (k, (It.mk k n b l).hn, false)).length with hlt | hge
  ·rw [List.take_append_of_le_length (by omega), rdS_cut _ hr hn _ hlt]
  ·rw [List.take_append, List.take_of_length_le hge, rdS_write _ hr hn]
   dsimp only
   rw [okK_own h3, if_neg (by simp), if_neg (by omega)]
   obtain ⟨w1, w2, w3, w4⟩ := hw
   generalize hc' : c - (writeL (k, (It.mk k n b l).hn, false)).length = c'
   have hlt : c' < (b ++ puts l).length := by rw [List.length_append] at hc; omega
   rcases ownI_k h3 with ⟨rfl, rfl, rfl⟩ | ⟨rfl, rfl, rfl⟩ | ⟨rfl, rfl, rfl, hv⟩ | ⟨rfl, rfl, rfl⟩
   ·simp [puts] at hlt
   ·simp [puts] at hlt
    show bodyS (itemS d) (2, b.length, false) (m - 1) ((b ++ []).take c') = _
    have hx : ¬ b.length <= min c' b.length := by omega
    simp [bodyS, txtS, pieceS, List.length_take, hx]
   ·simp [puts] at hlt
    show bodyS (itemS d) (3, b.length, false) (m - 1) ((b ++ []).take c') = _
    have hx : ¬ b.length <= min c' b.length := by omega
    simp [bodyS, txtS, pieceS, List.length_take, hx]
   ·simp only [List.nil_append] at hlt
    have hq := list_cut l d (m - 1) m' c' [] w4 (by omega) h4 hlt
    show bodyS (itemS d) (4, l.length, false) (m - 1) (([] ++ puts l).take c') = _
    rw [bodyS, if_neg (by simp), if_pos rfl]
    simp only [lisS, List.nil_append]
    by_cases hx : l.length <= ((puts l).take c').length
    ·rw [if_pos hx, hq]
    ·rw [if_neg hx]
theorem list_cut : ∀ (l : List It) (d m m' c : Nat) (acc : List It), wfs l -> d <= 6 -> walks l (7 - d) m = some m' -> c < (puts l).length -> lstN (itemS d) l.length acc m ((puts l).take c) = .error 8
 | [], d, m, m', c, acc, _, _, h, hc => by simp [puts] at hc
 | x :: l, d, m, m', c, acc, hw, hd, h, hc => by
  obtain ⟨m1, h1, h2⟩ := walks_cons h
  rw [puts] at hc ⊢
  rw [List.length_cons, lstN]
  rcases Nat.lt_or_ge c (putI x).length with hlt | hge
  ·rw [List.take_append_of_le_length (by omega), item_cut x d m m1 c hw.1 hd h1 hlt]
  ·rw [List.take_append, List.take_of_length_le hge, item_put x d m m1 _ hw.1 hd h1]
   dsimp only
   exact list_cut l d m1 m' _ _ hw.2 hd h2 (by rw [List.length_append] at hc; omega)
end
mutual
theorem walkI_lt : ∀ {x : It} {d m m' : Nat}, walkI x d m = some m' -> m' + 1 <= m
 | .mk k n b l, d, m, m', h => by
  obtain ⟨_, h2, _, h4⟩ := walkI_own h
  have := walks_lt h4
  omega
theorem walks_lt : ∀ {l : List It} {d m m' : Nat}, walks l d m = some m' -> m' + l.length <= m
 | [], d, m, m', h => by simp only [walks, Option.some.injEq] at h; simp [h]
 | x :: l, d, m, m', h => by
  obtain ⟨m1, h1, h2⟩ := walks_cons h
  have := walkI_lt h1
  have := walks_lt h2
  simp; omega
end
theorem puts_app : ∀ (l l' : List It), puts (l ++ l') = puts l ++ puts l'
 | [], l' => rfl
 | x :: l, l' => by rw [List.cons_append, puts, puts, puts_app l l', List.append_assoc]
theorem writeL_le {h : Hd} (hr : rightB h = true) (ho : h.2.2 = false) : (writeL h).length = 1 + followN h.2.1 := by
 rw [writeL_length h hr]; unfold sizeN; rw [if_pos hr, ho]; rfl
end Go.Proofs.YtfkmicjlaedlkaaDoor
end
section
open Go.RowKit Go.Pl Go.Av
namespace Go.Proofs.YtfkmicjlaedlkaaDoor
set_option maxHeartbeats 4000000
theorem av_cloneB [Known] (b : List UInt8) (hb : b.length <= 140737488351232) : AP Tryd.prog 41 [byE b] (byE b) [] := by
 have hU := uniB1 b
 cases b with
 | nil =>
  refine AP.ofA ?_
  refine AC_of Tryd.func41 rfl Tryd.ntmps41 rfl rfl ?_
  repeat' (first | (apply AL_snil ttok; (iterate 5 exact rfl); intro b hbn) | (apply AL_go ttok; exact rfl) | (apply AW_go ttok; exact rfl) | (apply K_go ttok; exact rfl) | (apply AW_cond'; exact rfl; all_goals intro hb) | (apply AL_bs ttok; (iterate 12 exact rfl)) | (apply AL_append_none ttok; (iterate 6 exact rfl)))
  all_goals (apply endQ []; (apply resG_ok ttok; exact rfl); (iterate 4 exact rfl))
  all_goals rfl
 | cons c b =>
  refine AP.ofA ?_
  refine AC_of Tryd.func41 rfl Tryd.ntmps41 rfl rfl ?_
  repeat' (first | (apply AL_snil ttok; (iterate 5 exact rfl); intro b hbn; (have hbn2 := hbn (List.cons_ne_nil _ _)); subst hbn2; clear hbn) | (apply AL_go ttok; exact rfl) | (apply AW_go ttok; exact rfl) | (apply K_go ttok; exact rfl) | (apply AW_condB; exact rfl; (first | with_reducible assumption | (solve | simp only [bn]))) | (apply AL_bs ttok; (iterate 12 exact rfl)) | (apply AL_append ttok; (iterate 6 exact rfl); (first | with_reducible assumption | exact rfl | rotate_left); exact rfl; exact rfl; (first | exact uniB_ok rfl | with_reducible assumption | rotate_left); (first | exact uniB_ok rfl | with_reducible assumption | rotate_left); (first | exact List.cons_ne_nil _ _ | with_reducible assumption | rotate_left); (first | with_reducible assumption | rotate_left); (first | with_reducible assumption | rotate_left); exact rfl; exact rfl))
  all_goals first | (apply endQ []; (apply resG_ok ttok; exact rfl); (iterate 4 exact rfl)) | skip
  all_goals first | rfl | (simp at hb ⊢; (try unfold maxLen); omega)
theorem av_bEq [Known] (a b : List UInt8) : AP Tryd.prog 51 [byE a, byE b] (.bool (a == b)) [] := by
 refine AP.ofA ?_
 refine AC_of Tryd.func51 rfl Tryd.ntmps51 rfl rfl ?_
 repeat' (first | (apply AL_go ttok; exact rfl) | (apply AW_go ttok; exact rfl) | (apply AL_b2s ttok; (iterate 9 exact rfl)))
 all_goals (apply endQ []; (apply resG_ok ttok; exact rfl); (iterate 4 exact rfl))
 all_goals rfl
end Go.Proofs.YtfkmicjlaedlkaaDoor
end
