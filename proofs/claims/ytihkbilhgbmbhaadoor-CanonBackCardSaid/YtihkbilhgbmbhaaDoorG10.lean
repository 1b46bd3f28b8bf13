/- The types of this seat's program, laid open: which kind each is of, its size, its zero. -/
import Derived.Test.YtihkbilhgbmbhaaDoorG03
import Derived.Test.YtihkbilhgbmbhaaDoorProg
import Derived.Test.YtihkbilhgbmbhaaDoorG07
import Derived.Test.YtihkbilhgbmbhaaDoorG01
set_option linter.unusedVariables false
set_option linter.unusedSimpArgs false
section
open Go.RowKit Go.Pl Go.Av
namespace Go.Proofs.YtihkbilhgbmbhaaDoor
def tt : Tab := [(1, Ti.mk Kd.func 1 8 [ZK.f]) ,
 (2, Ti.mk (Kd.int IntKind.i64) 1 8 [ZK.i IntKind.i64]) ,
 (3, Ti.mk (Kd.int IntKind.i64) 1 8 [ZK.i IntKind.i64]) ,
 (4, Ti.mk Kd.bool 1 1 [ZK.b]) ,
 (5, Ti.mk (Kd.int IntKind.u8) 1 1 [ZK.i IntKind.u8]) ,
 (6, Ti.mk (Kd.int IntKind.u8) 1 1 [ZK.i IntKind.u8]) ,
 (7, Ti.mk (Kd.struct [Av.Fd.mk 0 1 Bool.false 2, Av.Fd.mk 1 1 Bool.false 3, Av.Fd.mk 2 1 Bool.false 4, Av.Fd.mk 3 1 Bool.false 6]) 4 24 [ZK.i IntKind.i64, ZK.i IntKind.i64, ZK.b, ZK.i IntKind.u8]) ,
 (8, Ti.mk (Kd.struct [Av.Fd.mk 0 1 Bool.false 2, Av.Fd.mk 1 1 Bool.false 3, Av.Fd.mk 2 1 Bool.false 4, Av.Fd.mk 3 1 Bool.false 6]) 4 24 [ZK.i IntKind.i64, ZK.i IntKind.i64, ZK.b, ZK.i IntKind.u8]) ,
 (9, Ti.mk Kd.str 1 16 [ZK.s]) ,
 (10, Ti.mk Kd.str 1 16 [ZK.s]) ,
 (11, Ti.mk Kd.str 1 16 [ZK.s]) ,
 (12, Ti.mk (Kd.int IntKind.u64) 1 8 [ZK.i IntKind.u64]) ,
 (13, Ti.mk (Kd.struct [Av.Fd.mk 0 1 Bool.false 9, Av.Fd.mk 1 1 Bool.false 12]) 2 24 [ZK.s, ZK.i IntKind.u64]) ,
 (14, Ti.mk (Kd.struct [Av.Fd.mk 0 1 Bool.false 9, Av.Fd.mk 1 1 Bool.false 12]) 2 24 [ZK.s, ZK.i IntKind.u64]) ,
 (15, Ti.mk (Kd.ptr 188) 1 8 [ZK.p]) ,
 (16, Ti.mk (Kd.ptr 191) 1 8 [ZK.p]) ,
 (17, Ti.mk (Kd.ptr 200) 1 8 [ZK.p]) ,
 (18, Ti.mk (Kd.struct [Av.Fd.mk 0 1 Bool.false 17]) 1 8 [ZK.p]) ,
 (19, Ti.mk (Kd.struct [Av.Fd.mk 0 1 Bool.false 17]) 1 8 [ZK.p]) ,
 (20, Ti.mk Kd.iface 1 16 [ZK.n]) ,
 (21, Ti.mk (Kd.int IntKind.i32) 1 4 [ZK.i IntKind.i32]) ,
 (22, Ti.mk (Kd.int IntKind.u64) 1 8 [ZK.i IntKind.u64]) ,
 (23, Ti.mk (Kd.slice 5) 1 24 [ZK.l]) ,
 (24, Ti.mk Kd.func 1 8 [ZK.f]) ,
 (25, Ti.mk (Kd.slice 27) 1 24 [ZK.l]) ,
 (26, Ti.mk (Kd.struct [Av.Fd.mk 0 1 Bool.false 3, Av.Fd.mk 1 1 Bool.false 22, Av.Fd.mk 2 1 Bool.false 23, Av.Fd.mk 3 1 Bool.false 25]) 4 64 [ZK.i IntKind.i64, ZK.i IntKind.u64, ZK.l, ZK.l]) ,
 (27, Ti.mk (Kd.struct [Av.Fd.mk 0 1 Bool.false 3, Av.Fd.mk 1 1 Bool.false 22, Av.Fd.mk 2 1 Bool.false 23, Av.Fd.mk 3 1 Bool.false 25]) 4 64 [ZK.i IntKind.i64, ZK.i IntKind.u64, ZK.l, ZK.l]) ,
 (28, Ti.mk Kd.func 1 8 [ZK.f]) ,
 (29, Ti.mk Kd.func 1 8 [ZK.f]) ,
 (30, Ti.mk Kd.func 1 8 [ZK.f]) ,
 (31, Ti.mk Kd.func 1 8 [ZK.f]) ,
 (32, Ti.mk Kd.func 1 8 [ZK.f]) ,
 (33, Ti.mk Kd.func 1 8 [ZK.f]) ,
 (34, Ti.mk (Kd.int IntKind.i64) 1 8 [ZK.i IntKind.i64]) ,
 (36, Ti.mk Kd.func 1 8 [ZK.f]) ,
 (37, Ti.mk (Kd.slice 39) 1 24 [ZK.l]) ,
 (38, Ti.mk (Kd.struct [Av.Fd.mk 0 1 Bool.false 3, Av.Fd.mk 1 1 Bool.false 22, Av.Fd.mk 2 1 Bool.false 23, Av.Fd.mk 3 1 Bool.false 37]) 4 64 [ZK.i IntKind.i64, ZK.i IntKind.u64, ZK.l, ZK.l]) ,
 (39, Ti.mk (Kd.struct [Av.Fd.mk 0 1 Bool.false 3, Av.Fd.mk 1 1 Bool.false 22, Av.Fd.mk 2 1 Bool.false 23, Av.Fd.mk 3 1 Bool.false 37]) 4 64 [ZK.i IntKind.i64, ZK.i IntKind.u64, ZK.l, ZK.l]) ,
 (41, Ti.mk Kd.func 1 8 [ZK.f]) ,
 (42, Ti.mk Kd.func 1 8 [ZK.f]) ,
 (44, Ti.mk Kd.func 1 8 [ZK.f]) ,
 (46, Ti.mk Kd.func 1 8 [ZK.f]) ,
 (47, Ti.mk Kd.func 1 8 [ZK.f]) ,
 (48, Ti.mk Kd.func 1 8 [ZK.f]) ,
 (49, Ti.mk Kd.func 1 8 [ZK.f]) ,
 (50, Ti.mk (Kd.struct [Av.Fd.mk 0 1 Bool.false 4, Av.Fd.mk 1 1 Bool.false 22, Av.Fd.mk 2 1 Bool.false 22, Av.Fd.mk 3 1 Bool.false 9, Av.Fd.mk 4 1 Bool.false 9]) 5 56 [ZK.b, ZK.i IntKind.u64, ZK.i IntKind.u64, ZK.s, ZK.s]) ,
 (51, Ti.mk (Kd.struct [Av.Fd.mk 0 1 Bool.false 4, Av.Fd.mk 1 1 Bool.false 22, Av.Fd.mk 2 1 Bool.false 22, Av.Fd.mk 3 1 Bool.false 9, Av.Fd.mk 4 1 Bool.false 9]) 5 56 [ZK.b, ZK.i IntKind.u64, ZK.i IntKind.u64, ZK.s, ZK.s]) ,
 (52, Ti.mk (Kd.struct [Av.Fd.mk 0 5 Bool.true 51, Av.Fd.mk 5 1 Bool.false 22, Av.Fd.mk 6 1 Bool.false 22]) 7 72 [ZK.b, ZK.i IntKind.u64, ZK.i IntKind.u64, ZK.s, ZK.s, ZK.i IntKind.u64, ZK.i IntKind.u64]) ,
 (53, Ti.mk (Kd.struct [Av.Fd.mk 0 5 Bool.true 51, Av.Fd.mk 5 1 Bool.false 22, Av.Fd.mk 6 1 Bool.false 22]) 7 72 [ZK.b, ZK.i IntKind.u64, ZK.i IntKind.u64, ZK.s, ZK.s, ZK.i IntKind.u64, ZK.i IntKind.u64]) ,
 (54, Ti.mk (Kd.struct [Av.Fd.mk 0 1 Bool.false 22, Av.Fd.mk 1 1 Bool.false 3, Av.Fd.mk 2 5 Bool.true 51, Av.Fd.mk 7 5 Bool.true 51, Av.Fd.mk 12 7 Bool.true 53, Av.Fd.mk 19 1 Bool.false 22]) 20 208 [ZK.i IntKind.u64, ZK.i IntKind.i64, ZK.b, ZK.i IntKind.u64, ZK.i IntKind.u64, ZK.s, ZK.s, ZK.b, ZK.i IntKind.u64, ZK.i IntKind.u64, ZK.s, ZK.s, ZK.b, ZK.i IntKind.u64, ZK.i IntKind.u64, ZK.s, ZK.s, ZK.i IntKind.u64, ZK.i IntKind.u64, ZK.i IntKind.u64]) ,
 (55, Ti.mk (Kd.struct [Av.Fd.mk 0 1 Bool.false 22, Av.Fd.mk 1 1 Bool.false 3, Av.Fd.mk 2 5 Bool.true 51, Av.Fd.mk 7 5 Bool.true 51, Av.Fd.mk 12 7 Bool.true 53, Av.Fd.mk 19 1 Bool.false 22]) 20 208 [ZK.i IntKind.u64, ZK.i IntKind.i64, ZK.b, ZK.i IntKind.u64, ZK.i IntKind.u64, ZK.s, ZK.s, ZK.b, ZK.i IntKind.u64, ZK.i IntKind.u64, ZK.s, ZK.s, ZK.b, ZK.i IntKind.u64, ZK.i IntKind.u64, ZK.s, ZK.s, ZK.i IntKind.u64, ZK.i IntKind.u64, ZK.i IntKind.u64]) ,
 (56, Ti.mk Kd.func 1 8 [ZK.f]) ,
 (57, Ti.mk Kd.func 1 8 [ZK.f]) ,
 (59, Ti.mk Kd.func 1 8 [ZK.f]) ,
 (60, Ti.mk Kd.func 1 8 [ZK.f]) ,
 (61, Ti.mk Kd.func 1 8 [ZK.f]) ,
 (62, Ti.mk (Kd.int IntKind.u16) 1 2 [ZK.i IntKind.u16]) ,
 (63, Ti.mk Kd.func 1 8 [ZK.f]) ,
 (64, Ti.mk Kd.func 1 8 [ZK.f]) ,
 (65, Ti.mk (Kd.struct [Av.Fd.mk 0 1 Bool.false 22, Av.Fd.mk 1 1 Bool.false 22, Av.Fd.mk 2 1 Bool.false 22, Av.Fd.mk 3 1 Bool.false 3, Av.Fd.mk 4 1 Bool.false 23]) 5 56 [ZK.i IntKind.u64, ZK.i IntKind.u64, ZK.i IntKind.u64, ZK.i IntKind.i64, ZK.l]) ,
 (66, Ti.mk (Kd.struct [Av.Fd.mk 0 1 Bool.false 22, Av.Fd.mk 1 1 Bool.false 22, Av.Fd.mk 2 1 Bool.false 22, Av.Fd.mk 3 1 Bool.false 3, Av.Fd.mk 4 1 Bool.false 23]) 5 56 [ZK.i IntKind.u64, ZK.i IntKind.u64, ZK.i IntKind.u64, ZK.i IntKind.i64, ZK.l]) ,
 (67, Ti.mk Kd.func 1 8 [ZK.f]) ,
 (68, Ti.mk Kd.func 1 8 [ZK.f]) ,
 (69, Ti.mk Kd.func 1 8 [ZK.f]) ,
 (71, Ti.mk Kd.func 1 8 [ZK.f]) ,
 (72, Ti.mk Kd.func 1 8 [ZK.f]) ,
 (73, Ti.mk Kd.func 1 8 [ZK.f]) ,
 (75, Ti.mk Kd.func 1 8 [ZK.f]) ,
 (76, Ti.mk Kd.func 1 8 [ZK.f]) ,
 (78, Ti.mk Kd.func 1 8 [ZK.f]) ,
 (79, Ti.mk Kd.func 1 8 [ZK.f]) ,
 (81, Ti.mk Kd.func 1 8 [ZK.f]) ,
 (82, Ti.mk Kd.func 1 8 [ZK.f]) ,
 (84, Ti.mk Kd.func 1 8 [ZK.f]) ,
 (86, Ti.mk Kd.func 1 8 [ZK.f]) ,
 (87, Ti.mk Kd.func 1 8 [ZK.f]) ,
 (88, Ti.mk Kd.func 1 8 [ZK.f]) ,
 (89, Ti.mk Kd.func 1 8 [ZK.f]) ,
 (90, Ti.mk Kd.func 1 8 [ZK.f]) ,
 (91, Ti.mk Kd.func 1 8 [ZK.f]) ,
 (92, Ti.mk Kd.func 1 8 [ZK.f]) ,
 (93, Ti.mk Kd.func 1 8 [ZK.f]) ,
 (94, Ti.mk Kd.func 1 8 [ZK.f]) ,
 (96, Ti.mk Kd.func 1 8 [ZK.f]) ,
 (97, Ti.mk Kd.func 1 8 [ZK.f]) ,
 (98, Ti.mk Kd.func 1 8 [ZK.f]) ,
 (99, Ti.mk Kd.func 1 8 [ZK.f]) ,
 (100, Ti.mk Kd.func 1 8 [ZK.f]) ,
 (101, Ti.mk Kd.func 1 8 [ZK.f]) ,
 (102, Ti.mk Kd.func 1 8 [ZK.f]) ,
 (103, Ti.mk Kd.func 1 8 [ZK.f]) ,
 (105, Ti.mk Kd.func 1 8 [ZK.f]) ,
 (106, Ti.mk Kd.func 1 8 [ZK.f]) ,
 (107, Ti.mk Kd.func 1 8 [ZK.f]) ,
 (108, Ti.mk Kd.func 1 8 [ZK.f]) ,
 (109, Ti.mk Kd.func 1 8 [ZK.f]) ,
 (110, Ti.mk Kd.func 1 8 [ZK.f]) ,
 (111, Ti.mk Kd.func 1 8 [ZK.f]) ,
 (112, Ti.mk Kd.func 1 8 [ZK.f]) ,
 (114, Ti.mk Kd.func 1 8 [ZK.f]) ,
 (116, Ti.mk Kd.func 1 8 [ZK.f]) ,
 (118, Ti.mk Kd.func 1 8 [ZK.f]) ,
 (119, Ti.mk Kd.func 1 8 [ZK.f]) ,
 (120, Ti.mk (Kd.struct [Av.Fd.mk 0 1 Bool.false 34]) 1 8 [ZK.i IntKind.i64]) ,
 (121, Ti.mk (Kd.struct [Av.Fd.mk 0 1 Bool.false 34]) 1 8 [ZK.i IntKind.i64]) ,
 (123, Ti.mk (Kd.ptr 125) 1 8 [ZK.p]) ,
 (124, Ti.mk (Kd.struct [Av.Fd.mk 0 1 Bool.false 23, Av.Fd.mk 1 1 Bool.false 3, Av.Fd.mk 2 1 Bool.false 3]) 3 40 [ZK.l, ZK.i IntKind.i64, ZK.i IntKind.i64]) ,
 (125, Ti.mk (Kd.struct [Av.Fd.mk 0 1 Bool.false 23, Av.Fd.mk 1 1 Bool.false 3, Av.Fd.mk 2 1 Bool.false 3]) 3 40 [ZK.l, ZK.i IntKind.i64, ZK.i IntKind.i64]) ,
 (126, Ti.mk Kd.func 1 8 [ZK.f]) ,
 (127, Ti.mk Kd.func 1 8 [ZK.f]) ,
 (128, Ti.mk Kd.func 1 8 [ZK.f]) ,
 (129, Ti.mk Kd.func 1 8 [ZK.f]) ,
 (130, Ti.mk (Kd.int IntKind.u64) 1 8 [ZK.i IntKind.u64]) ,
 (131, Ti.mk (Kd.int IntKind.u32) 1 4 [ZK.i IntKind.u32]) ,
 (132, Ti.mk Kd.func 1 8 [ZK.f]) ,
 (133, Ti.mk Kd.func 1 8 [ZK.f]) ,
 (134, Ti.mk Kd.func 1 8 [ZK.f]) ,
 (135, Ti.mk Kd.func 1 8 [ZK.f]) ,
 (136, Ti.mk Kd.func 1 8 [ZK.f]) ,
 (137, Ti.mk Kd.func 1 8 [ZK.f]) ,
 (138, Ti.mk Kd.func 1 8 [ZK.f]) ,
 (139, Ti.mk (Kd.slice 22) 1 24 [ZK.l]) ,
 (141, Ti.mk Kd.func 1 8 [ZK.f]) ,
 (142, Ti.mk Kd.func 1 8 [ZK.f]) ,
 (143, Ti.mk Kd.func 1 8 [ZK.f]) ,
 (144, Ti.mk Kd.func 1 8 [ZK.f]) ,
 (146, Ti.mk Kd.func 1 8 [ZK.f]) ,
 (147, Ti.mk Kd.func 1 8 [ZK.f]) ,
 (148, Ti.mk (Kd.struct [Av.Fd.mk 0 1 Bool.false 3, Av.Fd.mk 1 1 Bool.false 22, Av.Fd.mk 2 1 Bool.false 4]) 3 24 [ZK.i IntKind.i64, ZK.i IntKind.u64, ZK.b]) ,
 (149, Ti.mk (Kd.struct [Av.Fd.mk 0 1 Bool.false 3, Av.Fd.mk 1 1 Bool.false 22, Av.Fd.mk 2 1 Bool.false 4]) 3 24 [ZK.i IntKind.i64, ZK.i IntKind.u64, ZK.b]) ,
 (150, Ti.mk Kd.func 1 8 [ZK.f]) ,
 (151, Ti.mk Kd.func 1 8 [ZK.f]) ,
 (152, Ti.mk Kd.func 1 8 [ZK.f]) ,
 (153, Ti.mk Kd.func 1 8 [ZK.f]) ,
 (154, Ti.mk Kd.func 1 8 [ZK.f]) ,
 (155, Ti.mk (Kd.struct [Av.Fd.mk 0 1 Bool.false 3, Av.Fd.mk 1 1 Bool.false 22, Av.Fd.mk 2 1 Bool.false 4]) 3 24 [ZK.i IntKind.i64, ZK.i IntKind.u64, ZK.b]) ,
 (156, Ti.mk Kd.func 1 8 [ZK.f]) ,
 (157, Ti.mk Kd.func 1 8 [ZK.f]) ,
 (159, Ti.mk Kd.func 1 8 [ZK.f]) ,
 (161, Ti.mk Kd.func 1 8 [ZK.f]) ,
 (162, Ti.mk Kd.func 1 8 [ZK.f]) ,
 (163, Ti.mk Kd.func 1 8 [ZK.f]) ,
 (164, Ti.mk Kd.func 1 8 [ZK.f]) ,
 (165, Ti.mk Kd.func 1 8 [ZK.f]) ,
 (167, Ti.mk Kd.func 1 8 [ZK.f]) ,
 (168, Ti.mk Kd.func 1 8 [ZK.f]) ,
 (169, Ti.mk Kd.func 1 8 [ZK.f]) ,
 (170, Ti.mk Kd.func 1 8 [ZK.f]) ,
 (171, Ti.mk Kd.func 1 8 [ZK.f]) ,
 (172, Ti.mk Kd.func 1 8 [ZK.f]) ,
 (173, Ti.mk Kd.func 1 8 [ZK.f]) ,
 (174, Ti.mk Kd.func 1 8 [ZK.f]) ,
 (175, Ti.mk (Kd.array 256 5) 256 256 [ZK.i IntKind.u8, ZK.i IntKind.u8, ZK.i IntKind.u8, ZK.i IntKind.u8, ZK.i IntKind.u8, ZK.i IntKind.u8, ZK.i IntKind.u8, ZK.i IntKind.u8, ZK.i IntKind.u8, ZK.i IntKind.u8, ZK.i IntKind.u8, ZK.i IntKind.u8, ZK.i IntKind.u8, ZK.i IntKind.u8, ZK.i IntKind.u8, ZK.i IntKind.u8, ZK.i IntKind.u8, ZK.i IntKind.u8, ZK.i IntKind.u8, ZK.i IntKind.u8, ZK.i IntKind.u8, ZK.i IntKind.u8, ZK.i IntKind.u8, ZK.i IntKind.u8, ZK.i IntKind.u8, ZK.i IntKind.u8, ZK.i IntKind.u8, ZK.i IntKind.u8, ZK.i IntKind.u8, ZK.i IntKind.u8, ZK.i IntKind.u8, ZK.i IntKind.u8, ZK.i IntKind.u8, ZK.i IntKind.u8, ZK.i IntKind.u8, ZK.i IntKind.u8, ZK.i IntKind.u8, ZK.i IntKind.u8, ZK.i IntKind.u8, ZK.i IntKind.u8, ZK.i IntKind.u8, ZK.i IntKind.u8, ZK.i IntKind.u8, ZK.i IntKind.u8, ZK.i IntKind.u8, ZK.i IntKind.u8, ZK.i IntKind.u8, ZK.i IntKind.u8, ZK.i IntKind.u8, ZK.i IntKind.u8, ZK.i IntKind.u8, ZK.i IntKind.u8, ZK.i IntKind.u8, ZK.i IntKind.u8, ZK.i IntKind.u8, ZK.i IntKind.u8, ZK.i IntKind.u8, ZK.i IntKind.u8, ZK.i IntKind.u8, ZK.i IntKind.u8, ZK.i IntKind.u8, ZK.i IntKind.u8, ZK.i IntKind.u8, ZK.i IntKind.u8, ZK.i IntKind.u8, ZK.i IntKind.u8, ZK.i IntKind.u8, ZK.i IntKind.u8, ZK.i IntKind.u8, ZK.i IntKind.u8, ZK.i IntKind.u8, ZK.i IntKind.u8, ZK.i IntKind.u8, ZK.i IntKind.u8, ZK.i IntKind.u8, ZK.i IntKind.u8, ZK.i IntKind.u8, ZK.i IntKind.u8, ZK.i IntKind.u8, ZK.i IntKind.u8, ZK.i IntKind.u8, ZK.i IntKind.u8, ZK.i IntKind.u8, ZK.i IntKind.u8, ZK.i IntKind.u8, ZK.i IntKind.u8, ZK.i IntKind.u8, ZK.i IntKind.u8, ZK.i IntKind.u8, ZK.i IntKind.u8, ZK.i IntKind.u8, ZK.i IntKind.u8, ZK.i IntKind.u8, ZK.i IntKind.u8, ZK.i IntKind.u8, ZK.i IntKind.u8, ZK.i IntKind.u8, ZK.i IntKind.u8, ZK.i IntKind.u8, ZK.i IntKind.u8, ZK.i IntKind.u8, ZK.i IntKind.u8, ZK.i IntKind.u8, ZK.i IntKind.u8, ZK.i IntKind.u8, ZK.i IntKind.u8, ZK.i IntKind.u8, ZK.i IntKind.u8, ZK.i IntKind.u8, ZK.i IntKind.u8, ZK.i IntKind.u8, ZK.i IntKind.u8, ZK.i IntKind.u8, ZK.i IntKind.u8, ZK.i IntKind.u8, ZK.i IntKind.u8, ZK.i IntKind.u8, ZK.i IntKind.u8, ZK.i IntKind.u8, ZK.i IntKind.u8, ZK.i IntKind.u8, ZK.i IntKind.u8, ZK.i IntKind.u8, ZK.i IntKind.u8, ZK.i IntKind.u8, ZK.i IntKind.u8, ZK.i IntKind.u8, ZK.i IntKind.u8, ZK.i IntKind.u8, ZK.i IntKind.u8, ZK.i IntKind.u8, ZK.i IntKind.u8, ZK.i IntKind.u8, ZK.i IntKind.u8, ZK.i IntKind.u8, ZK.i IntKind.u8, ZK.i IntKind.u8, ZK.i IntKind.u8, ZK.i IntKind.u8, ZK.i IntKind.u8, ZK.i IntKind.u8, ZK.i IntKind.u8, ZK.i IntKind.u8, ZK.i IntKind.u8, ZK.i IntKind.u8, ZK.i IntKind.u8, ZK.i IntKind.u8, ZK.i IntKind.u8, ZK.i IntKind.u8, ZK.i IntKind.u8, ZK.i IntKind.u8, ZK.i IntKind.u8, ZK.i IntKind.u8, ZK.i IntKind.u8, ZK.i IntKind.u8, ZK.i IntKind.u8, ZK.i IntKind.u8, ZK.i IntKind.u8, ZK.i IntKind.u8, ZK.i IntKind.u8, ZK.i IntKind.u8, ZK.i IntKind.u8, ZK.i IntKind.u8, ZK.i IntKind.u8, ZK.i IntKind.u8, ZK.i IntKind.u8, ZK.i IntKind.u8, ZK.i IntKind.u8, ZK.i IntKind.u8, ZK.i IntKind.u8, ZK.i IntKind.u8, ZK.i IntKind.u8, ZK.i IntKind.u8, ZK.i IntKind.u8, ZK.i IntKind.u8, ZK.i IntKind.u8, ZK.i IntKind.u8, ZK.i IntKind.u8, ZK.i IntKind.u8, ZK.i IntKind.u8, ZK.i IntKind.u8, ZK.i IntKind.u8, ZK.i IntKind.u8, ZK.i IntKind.u8, ZK.i IntKind.u8, ZK.i IntKind.u8, ZK.i IntKind.u8, ZK.i IntKind.u8, ZK.i IntKind.u8, ZK.i IntKind.u8, ZK.i IntKind.u8, ZK.i IntKind.u8, ZK.i IntKind.u8, ZK.i IntKind.u8, ZK.i IntKind.u8, ZK.i IntKind.u8, ZK.i IntKind.u8, ZK.i IntKind.u8, ZK.i IntKind.u8, ZK.i IntKind.u8, ZK.i IntKind.u8, ZK.i IntKind.u8, ZK.i IntKind.u8, ZK.i IntKind.u8, ZK.i IntKind.u8, ZK.i IntKind.u8, ZK.i IntKind.u8, ZK.i IntKind.u8, ZK.i IntKind.u8, ZK.i IntKind.u8, ZK.i IntKind.u8, ZK.i IntKind.u8, ZK.i IntKind.u8, ZK.i IntKind.u8, ZK.i IntKind.u8, ZK.i IntKind.u8, ZK.i IntKind.u8, ZK.i IntKind.u8, ZK.i IntKind.u8, ZK.i IntKind.u8, ZK.i IntKind.u8, ZK.i IntKind.u8, ZK.i IntKind.u8, ZK.i IntKind.u8, ZK.i IntKind.u8, ZK.i IntKind.u8, ZK.i IntKind.u8, ZK.i IntKind.u8, ZK.i IntKind.u8, ZK.i IntKind.u8, ZK.i IntKind.u8, ZK.i IntKind.u8, ZK.i IntKind.u8, ZK.i IntKind.u8, ZK.i IntKind.u8, ZK.i IntKind.u8, ZK.i IntKind.u8, ZK.i IntKind.u8, ZK.i IntKind.u8, ZK.i IntKind.u8, ZK.i IntKind.u8, ZK.i IntKind.u8, ZK.i IntKind.u8, ZK.i IntKind.u8, ZK.i IntKind.u8, ZK.i IntKind.u8, ZK.i IntKind.u8, ZK.i IntKind.u8, ZK.i IntKind.u8, ZK.i IntKind.u8, ZK.i IntKind.u8, ZK.i IntKind.u8, ZK.i IntKind.u8, ZK.i IntKind.u8, ZK.i IntKind.u8, ZK.i IntKind.u8]) ,
 (176, Ti.mk (Kd.struct [Av.Fd.mk 0 1 Bool.false 5, Av.Fd.mk 1 1 Bool.false 5]) 2 2 [ZK.i IntKind.u8, ZK.i IntKind.u8]) ,
 (177, Ti.mk (Kd.struct [Av.Fd.mk 0 1 Bool.false 5, Av.Fd.mk 1 1 Bool.false 5]) 2 2 [ZK.i IntKind.u8, ZK.i IntKind.u8]) ,
 (178, Ti.mk (Kd.array 16 177) 32 32 [ZK.i IntKind.u8, ZK.i IntKind.u8, ZK.i IntKind.u8, ZK.i IntKind.u8, ZK.i IntKind.u8, ZK.i IntKind.u8, ZK.i IntKind.u8, ZK.i IntKind.u8, ZK.i IntKind.u8, ZK.i IntKind.u8, ZK.i IntKind.u8, ZK.i IntKind.u8, ZK.i IntKind.u8, ZK.i IntKind.u8, ZK.i IntKind.u8, ZK.i IntKind.u8, ZK.i IntKind.u8, ZK.i IntKind.u8, ZK.i IntKind.u8, ZK.i IntKind.u8, ZK.i IntKind.u8, ZK.i IntKind.u8, ZK.i IntKind.u8, ZK.i IntKind.u8, ZK.i IntKind.u8, ZK.i IntKind.u8, ZK.i IntKind.u8, ZK.i IntKind.u8, ZK.i IntKind.u8, ZK.i IntKind.u8, ZK.i IntKind.u8, ZK.i IntKind.u8]) ,
 (179, Ti.mk Kd.func 1 8 [ZK.f]) ,
 (180, Ti.mk Kd.func 1 8 [ZK.f]) ,
 (181, Ti.mk Kd.func 1 8 [ZK.f]) ,
 (182, Ti.mk Kd.func 1 8 [ZK.f]) ,
 (183, Ti.mk Kd.func 1 8 [ZK.f]) ,
 (185, Ti.mk Kd.func 1 8 [ZK.f]) ,
 (186, Ti.mk Kd.func 1 8 [ZK.f]) ,
 (187, Ti.mk (Kd.struct [Av.Fd.mk 0 1 Bool.false 17, Av.Fd.mk 1 1 Bool.false 17, Av.Fd.mk 2 1 Bool.false 17, Av.Fd.mk 3 1 Bool.false 9]) 4 40 [ZK.p, ZK.p, ZK.p, ZK.s]) ,
 (188, Ti.mk (Kd.struct [Av.Fd.mk 0 1 Bool.false 17, Av.Fd.mk 1 1 Bool.false 17, Av.Fd.mk 2 1 Bool.false 17, Av.Fd.mk 3 1 Bool.false 9]) 4 40 [ZK.p, ZK.p, ZK.p, ZK.s]) ,
 (189, Ti.mk (Kd.array 0 16) 0 0 []) ,
 (190, Ti.mk (Kd.struct [Av.Fd.mk 0 0 Bool.true 189]) 0 0 []) ,
 (191, Ti.mk (Kd.struct [Av.Fd.mk 0 0 Bool.true 189]) 0 0 []) ,
 (192, Ti.mk Kd.func 1 8 [ZK.f]) ,
 (193, Ti.mk (Kd.int IntKind.u8) 1 1 [ZK.i IntKind.u8]) ,
 (194, Ti.mk (Kd.int IntKind.u8) 1 1 [ZK.i IntKind.u8]) ,
 (195, Ti.mk Kd.func 1 8 [ZK.f]) ,
 (196, Ti.mk (Kd.ptr 5) 1 8 [ZK.p]) ,
 (197, Ti.mk (Kd.int IntKind.i32) 1 4 [ZK.i IntKind.i32]) ,
 (198, Ti.mk (Kd.int IntKind.i32) 1 4 [ZK.i IntKind.i32]) ,
 (199, Ti.mk (Kd.struct [Av.Fd.mk 0 1 Bool.false 12, Av.Fd.mk 1 1 Bool.false 12, Av.Fd.mk 2 1 Bool.false 131, Av.Fd.mk 3 1 Bool.false 193, Av.Fd.mk 4 1 Bool.false 5, Av.Fd.mk 5 1 Bool.false 5, Av.Fd.mk 6 1 Bool.false 194, Av.Fd.mk 7 1 Bool.false 195, Av.Fd.mk 8 1 Bool.false 196, Av.Fd.mk 9 1 Bool.false 197, Av.Fd.mk 10 1 Bool.false 198]) 11 48 [ZK.i IntKind.u64, ZK.i IntKind.u64, ZK.i IntKind.u32, ZK.i IntKind.u8, ZK.i IntKind.u8, ZK.i IntKind.u8, ZK.i IntKind.u8, ZK.f, ZK.p, ZK.i IntKind.i32, ZK.i IntKind.i32]) ,
 (200, Ti.mk (Kd.struct [Av.Fd.mk 0 1 Bool.false 12, Av.Fd.mk 1 1 Bool.false 12, Av.Fd.mk 2 1 Bool.false 131, Av.Fd.mk 3 1 Bool.false 193, Av.Fd.mk 4 1 Bool.false 5, Av.Fd.mk 5 1 Bool.false 5, Av.Fd.mk 6 1 Bool.false 194, Av.Fd.mk 7 1 Bool.false 195, Av.Fd.mk 8 1 Bool.false 196, Av.Fd.mk 9 1 Bool.false 197, Av.Fd.mk 10 1 Bool.false 198]) 11 48 [ZK.i IntKind.u64, ZK.i IntKind.u64, ZK.i IntKind.u32, ZK.i IntKind.u8, ZK.i IntKind.u8, ZK.i IntKind.u8, ZK.i IntKind.u8, ZK.f, ZK.p, ZK.i IntKind.i32, ZK.i IntKind.i32])]
theorem ttok : chk Tryd.prog tt = true := by kernel_rfl
end Go.Proofs.YtihkbilhgbmbhaaDoor
end
section
open Go.RowKit Go.Pl Go.Av
namespace Go.Proofs.YtihkbilhgbmbhaaDoor
theorem hmix : Tryd.prog.follows .mixedOrders = true := by kernel_rfl
abbrev byE (l : List UInt8) : D := .sl .ext (l.map E.byte)
theorem uniB1 (l : List UInt8) : Uni 1 (l.map E.byte) := Uni.map (f := E.byte) (fun _ => rfl) l
end Go.Proofs.YtihkbilhgbmbhaaDoor
end
section
open Go.RowKit Go.Pl
namespace Go.Proofs.YtihkbilhgbmbhaaDoor
abbrev Hd := Int × Nat × Bool
def hv (h : Hd) : Value := .agg #[.int .i64 h.1, .int .u64 (h.2.1 : Int), .bool h.2.2]
def mayB (m : Int) : Bool := decide (2 <= m /\ m <= 5 \/ m = 7)
def rightB (h : Hd) : Bool := if h.2.2 then decide (h.2.1 = 0) && mayB h.1 else decide (0 <= h.1 /\ h.1 <= 7)
def followN (n : Nat) : Nat := if n < 24 then 0 else if n < 256 then 1 else if n < 65536 then 2 else if n < 4294967296 then 4 else 8
def infoN (n : Nat) : Nat := if n < 24 then n else if n < 256 then 24 else if n < 65536 then 25 else if n < 4294967296 then 26 else 27
def sizeN (h : Hd) : Nat := if rightB h then (if h.2.2 then 1 else 1 + followN h.2.1) else 0
def beN (n k : Nat) : List UInt8 := (List.range k).map (fun i => UInt8.ofNat (n / 256 ^ (k - 1 - i)))
def firstB (m i : Nat) : UInt8 := UInt8.ofNat (32 * m + i)
def writeL (h : Hd) : List UInt8 := if h.2.2 then [firstB h.1.toNat 31] else firstB h.1.toNat (infoN h.2.1) :: beN h.2.1 (followN h.2.1)
theorem followN_le (n : Nat) : followN n <= 8 := by
 unfold followN
 repeat' split
 all_goals omega
theorem infoN_le (n : Nat) : infoN n <= 27 := by
 unfold infoN
 repeat' split
 all_goals omega
theorem or32 (M i : Nat) (hM : M <= 7) (hi : i < 32) : bits .or .u8 ((M : Int) * 32) (i : Int) = ((32 * M + i : Nat) : Int) := by
 have h := u8_or ((M : Int) * 32) (i : Int) (by omega) (by omega) (by omega) (by omega)
 rw [h, show ((M : Int) * 32).toNat = 32 * M from by omega, Int.toNat_natCast]
 rw [nat_join 5 (32 * M) i (by omega) (by omega)]
theorem beN_length (n k : Nat) : (beN n k).length = k := by simp [beN]
theorem beN_take_succ (n k i : Nat) (h : i < k) : (beN n k).take (i + 1) = (beN n k).take i ++ [UInt8.ofNat (n / 256 ^ (k - 1 - i))] := by
 rw [List.take_succ_eq_append_getElem (by rw [beN_length]; exact h)]
 simp [beN]
def beVal (l : List UInt8) : Nat := l.foldl (fun a c => 256 * a + c.toNat) 0
def readN (b : List UInt8) (p : Nat) : Hd × Nat × Nat :=
 match b.drop p with
 | [] => ((0, 0, false), 0, 8)
 | c :: r =>
  if c.toNat % 32 < 24 then (((c.toNat / 32 : Nat), c.toNat % 32, false), p + 1, 0)
  else if c.toNat % 32 = 31 /\ mayB (c.toNat / 32 : Nat) = true then (((c.toNat / 32 : Nat), 0, true), p + 1, 0)
  else if 27 < c.toNat % 32 then ((0, 0, false), 0, 3)
  else if r.length < 2 ^ (c.toNat % 32 - 24) then ((0, 0, false), 0, 8)
  else (((c.toNat / 32 : Nat), beVal (r.take (2 ^ (c.toNat % 32 - 24))), false), p + 1 + 2 ^ (c.toNat % 32 - 24), 0)
theorem beVal_snoc (l : List UInt8) (c : UInt8) : beVal (l ++ [c]) = 256 * beVal l + c.toNat := by simp [beVal]
theorem beVal_from (l : List UInt8) : ∀ a, l.foldl (fun a c => 256 * a + c.toNat) a < (a + 1) * 256 ^ l.length := by
 induction l with
 | nil => intro a; simp
 | cons c l ih =>
  intro a
  have h1 := ih (256 * a + c.toNat)
  have h2 := c.toNat_lt
  have h3 : (256 * a + c.toNat + 1) * 256 ^ l.length <= ((a + 1) * 256) * 256 ^ l.length := Nat.mul_le_mul_right _ (by omega)
  simp only [List.foldl_cons, List.length_cons]
  rw [Nat.pow_succ, Nat.mul_comm (256 ^ l.length) 256, <- Nat.mul_assoc]
  omega
theorem beVal_lt (l : List UInt8) : beVal l < 256 ^ l.length := by
 have := beVal_from l 0
 unfold beVal
 omega
theorem beVal_step (v : Nat) (c : UInt8) (hv : v < 72057594037927936) : IntKind.u64.wrap ((v : Int) * 256) = (v : Int) * 256 /\ bits .or .u64 ((v : Int) * 256) (c.toNat : Int) = ((256 * v + c.toNat : Nat) : Int) := by
 have hc := c.toNat_lt
 refine ⟨by rw [IntKind.wrap_u64]; omega, ?_⟩
 have h := u64_or_nat (256 * v) c.toNat (by omega) (by omega)
 rw [nat_join 8 (256 * v) c.toNat (by omega) (by omega)] at h
 rw [<- h]
 congr 1
 omega
theorem take_snoc (r : List UInt8) (i : Nat) (h : i < r.length) : beVal (r.take (i + 1)) = 256 * beVal (r.take i) + r[i].toNat := by
 rw [List.take_succ_eq_append_getElem h, beVal_snoc]
theorem beVal_take_lt (r : List UInt8) (i : Nat) (h : i < 8) : beVal (r.take i) < 72057594037927936 := by
 have h1 := beVal_lt (r.take i)
 have h2 : 256 ^ (r.take i).length <= 256 ^ 7 := Nat.pow_le_pow_right (by decide) (by rw [List.length_take]; omega)
 omega
def readH (b : List UInt8) (p : Int) : Hd × Nat × Nat := if p < 0 \/ (b.length : Int) < p then ((0, 0, false), 0, 1) else readN b p.toNat
theorem and31 (c : UInt8) : bits .and .u8 (c.toNat : Int) 31 = ((c.toNat % 32 : Nat) : Int) := by
 have h := u8_and_nat c.toNat 31 c.toNat_lt (by decide)
 rw [show ((31 : Nat) : Int) = 31 from rfl] at h
 rw [h]
 congr 1
 exact Nat.and_two_pow_sub_one_eq_mod c.toNat 5
theorem readN_bd (l : List UInt8) (p : Nat) : (readN l p).2.1 <= l.length /\ (readN l p).1.2.1 < 18446744073709551616 /\ ((readN l p).2.2 = 0 -> p < (readN l p).2.1) := by
 unfold readN
 split
 ·exact ⟨Nat.zero_le _, by decide, fun h => by simp at h⟩
 ·rename_i c r hd
  have hl : l.length - p = r.length + 1 := by
   have := congrArg List.length hd
   simpa using this
  have hc := c.toNat_lt
  split
  ·exact ⟨by dsimp only; omega, by dsimp only; omega, fun _ => by dsimp only; omega⟩
  split
  ·exact ⟨by dsimp only; omega, by dsimp only; omega, fun _ => by dsimp only; omega⟩
  split
  ·exact ⟨Nat.zero_le _, by decide, fun h => by simp at h⟩
  split
  ·exact ⟨Nat.zero_le _, by decide, fun h => by simp at h⟩
  ·rename_i h1 h2 h3 h4
   have hk : 2 ^ (c.toNat % 32 - 24) <= 8 := by
    have : 2 ^ (c.toNat % 32 - 24) <= 2 ^ 3 := Nat.pow_le_pow_right (by decide) (by omega)
    omega
   have h0 := Nat.two_pow_pos (c.toNat % 32 - 24)
   refine ⟨by dsimp only; omega, ?_, fun _ => by dsimp only; omega⟩
   have h5 := beVal_lt (r.take (2 ^ (c.toNat % 32 - 24)))
   have h6 : 256 ^ (r.take (2 ^ (c.toNat % 32 - 24))).length <= 256 ^ 8 := Nat.pow_le_pow_right (by decide) (by rw [List.length_take]; omega)
   dsimp only
   omega
theorem sizeN_le (h : Hd) : sizeN h <= 9 := by
 unfold sizeN
 have := followN_le h.2.1
 split
 ·split <;> omega
 ·omega
theorem firstB_toNat (m i : Nat) (hm : m <= 7) (hi : i < 32) : (firstB m i).toNat = 32 * m + i := u8_ofNat (by omega)
theorem beVal_beN (n k : Nat) (h : n < 256 ^ k) : beVal (beN n k) = n := by
 have key : ∀ i, i <= k -> beVal ((beN n k).take i) = n / 256 ^ (k - i) := by
  intro i
  induction i with
  | zero => intro _; simp [beVal]; exact (Nat.div_eq_of_lt h).symm
  | succ i ih =>
   intro hi
   rw [beN_take_succ n k i (by omega), beVal_snoc, ih (by omega), UInt8.toNat_ofNat']
   have e : 256 ^ (k - i) = 256 ^ (k - 1 - i) * 256 := by rw [<- Nat.pow_succ]; congr 1; omega
   rw [e, <- Nat.div_div_eq_div_mul, show k - (i + 1) = k - 1 - i from by omega]
   omega
 have := key k (Nat.le_refl _)
 rwa [List.take_of_length_le (by rw [beN_length]; exact Nat.le_refl _), Nat.sub_self, Nat.pow_zero, Nat.div_one] at this
theorem beN_beVal (l : List UInt8) : beN (beVal l) l.length = l := by
 have key : ∀ (l : List UInt8) (m : Nat), (l.length = m) -> beN (beVal l) m = l := by
  intro l
  induction hk : l.length generalizing l with
  | zero => intro m hm; have : l = [] := List.eq_nil_of_length_eq_zero hk; subst this; subst hm; rfl
  | succ k ih =>
   intro m hm
   obtain ⟨l', c, rfl⟩ : ∃ l' c, l = l' ++ [c] := ⟨l.dropLast, l.getLast (by rintro rfl; simp at hk), (List.dropLast_concat_getLast _).symm⟩
   have hl' : l'.length = k := by simpa using hk
   have h1 := ih l' hl' k rfl
   subst hm
   rw [beVal_snoc]
   unfold beN at h1 ⊢
   have hc := c.toNat_lt
   rw [List.range_succ, List.map_append]
   congr 1
   ·rw [<- h1]
    apply List.map_congr_left
    intro i hi
    have hi : i < k := by simpa using hi
    congr 1
    have e : 256 ^ (k + 1 - 1 - i) = 256 * 256 ^ (k - 1 - i) := by rw [Nat.mul_comm, <- Nat.pow_succ]; congr 1; omega
    rw [e, <- Nat.div_div_eq_div_mul, h1]
    congr 1
    omega
   ·simp only [List.map_cons, List.map_nil]
    congr 1
    rw [show k + 1 - 1 - k = 0 from by omega, Nat.pow_zero, Nat.div_one]
    apply UInt8.toNat_inj.1
    rw [UInt8.toNat_ofNat']
    omega
 exact key l _ rfl
theorem follow_cases (n : Nat) (hn : n < 18446744073709551616) : (n < 24 /\ followN n = 0 /\ infoN n = n) \/ (24 <= n /\ followN n = 2 ^ (infoN n - 24) /\ 24 <= infoN n /\ infoN n <= 27 /\ n < 256 ^ followN n) := by
 unfold followN infoN
 by_cases h1 : n < 24
 ·simp [h1]
 right
 refine ⟨by omega, ?_⟩
 by_cases h2 : n < 256
 ·simp [h1, h2]
 by_cases h3 : n < 65536
 ·simp [h1, h2, h3]
 by_cases h4 : n < 4294967296
 ·simp [h1, h2, h3, h4]
 ·simp [h1, h2, h3, h4]; omega
theorem writeL_length (h : Hd) (hr : rightB h = true) : (writeL h).length = sizeN h := by
 unfold writeL sizeN
 rw [if_pos hr]
 split
 ·rfl
 ·simp [beN_length]; omega
theorem right_major {h : Hd} (hr : rightB h = true) : 0 <= h.1 /\ h.1 <= 7 := by
 obtain ⟨m, n, o⟩ := h
 cases o <;> simp [rightB, mayB] at hr <;> dsimp only <;> omega
theorem mayB_of_open {m : Int} {n : Nat} (hr : rightB (m, n, true) = true) : n = 0 /\ mayB m = true := by
 simpa [rightB] using hr
theorem read_write (h : Hd) (hr : rightB h = true) (hn : h.2.1 < 18446744073709551616) (a c : List UInt8) : readN (a ++ writeL h ++ c) a.length = (h, a.length + (writeL h).length, 0) := by
 obtain ⟨m, n, o⟩ := h
 obtain ⟨hm0, hm7⟩ := right_major hr
 dsimp only at hn hm0 hm7
 obtain ⟨M, rfl⟩ : ∃ M : Nat, m = (M : Int) := ⟨m.toNat, by omega⟩
 have hM : M <= 7 := by omega
 unfold readN
 rw [List.append_assoc, List.drop_left]
 cases o with
 | true =>
  obtain ⟨rfl, hmay⟩ := mayB_of_open hr
  simp only [writeL, if_true, Int.toNat_natCast, List.cons_append, List.nil_append]
  rw [firstB_toNat M 31 hM (by decide)]
  rw [if_neg (by omega), show (32 * M + 31) / 32 = M from by omega, if_pos ⟨by omega, hmay⟩]
  rfl
 | false =>
  have hw : writeL ((M : Int), n, false) = firstB M (infoN n) :: beN n (followN n) := by simp [writeL]
  rw [hw]
  simp only [List.cons_append]
  rcases follow_cases n hn with ⟨h1, h2, h3⟩ | ⟨h1, h2, h3, h4, h5⟩
  ·rw [firstB_toNat M (infoN n) hM (by omega), h3, h2]
   rw [if_pos (by omega), show (32 * M + n) / 32 = M from by omega, show (32 * M + n) % 32 = n from by omega]
   simp [beN]
  ·rw [firstB_toNat M (infoN n) hM (by omega)]
   have e1 : (32 * M + infoN n) / 32 = M := by omega
   have e2 : (32 * M + infoN n) % 32 = infoN n := by omega
   rw [e1, e2, if_neg (by omega), if_neg (by omega), if_neg (by omega), <- h2]
   rw [if_neg (by rw [List.length_append, beN_length]; omega)]
   rw [List.take_append_of_le_length (by rw [beN_length]; exact Nat.le_refl _), List.take_of_length_le (by rw [beN_length]; exact Nat.le_refl _), beVal_beN n _ h5]
   rw [List.length_cons, beN_length]
   congr 2
   omega
theorem write_read (b : List UInt8) (p : Nat) (h0 : (readN b p).2.2 = 0) : rightB (readN b p).1 = true /\ (writeL (readN b p).1).length <= (readN b p).2.1 - p /\
  ((sizeN (readN b p).1 = (readN b p).2.1 - p) ↔ writeL (readN b p).1 = (b.drop p).take ((readN b p).2.1 - p)) := by
 have hbd := readN_bd b p
 obtain ⟨h, x, y, hr⟩ : ∃ (h : Hd) (x y : Nat), readN b p = (h, x, y) := ⟨_, _, _, rfl⟩
 rw [hr] at h0 hbd ⊢
 dsimp only at h0 hbd ⊢
 subst h0
 have key : ∀ (hrt : rightB h = true) (hlen : (writeL h).length <= x - p) (heq : (writeL h).length = x - p -> writeL h = (b.drop p).take (x - p)), rightB h = true /\ (writeL h).length <= x - p /\ (sizeN h = x - p ↔ writeL h = (b.drop p).take (x - p)) := by
  intro hrt hlen heq
  refine ⟨hrt, hlen, fun e => heq (by rw [writeL_length h hrt]; exact e), fun e => ?_⟩
  rw [<- writeL_length h hrt, e, List.length_take, List.length_drop]
  have := hbd.1
  omega
 unfold readN at hr
 split at hr
 ·simp at hr
 ·rename_i c r hd
  have hc := c.toNat_lt
  have hl : b.length - p = r.length + 1 := by
   have := congrArg List.length hd
   simpa using this
  split at hr
  ·rename_i h1
   simp only [Prod.mk.injEq] at hr
   obtain ⟨rfl, rfl, _⟩ := hr
   have hinfo : infoN (c.toNat % 32) = c.toNat % 32 /\ followN (c.toNat % 32) = 0 := by unfold infoN followN; rw [if_pos h1, if_pos h1]; exact ⟨rfl, rfl⟩
   have hw : writeL (((c.toNat / 32 : Nat) : Int), c.toNat % 32, false) = [c] := by
    simp only [writeL, Bool.false_eq_true, if_false, Int.toNat_natCast, hinfo.1, hinfo.2]
    congr 1
    apply UInt8.toNat_inj.1
    rw [firstB_toNat _ _ (by omega) (by omega)]
    omega
   refine key (by simp [rightB]; omega) (by rw [hw]; simp; try omega) fun _ => ?_
   rw [hw, hd, show p + 1 - p = 1 from by omega]
   rfl
  split at hr
  ·rename_i h1 h2
   simp only [Prod.mk.injEq] at hr
   obtain ⟨rfl, rfl, _⟩ := hr
   have hw : writeL (((c.toNat / 32 : Nat) : Int), 0, true) = [c] := by
    simp only [writeL, if_true, Int.toNat_natCast]
    congr 1
    apply UInt8.toNat_inj.1
    rw [firstB_toNat _ _ (by omega) (by omega)]
    omega
   refine key (by simp [rightB]; exact h2.2) (by rw [hw]; simp; try omega) fun _ => ?_
   rw [hw, hd, show p + 1 - p = 1 from by omega]
   rfl
  split at hr
  ·simp at hr
  split at hr
  ·simp at hr
  ·rename_i h1 h2 h3 h4
   simp only [Prod.mk.injEq] at hr
   obtain ⟨rfl, rfl, _⟩ := hr
   obtain ⟨K, hK⟩ : ∃ K, 2 ^ (c.toNat % 32 - 24) = K := ⟨_, rfl⟩
   rw [hK] at h4 hbd key ⊢
   have hK8 : K = 1 /\ c.toNat % 32 = 24 \/ K = 2 /\ c.toNat % 32 = 25 \/ K = 4 /\ c.toNat % 32 = 26 \/ K = 8 /\ c.toNat % 32 = 27 := by
    have hk : c.toNat % 32 = 24 \/ c.toNat % 32 = 25 \/ c.toNat % 32 = 26 \/ c.toNat % 32 = 27 := by omega
    rcases hk with hk | hk | hk | hk <;> rw [hk] at hK <;> simp at hK <;> omega
   have hlt := beVal_lt (r.take K)
   rw [List.length_take, Nat.min_eq_left (by omega)] at hlt
   obtain ⟨n, hn⟩ : ∃ n, n = beVal (r.take K) := ⟨_, rfl⟩
   rw [<- hn] at hlt key ⊢
   have hfol : followN n <= K /\ (followN n = K -> infoN n = c.toNat % 32) := by
    unfold followN infoN
    rcases hK8 with ⟨rfl, hk⟩ | ⟨rfl, hk⟩ | ⟨rfl, hk⟩ | ⟨rfl, hk⟩
    all_goals
     rw [hk]
     simp only [Nat.reducePow] at hlt
     refine ⟨by (repeat' split) <;> omega, fun e => by (repeat' split at e) <;> (repeat' split) <;> omega⟩
   have hw : writeL (((c.toNat / 32 : Nat) : Int), n, false) = firstB (c.toNat / 32) (infoN n) :: beN n (followN n) := by simp only [writeL, Bool.false_eq_true, if_false, Int.toNat_natCast]
   refine key (by simp [rightB]; omega) (by rw [hw]; simp [beN_length]; omega) fun e => ?_
   rw [hw, List.length_cons, beN_length] at e
   have hfk : followN n = K := by omega
   rw [hw, hfol.2 hfk, hfk, hd, show p + 1 + K - p = K + 1 from by omega, List.take_succ_cons]
   congr 1
   ·apply UInt8.toNat_inj.1
    rw [firstB_toNat _ _ (by omega) (by omega)]
    omega
   ·have := beN_beVal (r.take K)
    rw [List.length_take, Nat.min_eq_left (by omega), <- hn] at this
    exact this
end Go.Proofs.YtihkbilhgbmbhaaDoor
end
section
open Go.RowKit Go.Pl
namespace Go.Proofs.YtihkbilhgbmbhaaDoor
def inB (c lo hi : Nat) : Bool := decide (lo <= c) && decide (c <= hi)
def ptN (c : Nat) : Nat := if c < 128 then 1 else if inB c 194 223 then 2 else if inB c 224 239 then 3 else if inB c 240 244 then 4 else 0
def ptLo (c : Nat) : Nat := if c = 224 then 160 else if c = 240 then 144 else 128
def ptHi (c : Nat) : Nat := if c = 237 then 159 else if c = 244 then 143 else 191
def pt : List UInt8 -> Nat
 | [] => 0
 | c :: r => match ptN c.toNat with
  | 1 => 1
  | 2 => (match r with | c1 :: _ => if inB c1.toNat (ptLo c.toNat) (ptHi c.toNat) then 2 else 0 | _ => 0)
  | 3 => (match r with | c1 :: c2 :: _ => if inB c1.toNat (ptLo c.toNat) (ptHi c.toNat) && inB c2.toNat 128 191 then 3 else 0 | _ => 0)
  | 4 => (match r with | c1 :: c2 :: c3 :: _ => if inB c1.toNat (ptLo c.toNat) (ptHi c.toNat) && (inB c2.toNat 128 191 && inB c3.toNat 128 191) then 4 else 0 | _ => 0)
  | _ => 0
def validF : Nat -> List UInt8 -> Bool
 | _, [] => true
 | 0, _ => false
 | f + 1, c :: r => match pt (c :: r) with
  | 0 => false
  | k + 1 => validF f (r.drop k)
def validU (b : List UInt8) : Bool := validF b.length b
theorem validF_more : ∀ (f g : Nat) (b : List UInt8), b.length <= f -> b.length <= g -> validF f b = validF g b
 | _, _, [], _, _ => by simp [validF]
 | 0, _, c :: r, h, _ => by simp at h
 | _ + 1, 0, c :: r, _, h => by simp at h
 | f + 1, g + 1, c :: r, h1, h2 => by
  simp only [validF]
  split
  ·rfl
  ·rename_i k _
   simp at h1 h2
   exact validF_more f g _ (by simp; omega) (by simp; omega)
theorem validU_cons (c : UInt8) (r : List UInt8) : validU (c :: r) = match pt (c :: r) with | 0 => false | k + 1 => validU (r.drop k) := by
 show validF (r.length + 1) (c :: r) = _
 rw [validF]
 split
 ·rfl
 ·exact validF_more _ _ _ (by simp) (Nat.le_refl _)
theorem pt_le (b : List UInt8) : pt b <= b.length := by
 unfold pt
 repeat' split
 all_goals simp
theorem pt_append (a b : List UInt8) (h : pt a ≠ 0) : pt (a ++ b) = pt a := by
 match a with
 | [] => simp [pt] at h
 | [c] => simp only [pt] at h ⊢; revert h; simp only [List.singleton_append, List.cons_append, List.nil_append]; split <;> simp
 | [c, c1] => simp only [pt] at h ⊢; revert h; simp only [List.cons_append, List.nil_append]; split <;> simp
 | [c, c1, c2] => simp only [pt] at h ⊢; revert h; simp only [List.cons_append, List.nil_append]; split <;> simp
 | c :: c1 :: c2 :: c3 :: r => simp only [pt, List.cons_append]
theorem validU_append : ∀ (n : Nat) (a b : List UInt8), a.length <= n -> validU a = true -> validU (a ++ b) = validU b
 | n, [], b, _, _ => rfl
 | 0, c :: r, b, h, _ => by simp at h
 | n + 1, c :: r, b, h, ha => by
  rw [validU_cons] at ha
  have hp : pt (c :: r) ≠ 0 := by intro e; rw [e] at ha; simp at ha
  have hl := pt_le (c :: r)
  rw [List.cons_append, validU_cons, <- List.cons_append, pt_append _ _ hp]
  obtain ⟨k, hk⟩ : ∃ k, pt (c :: r) = k + 1 := ⟨pt (c :: r) - 1, by omega⟩
  rw [hk] at ha hl ⊢
  simp at h hl ha ⊢
  rw [List.drop_append_of_le_length (by omega)]
  exact validU_append n _ b (by simp; omega) ha
inductive It where
 | mk (k : Int) (n : Nat) (b : List UInt8) (l : List It)
 deriving Inhabited
def It.k : It -> Int | .mk k _ _ _ => k
def It.n : It -> Nat | .mk _ n _ _ => n
def It.b : It -> List UInt8 | .mk _ _ b _ => b
def It.l : It -> List It | .mk _ _ _ l => l
mutual
def It.beq : It -> It -> Bool
 | .mk k n b l, .mk k' n' b' l' => (k == k') && ((n == n') && ((b == b') && It.beqs l l'))
def It.beqs : List It -> List It -> Bool
 | [], [] => true
 | x :: l, y :: l' => match It.beq x y with | true => It.beqs l l' | false => false
 | _, _ => false
end
mutual
theorem It.beq_iff : ∀ {x y : It}, It.beq x y = true ↔ x = y
 | .mk k n b l, .mk k' n' b' l' => by
  simp only [It.beq, Bool.and_eq_true, beq_iff_eq, It.mk.injEq]
  rw [It.beqs_iff]
theorem It.beqs_iff : ∀ {l l' : List It}, It.beqs l l' = true ↔ l = l'
 | [], [] => by simp [It.beqs]
 | [], y :: l' => by simp [It.beqs]
 | x :: l, [] => by simp [It.beqs]
 | x :: l, y :: l' => by
  simp only [It.beqs, List.cons.injEq]
  cases h : It.beq x y with
  | true => simp only [It.beq_iff.1 h, true_and]; exact It.beqs_iff
  | false => simp only [Bool.false_eq_true, false_iff, not_and]; intro e; rw [It.beq_iff.2 e] at h; cases h
end
instance : DecidableEq It := fun x y => if h : It.beq x y = true then .isTrue (It.beq_iff.1 h) else .isFalse fun e => h (It.beq_iff.2 e)
def ownI (k : Int) (n : Nat) (b : List UInt8) (l : List It) : Bool :=
 if k = 0 then b.isEmpty && l.isEmpty else if k = 2 then decide (n = 0) && l.isEmpty else if k = 3 then decide (n = 0) && (l.isEmpty && validU b) else if k = 4 then decide (n = 0) && b.isEmpty else false
mutual
def walkI : It -> Nat -> Nat -> Option Nat
 | .mk k n b l, d, m => if 6 < d then none else if m < 1 then none else match ownI k n b l with
  | false => none
  | true => walks l (d + 1) (m - 1)
def walks : List It -> Nat -> Nat -> Option Nat
 | [], _, m => some m
 | y :: l, d, m => match walkI y d m with
  | none => none
  | some r => walks l d r
end
def rightI (x : It) : Bool := (walkI x 1 256).isSome
mutual
def wfI : It -> Prop
 | .mk _ n b l => n < 18446744073709551616 /\ b.length <= 140737488351232 /\ l.length <= 2199023255488 /\ wfs l
def wfs : List It -> Prop
 | [] => True
 | x :: l => wfI x /\ wfs l
end
def It.hn : It -> Nat | .mk k n b l => if k = 2 then b.length else if k = 3 then b.length else if k = 4 then l.length else n
mutual
def putI : It -> List UInt8
 | .mk k n b l => (if rightB (k, (It.mk k n b l).hn, false) then writeL (k, (It.mk k n b l).hn, false) else []) ++ (b ++ puts l)
def puts : List It -> List UInt8
 | [] => []
 | x :: l => putI x ++ puts l
end
abbrev Res (α : Type) := Except Nat α
def rdS : List UInt8 -> Res (Hd × List UInt8)
 | [] => .error 8
 | c :: r =>
  if c.toNat % 32 < 24 then .ok (((c.toNat / 32 : Nat), c.toNat % 32, false), r)
  else if c.toNat % 32 = 31 /\ mayB (c.toNat / 32 : Nat) = true then .ok (((c.toNat / 32 : Nat), 0, true), r)
  else if 27 < c.toNat % 32 then .error 3
  else if r.length < 2 ^ (c.toNat % 32 - 24) then .error 8
  else .ok (((c.toNat / 32 : Nat), beVal (r.take (2 ^ (c.toNat % 32 - 24))), false), r.drop (2 ^ (c.toNat % 32 - 24)))
def pieceS (h : Hd) (s : List UInt8) : Res (List UInt8 × List UInt8) :=
 if h.2.1 <= s.length then (if h.1 = 3 /\ validU (s.take h.2.1) = false then .error 3 else .ok (s.take h.2.1, s.drop h.2.1)) else .error 8
def endB : List UInt8 -> Bool
 | c :: _ => c == 255
 | [] => false
def strS (m : Int) : Nat -> List UInt8 -> List UInt8 -> Res (List UInt8 × List UInt8)
 | 0, _, _ => .error 99
 | f + 1, acc, s => match endB s with
  | true => .ok (acc, s.tail)
  | false => match rdS s with
   | .error e => .error e
   | .ok (p, r) => if p.1 = m /\ p.2.2 = false then (match pieceS p r with
     | .error e => .error e
     | .ok (c, r2) => strS m f (acc ++ c) r2) else .error 3
def lstN (it : Nat -> List UInt8 -> Res (It × List UInt8 × Nat)) : Nat -> List It -> Nat -> List UInt8 -> Res (List It × List UInt8 × Nat)
 | 0, acc, m, s => .ok (acc, s, m)
 | f + 1, acc, m, s => match it m s with
  | .error e => .error e
  | .ok (x, r, m') => lstN it f (acc ++ [x]) m' r
def lstO (it : Nat -> List UInt8 -> Res (It × List UInt8 × Nat)) : Nat -> List It -> Nat -> List UInt8 -> Res (List It × List UInt8 × Nat)
 | 0, _, _, _ => .error 99
 | f + 1, acc, m, s => match endB s with
  | true => .ok (acc, s.tail, m)
  | false => match it m s with
   | .error e => .error e
   | .ok (x, r, m') => lstO it f (acc ++ [x]) m' r
def okK (k : Int) : Bool := k == 0 || (k == 2 || (k == 3 || k == 4))
def txtS (h : Hd) (r : List UInt8) : Res (List UInt8 × List UInt8) := match h.2.2 with
 | true => strS h.1 (r.length + 1) [] r
 | false => pieceS h r
def lisS (it : Nat -> List UInt8 -> Res (It × List UInt8 × Nat)) (h : Hd) (m : Nat) (r : List UInt8) : Res (List It × List UInt8 × Nat) := match h.2.2 with
 | true => lstO it (r.length + 1) [] m r
 | false => if h.2.1 <= r.length then lstN it h.2.1 [] m r else .error 8
def bodyS (it : Nat -> List UInt8 -> Res (It × List UInt8 × Nat)) (h : Hd) (m : Nat) (r : List UInt8) : Res (It × List UInt8 × Nat) :=
 if h.1 = 0 then .ok (.mk 0 h.2.1 [] [], r, m)
 else if h.1 = 4 then (match lisS it h m r with
  | .error e => .error e
  | .ok (l, r2, m2) => .ok (.mk 4 0 [] l, r2, m2))
 else match txtS h r with
  | .error e => .error e
  | .ok (c, r2) => .ok (.mk h.1 0 c [], r2, m)
def itemS : Nat -> Nat -> List UInt8 -> Res (It × List UInt8 × Nat)
 | 0, m, s => match rdS s with
  | .error e => .error e
  | .ok (h, r) => if okK h.1 = false then .error 3 else .error 9
 | d + 1, m, s => match rdS s with
  | .error e => .error e
  | .ok (h, r) => if okK h.1 = false then .error 3 else if m = 0 then .error 2 else bodyS (itemS d) h (m - 1) r
def readI (b : List UInt8) (p : Int) : It × Nat × Nat :=
 if p < 0 \/ (b.length : Int) < p then (.mk 0 0 [] [], 0, 1) else match itemS 6 256 (b.drop p.toNat) with
  | .error e => (.mk 0 0 [] [], 0, e)
  | .ok (x, r, _) => (x, b.length - r.length, 0)
def shortI (b : List UInt8) : Bool := match itemS 6 256 b with
 | .error _ => false
 | .ok (x, r, _) => r.isEmpty && putI x == b
end Go.Proofs.YtihkbilhgbmbhaaDoor
end
