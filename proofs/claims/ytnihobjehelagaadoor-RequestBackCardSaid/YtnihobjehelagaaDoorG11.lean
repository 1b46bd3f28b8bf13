/- The types of this seat's program, laid open: which kind each is of, its size, its zero. -/
import Derived.Test.YtnihobjehelagaaDoorG03
import Derived.Test.YtnihobjehelagaaDoorProg
import Derived.Test.YtnihobjehelagaaDoorG08
import Derived.Test.YtnihobjehelagaaDoorG10
import Derived.Laws.RangeAny
import Derived.LoopTactic
import Derived.Test.YtnihobjehelagaaDoorG01
import Derived.Test.YtnihobjehelagaaDoorG07
section
open Go.RowKit Go.Pl Go.Av
namespace Go.Proofs.YtnihobjehelagaaDoor
def tt : Tab := [(1, Ti.mk Kd.func 1 8 [ZK.f]) ,
  (2, Ti.mk (Kd.int IntKind.i64) 1 8 [ZK.i IntKind.i64]) ,
  (3, Ti.mk (Kd.int IntKind.i64) 1 8 [ZK.i IntKind.i64]) ,
  (4, Ti.mk Kd.bool 1 1 [ZK.b]) ,
  (5, Ti.mk (Kd.int IntKind.u8) 1 1 [ZK.i IntKind.u8]) ,
  (6, Ti.mk (Kd.int IntKind.u8) 1 1 [ZK.i IntKind.u8]) ,
  (7, Ti.mk (Kd.struct [Av.Fd.mk 0 1 Bool.false 2, Av.Fd.mk 1 1 Bool.false 3, Av.Fd.mk 2 1 Bool.false 4, Av.Fd.mk 3 1 Bool.false 6]) 4 24 [ZK.i IntKind.i64, ZK.i IntKind.i64, ZK.b, ZK.i IntKind.u8]) ,
  (8, Ti.mk (Kd.struct [Av.Fd.mk 0 1 Bool.false 2, Av.Fd.mk 1 1 Bool.false 3, Av.Fd.mk 2 1 Bool.false 4, Av.Fd.mk 3 1 Bool.false 6]) 4 24 [ZK.i IntKind.i64, ZK.i IntKind.i64, ZK.b, ZK.i IntKind.u8]) ,
  (9, Ti.mk Kd.str 1 16 [ZK.s]) ,
  (10, Ti.mk Kd.str 1 16 [ZK.s]) ,
  (11, Ti.mk Kd.str 1 16 [ZK.s]) ,
  (12, Ti.mk (Kd.int IntKind.u64) 1 8 [ZK.i IntKind.u64]) ,
  (13, Ti.mk (Kd.struct [Av.Fd.mk 0 1 Bool.false 9, Av.Fd.mk 1 1 Bool.false 12]) 2 24 [ZK.s, ZK.i IntKind.u64]) ,
  (14, Ti.mk (Kd.struct [Av.Fd.mk 0 1 Bool.false 9, Av.Fd.mk 1 1 Bool.false 12]) 2 24 [ZK.s, ZK.i IntKind.u64]) ,
  (15, Ti.mk (Kd.ptr 219) 1 8 [ZK.p]) ,
  (16, Ti.mk (Kd.ptr 222) 1 8 [ZK.p]) ,
  (17, Ti.mk (Kd.ptr 229) 1 8 [ZK.p]) ,
  (18, Ti.mk (Kd.struct [Av.Fd.mk 0 1 Bool.false 17]) 1 8 [ZK.p]) ,
  (19, Ti.mk (Kd.struct [Av.Fd.mk 0 1 Bool.false 17]) 1 8 [ZK.p]) ,
  (20, Ti.mk Kd.iface 1 16 [ZK.n]) ,
  (21, Ti.mk (Kd.int IntKind.i32) 1 4 [ZK.i IntKind.i32]) ,
  (22, Ti.mk (Kd.int IntKind.u64) 1 8 [ZK.i IntKind.u64]) ,
  (23, Ti.mk (Kd.slice 5) 1 24 [ZK.l]) ,
  (24, Ti.mk (Kd.slice 26) 1 24 [ZK.l]) ,
  (25, Ti.mk (Kd.struct [Av.Fd.mk 0 1 Bool.false 3, Av.Fd.mk 1 1 Bool.false 22, Av.Fd.mk 2 1 Bool.false 23, Av.Fd.mk 3 1 Bool.false 24]) 4 64 [ZK.i IntKind.i64, ZK.i IntKind.u64, ZK.l, ZK.l]) ,
  (26, Ti.mk (Kd.struct [Av.Fd.mk 0 1 Bool.false 3, Av.Fd.mk 1 1 Bool.false 22, Av.Fd.mk 2 1 Bool.false 23, Av.Fd.mk 3 1 Bool.false 24]) 4 64 [ZK.i IntKind.i64, ZK.i IntKind.u64, ZK.l, ZK.l]) ,
  (27, Ti.mk Kd.func 1 8 [ZK.f]) ,
  (28, Ti.mk Kd.func 1 8 [ZK.f]) ,
  (29, Ti.mk (Kd.int IntKind.i64) 1 8 [ZK.i IntKind.i64]) ,
  (31, Ti.mk Kd.func 1 8 [ZK.f]) ,
  (33, Ti.mk Kd.func 1 8 [ZK.f]) ,
  (34, Ti.mk Kd.func 1 8 [ZK.f]) ,
  (35, Ti.mk (Kd.slice 37) 1 24 [ZK.l]) ,
  (36, Ti.mk (Kd.struct [Av.Fd.mk 0 1 Bool.false 3, Av.Fd.mk 1 1 Bool.false 22, Av.Fd.mk 2 1 Bool.false 23, Av.Fd.mk 3 1 Bool.false 35]) 4 64 [ZK.i IntKind.i64, ZK.i IntKind.u64, ZK.l, ZK.l]) ,
  (37, Ti.mk (Kd.struct [Av.Fd.mk 0 1 Bool.false 3, Av.Fd.mk 1 1 Bool.false 22, Av.Fd.mk 2 1 Bool.false 23, Av.Fd.mk 3 1 Bool.false 35]) 4 64 [ZK.i IntKind.i64, ZK.i IntKind.u64, ZK.l, ZK.l]) ,
  (38, Ti.mk Kd.func 1 8 [ZK.f]) ,
  (39, Ti.mk Kd.func 1 8 [ZK.f]) ,
  (40, Ti.mk Kd.func 1 8 [ZK.f]) ,
  (41, Ti.mk Kd.func 1 8 [ZK.f]) ,
  (42, Ti.mk Kd.func 1 8 [ZK.f]) ,
  (43, Ti.mk Kd.func 1 8 [ZK.f]) ,
  (44, Ti.mk Kd.func 1 8 [ZK.f]) ,
  (45, Ti.mk Kd.func 1 8 [ZK.f]) ,
  (46, Ti.mk Kd.func 1 8 [ZK.f]) ,
  (47, Ti.mk Kd.func 1 8 [ZK.f]) ,
  (48, Ti.mk Kd.func 1 8 [ZK.f]) ,
  (49, Ti.mk Kd.func 1 8 [ZK.f]) ,
  (50, Ti.mk (Kd.struct [Av.Fd.mk 0 1 Bool.false 4, Av.Fd.mk 1 1 Bool.false 22, Av.Fd.mk 2 1 Bool.false 22, Av.Fd.mk 3 1 Bool.false 9, Av.Fd.mk 4 1 Bool.false 9]) 5 56 [ZK.b, ZK.i IntKind.u64, ZK.i IntKind.u64, ZK.s, ZK.s]) ,
  (51, Ti.mk (Kd.struct [Av.Fd.mk 0 1 Bool.false 4, Av.Fd.mk 1 1 Bool.false 22, Av.Fd.mk 2 1 Bool.false 22, Av.Fd.mk 3 1 Bool.false 9, Av.Fd.mk 4 1 Bool.false 9]) 5 56 [ZK.b, ZK.i IntKind.u64, ZK.i IntKind.u64, ZK.s, ZK.s]) ,
  (52, Ti.mk (Kd.struct [Av.Fd.mk 0 5 Bool.true 51, Av.Fd.mk 5 1 Bool.false 22, Av.Fd.mk 6 1 Bool.false 22]) 7 72 [ZK.b, ZK.i IntKind.u64, ZK.i IntKind.u64, ZK.s, ZK.s, ZK.i IntKind.u64, ZK.i IntKind.u64]) ,
  (53, Ti.mk (Kd.struct [Av.Fd.mk 0 5 Bool.true 51, Av.Fd.mk 5 1 Bool.false 22, Av.Fd.mk 6 1 Bool.false 22]) 7 72 [ZK.b, ZK.i IntKind.u64, ZK.i IntKind.u64, ZK.s, ZK.s, ZK.i IntKind.u64, ZK.i IntKind.u64]) ,
  (54, Ti.mk Kd.func 1 8 [ZK.f]) ,
  (56, Ti.mk Kd.func 1 8 [ZK.f]) ,
  (58, Ti.mk Kd.func 1 8 [ZK.f]) ,
  (59, Ti.mk Kd.func 1 8 [ZK.f]) ,
  (60, Ti.mk Kd.func 1 8 [ZK.f]) ,
  (61, Ti.mk Kd.func 1 8 [ZK.f]) ,
  (62, Ti.mk Kd.func 1 8 [ZK.f]) ,
  (64, Ti.mk Kd.func 1 8 [ZK.f]) ,
  (66, Ti.mk Kd.func 1 8 [ZK.f]) ,
  (67, Ti.mk Kd.func 1 8 [ZK.f]) ,
  (68, Ti.mk Kd.func 1 8 [ZK.f]) ,
  (69, Ti.mk (Kd.struct [Av.Fd.mk 0 1 Bool.false 4, Av.Fd.mk 1 1 Bool.false 22, Av.Fd.mk 2 1 Bool.false 22, Av.Fd.mk 3 1 Bool.false 9, Av.Fd.mk 4 1 Bool.false 9]) 5 56 [ZK.b, ZK.i IntKind.u64, ZK.i IntKind.u64, ZK.s, ZK.s]) ,
  (71, Ti.mk Kd.func 1 8 [ZK.f]) ,
  (72, Ti.mk Kd.func 1 8 [ZK.f]) ,
  (73, Ti.mk Kd.func 1 8 [ZK.f]) ,
  (74, Ti.mk Kd.func 1 8 [ZK.f]) ,
  (75, Ti.mk Kd.func 1 8 [ZK.f]) ,
  (76, Ti.mk Kd.func 1 8 [ZK.f]) ,
  (77, Ti.mk Kd.func 1 8 [ZK.f]) ,
  (78, Ti.mk (Kd.struct [Av.Fd.mk 0 1 Bool.false 22, Av.Fd.mk 1 1 Bool.false 3, Av.Fd.mk 2 5 Bool.true 51, Av.Fd.mk 7 5 Bool.true 51, Av.Fd.mk 12 1 Bool.false 3, Av.Fd.mk 13 1 Bool.false 3, Av.Fd.mk 14 1 Bool.false 3, Av.Fd.mk 15 1 Bool.false 23, Av.Fd.mk 16 1 Bool.false 22, Av.Fd.mk 17 1 Bool.false 22, Av.Fd.mk 18 1 Bool.false 4]) 19 200 [ZK.i IntKind.u64, ZK.i IntKind.i64, ZK.b, ZK.i IntKind.u64, ZK.i IntKind.u64, ZK.s, ZK.s, ZK.b, ZK.i IntKind.u64, ZK.i IntKind.u64, ZK.s, ZK.s, ZK.i IntKind.i64, ZK.i IntKind.i64, ZK.i IntKind.i64, ZK.l, ZK.i IntKind.u64, ZK.i IntKind.u64, ZK.b]) ,
  (79, Ti.mk (Kd.struct [Av.Fd.mk 0 1 Bool.false 22, Av.Fd.mk 1 1 Bool.false 3, Av.Fd.mk 2 5 Bool.true 51, Av.Fd.mk 7 5 Bool.true 51, Av.Fd.mk 12 1 Bool.false 3, Av.Fd.mk 13 1 Bool.false 3, Av.Fd.mk 14 1 Bool.false 3, Av.Fd.mk 15 1 Bool.false 23, Av.Fd.mk 16 1 Bool.false 22, Av.Fd.mk 17 1 Bool.false 22, Av.Fd.mk 18 1 Bool.false 4]) 19 200 [ZK.i IntKind.u64, ZK.i IntKind.i64, ZK.b, ZK.i IntKind.u64, ZK.i IntKind.u64, ZK.s, ZK.s, ZK.b, ZK.i IntKind.u64, ZK.i IntKind.u64, ZK.s, ZK.s, ZK.i IntKind.i64, ZK.i IntKind.i64, ZK.i IntKind.i64, ZK.l, ZK.i IntKind.u64, ZK.i IntKind.u64, ZK.b]) ,
  (80, Ti.mk Kd.func 1 8 [ZK.f]) ,
  (81, Ti.mk Kd.func 1 8 [ZK.f]) ,
  (83, Ti.mk Kd.func 1 8 [ZK.f]) ,
  (84, Ti.mk Kd.func 1 8 [ZK.f]) ,
  (85, Ti.mk Kd.func 1 8 [ZK.f]) ,
  (86, Ti.mk Kd.func 1 8 [ZK.f]) ,
  (87, Ti.mk Kd.func 1 8 [ZK.f]) ,
  (88, Ti.mk (Kd.struct [Av.Fd.mk 0 1 Bool.false 29]) 1 8 [ZK.i IntKind.i64]) ,
  (89, Ti.mk (Kd.struct [Av.Fd.mk 0 1 Bool.false 29]) 1 8 [ZK.i IntKind.i64]) ,
  (91, Ti.mk (Kd.ptr 93) 1 8 [ZK.p]) ,
  (92, Ti.mk (Kd.struct [Av.Fd.mk 0 1 Bool.false 23, Av.Fd.mk 1 1 Bool.false 3, Av.Fd.mk 2 1 Bool.false 3]) 3 40 [ZK.l, ZK.i IntKind.i64, ZK.i IntKind.i64]) ,
  (93, Ti.mk (Kd.struct [Av.Fd.mk 0 1 Bool.false 23, Av.Fd.mk 1 1 Bool.false 3, Av.Fd.mk 2 1 Bool.false 3]) 3 40 [ZK.l, ZK.i IntKind.i64, ZK.i IntKind.i64]) ,
  (94, Ti.mk Kd.func 1 8 [ZK.f]) ,
  (95, Ti.mk Kd.func 1 8 [ZK.f]) ,
  (96, Ti.mk Kd.func 1 8 [ZK.f]) ,
  (97, Ti.mk Kd.func 1 8 [ZK.f]) ,
  (98, Ti.mk Kd.func 1 8 [ZK.f]) ,
  (99, Ti.mk Kd.func 1 8 [ZK.f]) ,
  (100, Ti.mk (Kd.struct [Av.Fd.mk 0 1 Bool.false 3, Av.Fd.mk 1 1 Bool.false 22, Av.Fd.mk 2 1 Bool.false 4]) 3 24 [ZK.i IntKind.i64, ZK.i IntKind.u64, ZK.b]) ,
  (101, Ti.mk (Kd.struct [Av.Fd.mk 0 1 Bool.false 3, Av.Fd.mk 1 1 Bool.false 22, Av.Fd.mk 2 1 Bool.false 4]) 3 24 [ZK.i IntKind.i64, ZK.i IntKind.u64, ZK.b]) ,
  (102, Ti.mk Kd.func 1 8 [ZK.f]) ,
  (103, Ti.mk (Kd.ptr 149) 1 8 [ZK.p]) ,
  (105, Ti.mk Kd.func 1 8 [ZK.f]) ,
  (106, Ti.mk Kd.func 1 8 [ZK.f]) ,
  (107, Ti.mk Kd.func 1 8 [ZK.f]) ,
  (108, Ti.mk Kd.func 1 8 [ZK.f]) ,
  (109, Ti.mk Kd.func 1 8 [ZK.f]) ,
  (110, Ti.mk Kd.func 1 8 [ZK.f]) ,
  (111, Ti.mk Kd.func 1 8 [ZK.f]) ,
  (112, Ti.mk Kd.func 1 8 [ZK.f]) ,
  (114, Ti.mk Kd.func 1 8 [ZK.f]) ,
  (116, Ti.mk Kd.func 1 8 [ZK.f]) ,
  (118, Ti.mk Kd.func 1 8 [ZK.f]) ,
  (119, Ti.mk Kd.func 1 8 [ZK.f]) ,
  (120, Ti.mk Kd.func 1 8 [ZK.f]) ,
  (121, Ti.mk (Kd.slice 22) 1 24 [ZK.l]) ,
  (123, Ti.mk Kd.func 1 8 [ZK.f]) ,
  (124, Ti.mk Kd.func 1 8 [ZK.f]) ,
  (125, Ti.mk (Kd.ptr 160) 1 8 [ZK.p]) ,
  (126, Ti.mk Kd.func 1 8 [ZK.f]) ,
  (127, Ti.mk Kd.func 1 8 [ZK.f]) ,
  (128, Ti.mk Kd.func 1 8 [ZK.f]) ,
  (129, Ti.mk Kd.func 1 8 [ZK.f]) ,
  (130, Ti.mk Kd.func 1 8 [ZK.f]) ,
  (131, Ti.mk Kd.func 1 8 [ZK.f]) ,
  (132, Ti.mk Kd.func 1 8 [ZK.f]) ,
  (133, Ti.mk (Kd.ptr 165) 1 8 [ZK.p]) ,
  (134, Ti.mk Kd.func 1 8 [ZK.f]) ,
  (135, Ti.mk Kd.func 1 8 [ZK.f]) ,
  (136, Ti.mk Kd.func 1 8 [ZK.f]) ,
  (137, Ti.mk Kd.func 1 8 [ZK.f]) ,
  (138, Ti.mk Kd.func 1 8 [ZK.f]) ,
  (139, Ti.mk Kd.func 1 8 [ZK.f]) ,
  (140, Ti.mk Kd.func 1 8 [ZK.f]) ,
  (141, Ti.mk (Kd.struct [Av.Fd.mk 0 1 Bool.false 3, Av.Fd.mk 1 1 Bool.false 22, Av.Fd.mk 2 1 Bool.false 4]) 3 24 [ZK.i IntKind.i64, ZK.i IntKind.u64, ZK.b]) ,
  (142, Ti.mk Kd.func 1 8 [ZK.f]) ,
  (143, Ti.mk Kd.func 1 8 [ZK.f]) ,
  (144, Ti.mk Kd.func 1 8 [ZK.f]) ,
  (145, Ti.mk Kd.func 1 8 [ZK.f]) ,
  (146, Ti.mk Kd.func 1 8 [ZK.f]) ,
  (147, Ti.mk Kd.func 1 8 [ZK.f]) ,
  (148, Ti.mk (Kd.struct [Av.Fd.mk 0 7 Bool.true 53, Av.Fd.mk 7 1 Bool.false 4]) 8 80 [ZK.b, ZK.i IntKind.u64, ZK.i IntKind.u64, ZK.s, ZK.s, ZK.i IntKind.u64, ZK.i IntKind.u64, ZK.b]) ,
  (149, Ti.mk (Kd.struct [Av.Fd.mk 0 7 Bool.true 53, Av.Fd.mk 7 1 Bool.false 4]) 8 80 [ZK.b, ZK.i IntKind.u64, ZK.i IntKind.u64, ZK.s, ZK.s, ZK.i IntKind.u64, ZK.i IntKind.u64, ZK.b]) ,
  (151, Ti.mk Kd.func 1 8 [ZK.f]) ,
  (152, Ti.mk Kd.iface 1 16 [ZK.n]) ,
  (153, Ti.mk Kd.iface 1 16 [ZK.n]) ,
  (155, Ti.mk Kd.func 1 8 [ZK.f]) ,
  (156, Ti.mk Kd.func 1 8 [ZK.f]) ,
  (157, Ti.mk Kd.func 1 8 [ZK.f]) ,
  (158, Ti.mk Kd.func 1 8 [ZK.f]) ,
  (159, Ti.mk (Kd.struct [Av.Fd.mk 0 1 Bool.false 4, Av.Fd.mk 1 1 Bool.false 23]) 2 32 [ZK.b, ZK.l]) ,
  (160, Ti.mk (Kd.struct [Av.Fd.mk 0 1 Bool.false 4, Av.Fd.mk 1 1 Bool.false 23]) 2 32 [ZK.b, ZK.l]) ,
  (161, Ti.mk (Kd.int IntKind.u64) 1 8 [ZK.i IntKind.u64]) ,
  (162, Ti.mk (Kd.struct [Av.Fd.mk 0 1 Bool.false 29]) 1 8 [ZK.i IntKind.i64]) ,
  (163, Ti.mk (Kd.struct [Av.Fd.mk 0 1 Bool.false 29]) 1 8 [ZK.i IntKind.i64]) ,
  (164, Ti.mk (Kd.struct [Av.Fd.mk 0 1 Bool.true 163, Av.Fd.mk 1 1 Bool.false 4, Av.Fd.mk 2 1 Bool.false 23]) 3 40 [ZK.i IntKind.i64, ZK.b, ZK.l]) ,
  (165, Ti.mk (Kd.struct [Av.Fd.mk 0 1 Bool.true 163, Av.Fd.mk 1 1 Bool.false 4, Av.Fd.mk 2 1 Bool.false 23]) 3 40 [ZK.i IntKind.i64, ZK.b, ZK.l]) ,
  (166, Ti.mk Kd.func 1 8 [ZK.f]) ,
  (167, Ti.mk Kd.func 1 8 [ZK.f]) ,
  (168, Ti.mk Kd.func 1 8 [ZK.f]) ,
  (169, Ti.mk Kd.func 1 8 [ZK.f]) ,
  (170, Ti.mk Kd.func 1 8 [ZK.f]) ,
  (172, Ti.mk Kd.func 1 8 [ZK.f]) ,
  (173, Ti.mk Kd.func 1 8 [ZK.f]) ,
  (174, Ti.mk Kd.func 1 8 [ZK.f]) ,
  (175, Ti.mk (Kd.array 24 5) 24 24 [ZK.i IntKind.u8, ZK.i IntKind.u8, ZK.i IntKind.u8, ZK.i IntKind.u8, ZK.i IntKind.u8, ZK.i IntKind.u8, ZK.i IntKind.u8, ZK.i IntKind.u8, ZK.i IntKind.u8, ZK.i IntKind.u8, ZK.i IntKind.u8, ZK.i IntKind.u8, ZK.i IntKind.u8, ZK.i IntKind.u8, ZK.i IntKind.u8, ZK.i IntKind.u8, ZK.i IntKind.u8, ZK.i IntKind.u8, ZK.i IntKind.u8, ZK.i IntKind.u8, ZK.i IntKind.u8, ZK.i IntKind.u8, ZK.i IntKind.u8, ZK.i IntKind.u8]) ,
  (176, Ti.mk Kd.func 1 8 [ZK.f]) ,
  (178, Ti.mk Kd.func 1 8 [ZK.f]) ,
  (179, Ti.mk Kd.func 1 8 [ZK.f]) ,
  (180, Ti.mk Kd.func 1 8 [ZK.f]) ,
  (181, Ti.mk (Kd.ptr 163) 1 8 [ZK.p]) ,
  (182, Ti.mk Kd.func 1 8 [ZK.f]) ,
  (183, Ti.mk Kd.func 1 8 [ZK.f]) ,
  (184, Ti.mk (Kd.array 256 5) 256 256 [ZK.i IntKind.u8, ZK.i IntKind.u8, ZK.i IntKind.u8, ZK.i IntKind.u8, ZK.i IntKind.u8, ZK.i IntKind.u8, ZK.i IntKind.u8, ZK.i IntKind.u8, ZK.i IntKind.u8, ZK.i IntKind.u8, ZK.i IntKind.u8, ZK.i IntKind.u8, ZK.i IntKind.u8, ZK.i IntKind.u8, ZK.i IntKind.u8, ZK.i IntKind.u8, ZK.i IntKind.u8, ZK.i IntKind.u8, ZK.i IntKind.u8, ZK.i IntKind.u8, ZK.i IntKind.u8, ZK.i IntKind.u8, ZK.i IntKind.u8, ZK.i IntKind.u8, ZK.i IntKind.u8, ZK.i IntKind.u8, ZK.i IntKind.u8, ZK.i IntKind.u8, ZK.i IntKind.u8, ZK.i IntKind.u8, ZK.i IntKind.u8, ZK.i IntKind.u8, ZK.i IntKind.u8, ZK.i IntKind.u8, ZK.i IntKind.u8, ZK.i IntKind.u8, ZK.i IntKind.u8, ZK.i IntKind.u8, ZK.i IntKind.u8, ZK.i IntKind.u8, ZK.i IntKind.u8, ZK.i IntKind.u8, ZK.i IntKind.u8, ZK.i IntKind.u8, ZK.i IntKind.u8, ZK.i IntKind.u8, ZK.i IntKind.u8, ZK.i IntKind.u8, ZK.i IntKind.u8, ZK.i IntKind.u8, ZK.i IntKind.u8, ZK.i IntKind.u8, ZK.i IntKind.u8, ZK.i IntKind.u8, ZK.i IntKind.u8, ZK.i IntKind.u8, ZK.i IntKind.u8, ZK.i IntKind.u8, ZK.i IntKind.u8, ZK.i IntKind.u8, ZK.i IntKind.u8, ZK.i IntKind.u8, ZK.i IntKind.u8, ZK.i IntKind.u8, ZK.i IntKind.u8, ZK.i IntKind.u8, ZK.i IntKind.u8, ZK.i IntKind.u8, ZK.i IntKind.u8, ZK.i IntKind.u8, ZK.i IntKind.u8, ZK.i IntKind.u8, ZK.i IntKind.u8, ZK.i IntKind.u8, ZK.i IntKind.u8, ZK.i IntKind.u8, ZK.i IntKind.u8, ZK.i IntKind.u8, ZK.i IntKind.u8, ZK.i IntKind.u8, ZK.i IntKind.u8, ZK.i IntKind.u8, ZK.i IntKind.u8, ZK.i IntKind.u8, ZK.i IntKind.u8, ZK.i IntKind.u8, ZK.i IntKind.u8, ZK.i IntKind.u8, ZK.i IntKind.u8, ZK.i IntKind.u8, ZK.i IntKind.u8, ZK.i IntKind.u8, ZK.i IntKind.u8, ZK.i IntKind.u8, ZK.i IntKind.u8, ZK.i IntKind.u8, ZK.i IntKind.u8, ZK.i IntKind.u8, ZK.i IntKind.u8, ZK.i IntKind.u8, ZK.i IntKind.u8, ZK.i IntKind.u8, ZK.i IntKind.u8, ZK.i IntKind.u8, ZK.i IntKind.u8, ZK.i IntKind.u8, ZK.i IntKind.u8, ZK.i IntKind.u8, ZK.i IntKind.u8, ZK.i IntKind.u8, ZK.i IntKind.u8, ZK.i IntKind.u8, ZK.i IntKind.u8, ZK.i IntKind.u8, ZK.i IntKind.u8, ZK.i IntKind.u8, ZK.i IntKind.u8, ZK.i IntKind.u8, ZK.i IntKind.u8, ZK.i IntKind.u8, ZK.i IntKind.u8, ZK.i IntKind.u8, ZK.i IntKind.u8, ZK.i IntKind.u8, ZK.i IntKind.u8, ZK.i IntKind.u8, ZK.i IntKind.u8, ZK.i IntKind.u8, ZK.i IntKind.u8, ZK.i IntKind.u8, ZK.i IntKind.u8, ZK.i IntKind.u8, ZK.i IntKind.u8, ZK.i IntKind.u8, ZK.i IntKind.u8, ZK.i IntKind.u8, ZK.i IntKind.u8, ZK.i IntKind.u8, ZK.i IntKind.u8, ZK.i IntKind.u8, ZK.i IntKind.u8, ZK.i IntKind.u8, ZK.i IntKind.u8, ZK.i IntKind.u8, ZK.i IntKind.u8, ZK.i IntKind.u8, ZK.i IntKind.u8, ZK.i IntKind.u8, ZK.i IntKind.u8, ZK.i IntKind.u8, ZK.i IntKind.u8, ZK.i IntKind.u8, ZK.i IntKind.u8, ZK.i IntKind.u8, ZK.i IntKind.u8, ZK.i IntKind.u8, ZK.i IntKind.u8, ZK.i IntKind.u8, ZK.i IntKind.u8, ZK.i IntKind.u8, ZK.i IntKind.u8, ZK.i IntKind.u8, ZK.i IntKind.u8, ZK.i IntKind.u8, ZK.i IntKind.u8, ZK.i IntKind.u8, ZK.i IntKind.u8, ZK.i IntKind.u8, ZK.i IntKind.u8, ZK.i IntKind.u8, ZK.i IntKind.u8, ZK.i IntKind.u8, ZK.i IntKind.u8, ZK.i IntKind.u8, ZK.i IntKind.u8, ZK.i IntKind.u8, ZK.i IntKind.u8, ZK.i IntKind.u8, ZK.i IntKind.u8, ZK.i IntKind.u8, ZK.i IntKind.u8, ZK.i IntKind.u8, ZK.i IntKind.u8, ZK.i IntKind.u8, ZK.i IntKind.u8, ZK.i IntKind.u8, ZK.i IntKind.u8, ZK.i IntKind.u8, ZK.i IntKind.u8, ZK.i IntKind.u8, ZK.i IntKind.u8, ZK.i IntKind.u8, ZK.i IntKind.u8, ZK.i IntKind.u8, ZK.i IntKind.u8, ZK.i IntKind.u8, ZK.i IntKind.u8, ZK.i IntKind.u8, ZK.i IntKind.u8, ZK.i IntKind.u8, ZK.i IntKind.u8, ZK.i IntKind.u8, ZK.i IntKind.u8, ZK.i IntKind.u8, ZK.i IntKind.u8, ZK.i IntKind.u8, ZK.i IntKind.u8, ZK.i IntKind.u8, ZK.i IntKind.u8, ZK.i IntKind.u8, ZK.i IntKind.u8, ZK.i IntKind.u8, ZK.i IntKind.u8, ZK.i IntKind.u8, ZK.i IntKind.u8, ZK.i IntKind.u8, ZK.i IntKind.u8, ZK.i IntKind.u8, ZK.i IntKind.u8, ZK.i IntKind.u8, ZK.i IntKind.u8, ZK.i IntKind.u8, ZK.i IntKind.u8, ZK.i IntKind.u8, ZK.i IntKind.u8, ZK.i IntKind.u8, ZK.i IntKind.u8, ZK.i IntKind.u8, ZK.i IntKind.u8, ZK.i IntKind.u8, ZK.i IntKind.u8, ZK.i IntKind.u8, ZK.i IntKind.u8, ZK.i IntKind.u8, ZK.i IntKind.u8, ZK.i IntKind.u8, ZK.i IntKind.u8, ZK.i IntKind.u8, ZK.i IntKind.u8, ZK.i IntKind.u8, ZK.i IntKind.u8, ZK.i IntKind.u8, ZK.i IntKind.u8, ZK.i IntKind.u8, ZK.i IntKind.u8, ZK.i IntKind.u8, ZK.i IntKind.u8, ZK.i IntKind.u8, ZK.i IntKind.u8, ZK.i IntKind.u8, ZK.i IntKind.u8, ZK.i IntKind.u8, ZK.i IntKind.u8, ZK.i IntKind.u8, ZK.i IntKind.u8, ZK.i IntKind.u8]) ,
  (185, Ti.mk (Kd.struct [Av.Fd.mk 0 1 Bool.false 5, Av.Fd.mk 1 1 Bool.false 5]) 2 2 [ZK.i IntKind.u8, ZK.i IntKind.u8]) ,
  (186, Ti.mk (Kd.struct [Av.Fd.mk 0 1 Bool.false 5, Av.Fd.mk 1 1 Bool.false 5]) 2 2 [ZK.i IntKind.u8, ZK.i IntKind.u8]) ,
  (187, Ti.mk (Kd.array 16 186) 32 32 [ZK.i IntKind.u8, ZK.i IntKind.u8, ZK.i IntKind.u8, ZK.i IntKind.u8, ZK.i IntKind.u8, ZK.i IntKind.u8, ZK.i IntKind.u8, ZK.i IntKind.u8, ZK.i IntKind.u8, ZK.i IntKind.u8, ZK.i IntKind.u8, ZK.i IntKind.u8, ZK.i IntKind.u8, ZK.i IntKind.u8, ZK.i IntKind.u8, ZK.i IntKind.u8, ZK.i IntKind.u8, ZK.i IntKind.u8, ZK.i IntKind.u8, ZK.i IntKind.u8, ZK.i IntKind.u8, ZK.i IntKind.u8, ZK.i IntKind.u8, ZK.i IntKind.u8, ZK.i IntKind.u8, ZK.i IntKind.u8, ZK.i IntKind.u8, ZK.i IntKind.u8, ZK.i IntKind.u8, ZK.i IntKind.u8, ZK.i IntKind.u8, ZK.i IntKind.u8]) ,
  (188, Ti.mk Kd.func 1 8 [ZK.f]) ,
  (189, Ti.mk Kd.func 1 8 [ZK.f]) ,
  (190, Ti.mk Kd.func 1 8 [ZK.f]) ,
  (191, Ti.mk (Kd.array 20 22) 20 160 [ZK.i IntKind.u64, ZK.i IntKind.u64, ZK.i IntKind.u64, ZK.i IntKind.u64, ZK.i IntKind.u64, ZK.i IntKind.u64, ZK.i IntKind.u64, ZK.i IntKind.u64, ZK.i IntKind.u64, ZK.i IntKind.u64, ZK.i IntKind.u64, ZK.i IntKind.u64, ZK.i IntKind.u64, ZK.i IntKind.u64, ZK.i IntKind.u64, ZK.i IntKind.u64, ZK.i IntKind.u64, ZK.i IntKind.u64, ZK.i IntKind.u64, ZK.i IntKind.u64]) ,
  (192, Ti.mk (Kd.int IntKind.u32) 1 4 [ZK.i IntKind.u32]) ,
  (193, Ti.mk (Kd.array 65 5) 65 65 [ZK.i IntKind.u8, ZK.i IntKind.u8, ZK.i IntKind.u8, ZK.i IntKind.u8, ZK.i IntKind.u8, ZK.i IntKind.u8, ZK.i IntKind.u8, ZK.i IntKind.u8, ZK.i IntKind.u8, ZK.i IntKind.u8, ZK.i IntKind.u8, ZK.i IntKind.u8, ZK.i IntKind.u8, ZK.i IntKind.u8, ZK.i IntKind.u8, ZK.i IntKind.u8, ZK.i IntKind.u8, ZK.i IntKind.u8, ZK.i IntKind.u8, ZK.i IntKind.u8, ZK.i IntKind.u8, ZK.i IntKind.u8, ZK.i IntKind.u8, ZK.i IntKind.u8, ZK.i IntKind.u8, ZK.i IntKind.u8, ZK.i IntKind.u8, ZK.i IntKind.u8, ZK.i IntKind.u8, ZK.i IntKind.u8, ZK.i IntKind.u8, ZK.i IntKind.u8, ZK.i IntKind.u8, ZK.i IntKind.u8, ZK.i IntKind.u8, ZK.i IntKind.u8, ZK.i IntKind.u8, ZK.i IntKind.u8, ZK.i IntKind.u8, ZK.i IntKind.u8, ZK.i IntKind.u8, ZK.i IntKind.u8, ZK.i IntKind.u8, ZK.i IntKind.u8, ZK.i IntKind.u8, ZK.i IntKind.u8, ZK.i IntKind.u8, ZK.i IntKind.u8, ZK.i IntKind.u8, ZK.i IntKind.u8, ZK.i IntKind.u8, ZK.i IntKind.u8, ZK.i IntKind.u8, ZK.i IntKind.u8, ZK.i IntKind.u8, ZK.i IntKind.u8, ZK.i IntKind.u8, ZK.i IntKind.u8, ZK.i IntKind.u8, ZK.i IntKind.u8, ZK.i IntKind.u8, ZK.i IntKind.u8, ZK.i IntKind.u8, ZK.i IntKind.u8, ZK.i IntKind.u8]) ,
  (194, Ti.mk Kd.func 1 8 [ZK.f]) ,
  (195, Ti.mk Kd.func 1 8 [ZK.f]) ,
  (196, Ti.mk (Kd.int IntKind.i64) 1 8 [ZK.i IntKind.i64]) ,
  (197, Ti.mk Kd.func 1 8 [ZK.f]) ,
  (198, Ti.mk Kd.func 1 8 [ZK.f]) ,
  (199, Ti.mk (Kd.ptr 206) 1 8 [ZK.p]) ,
  (200, Ti.mk Kd.func 1 8 [ZK.f]) ,
  (201, Ti.mk Kd.func 1 8 [ZK.f]) ,
  (202, Ti.mk Kd.func 1 8 [ZK.f]) ,
  (203, Ti.mk Kd.func 1 8 [ZK.f]) ,
  (204, Ti.mk Kd.func 1 8 [ZK.f]) ,
  (205, Ti.mk (Kd.struct [Av.Fd.mk 0 1 Bool.false 9, Av.Fd.mk 1 1 Bool.false 9, Av.Fd.mk 2 1 Bool.false 153]) 3 48 [ZK.s, ZK.s, ZK.n]) ,
  (206, Ti.mk (Kd.struct [Av.Fd.mk 0 1 Bool.false 9, Av.Fd.mk 1 1 Bool.false 9, Av.Fd.mk 2 1 Bool.false 153]) 3 48 [ZK.s, ZK.s, ZK.n]) ,
  (207, Ti.mk Kd.func 1 8 [ZK.f]) ,
  (208, Ti.mk (Kd.array 32 5) 32 32 [ZK.i IntKind.u8, ZK.i IntKind.u8, ZK.i IntKind.u8, ZK.i IntKind.u8, ZK.i IntKind.u8, ZK.i IntKind.u8, ZK.i IntKind.u8, ZK.i IntKind.u8, ZK.i IntKind.u8, ZK.i IntKind.u8, ZK.i IntKind.u8, ZK.i IntKind.u8, ZK.i IntKind.u8, ZK.i IntKind.u8, ZK.i IntKind.u8, ZK.i IntKind.u8, ZK.i IntKind.u8, ZK.i IntKind.u8, ZK.i IntKind.u8, ZK.i IntKind.u8, ZK.i IntKind.u8, ZK.i IntKind.u8, ZK.i IntKind.u8, ZK.i IntKind.u8, ZK.i IntKind.u8, ZK.i IntKind.u8, ZK.i IntKind.u8, ZK.i IntKind.u8, ZK.i IntKind.u8, ZK.i IntKind.u8, ZK.i IntKind.u8, ZK.i IntKind.u8]) ,
  (209, Ti.mk (Kd.array 64 5) 64 64 [ZK.i IntKind.u8, ZK.i IntKind.u8, ZK.i IntKind.u8, ZK.i IntKind.u8, ZK.i IntKind.u8, ZK.i IntKind.u8, ZK.i IntKind.u8, ZK.i IntKind.u8, ZK.i IntKind.u8, ZK.i IntKind.u8, ZK.i IntKind.u8, ZK.i IntKind.u8, ZK.i IntKind.u8, ZK.i IntKind.u8, ZK.i IntKind.u8, ZK.i IntKind.u8, ZK.i IntKind.u8, ZK.i IntKind.u8, ZK.i IntKind.u8, ZK.i IntKind.u8, ZK.i IntKind.u8, ZK.i IntKind.u8, ZK.i IntKind.u8, ZK.i IntKind.u8, ZK.i IntKind.u8, ZK.i IntKind.u8, ZK.i IntKind.u8, ZK.i IntKind.u8, ZK.i IntKind.u8, ZK.i IntKind.u8, ZK.i IntKind.u8, ZK.i IntKind.u8, ZK.i IntKind.u8, ZK.i IntKind.u8, ZK.i IntKind.u8, ZK.i IntKind.u8, ZK.i IntKind.u8, ZK.i IntKind.u8, ZK.i IntKind.u8, ZK.i IntKind.u8, ZK.i IntKind.u8, ZK.i IntKind.u8, ZK.i IntKind.u8, ZK.i IntKind.u8, ZK.i IntKind.u8, ZK.i IntKind.u8, ZK.i IntKind.u8, ZK.i IntKind.u8, ZK.i IntKind.u8, ZK.i IntKind.u8, ZK.i IntKind.u8, ZK.i IntKind.u8, ZK.i IntKind.u8, ZK.i IntKind.u8, ZK.i IntKind.u8, ZK.i IntKind.u8, ZK.i IntKind.u8, ZK.i IntKind.u8, ZK.i IntKind.u8, ZK.i IntKind.u8, ZK.i IntKind.u8, ZK.i IntKind.u8, ZK.i IntKind.u8, ZK.i IntKind.u8]) ,
  (211, Ti.mk Kd.func 1 8 [ZK.f]) ,
  (212, Ti.mk (Kd.ptr 5) 1 8 [ZK.p]) ,
  (213, Ti.mk (Kd.ptr 215) 1 8 [ZK.p]) ,
  (214, Ti.mk (Kd.struct [Av.Fd.mk 0 1 Bool.false 9]) 1 16 [ZK.s]) ,
  (215, Ti.mk (Kd.struct [Av.Fd.mk 0 1 Bool.false 9]) 1 16 [ZK.s]) ,
  (216, Ti.mk Kd.func 1 8 [ZK.f]) ,
  (217, Ti.mk Kd.func 1 8 [ZK.f]) ,
  (218, Ti.mk (Kd.struct [Av.Fd.mk 0 1 Bool.false 17, Av.Fd.mk 1 1 Bool.false 17, Av.Fd.mk 2 1 Bool.false 17, Av.Fd.mk 3 1 Bool.false 9]) 4 40 [ZK.p, ZK.p, ZK.p, ZK.s]) ,
  (219, Ti.mk (Kd.struct [Av.Fd.mk 0 1 Bool.false 17, Av.Fd.mk 1 1 Bool.false 17, Av.Fd.mk 2 1 Bool.false 17, Av.Fd.mk 3 1 Bool.false 9]) 4 40 [ZK.p, ZK.p, ZK.p, ZK.s]) ,
  (220, Ti.mk (Kd.array 0 16) 0 0 []) ,
  (221, Ti.mk (Kd.struct [Av.Fd.mk 0 0 Bool.true 220]) 0 0 []) ,
  (222, Ti.mk (Kd.struct [Av.Fd.mk 0 0 Bool.true 220]) 0 0 []) ,
  (223, Ti.mk (Kd.int IntKind.u8) 1 1 [ZK.i IntKind.u8]) ,
  (224, Ti.mk (Kd.int IntKind.u8) 1 1 [ZK.i IntKind.u8]) ,
  (225, Ti.mk Kd.func 1 8 [ZK.f]) ,
  (226, Ti.mk (Kd.int IntKind.i32) 1 4 [ZK.i IntKind.i32]) ,
  (227, Ti.mk (Kd.int IntKind.i32) 1 4 [ZK.i IntKind.i32]) ,
  (228, Ti.mk (Kd.struct [Av.Fd.mk 0 1 Bool.false 12, Av.Fd.mk 1 1 Bool.false 12, Av.Fd.mk 2 1 Bool.false 192, Av.Fd.mk 3 1 Bool.false 223, Av.Fd.mk 4 1 Bool.false 5, Av.Fd.mk 5 1 Bool.false 5, Av.Fd.mk 6 1 Bool.false 224, Av.Fd.mk 7 1 Bool.false 225, Av.Fd.mk 8 1 Bool.false 212, Av.Fd.mk 9 1 Bool.false 226, Av.Fd.mk 10 1 Bool.false 227]) 11 48 [ZK.i IntKind.u64, ZK.i IntKind.u64, ZK.i IntKind.u32, ZK.i IntKind.u8, ZK.i IntKind.u8, ZK.i IntKind.u8, ZK.i IntKind.u8, ZK.f, ZK.p, ZK.i IntKind.i32, ZK.i IntKind.i32]) ,
  (229, Ti.mk (Kd.struct [Av.Fd.mk 0 1 Bool.false 12, Av.Fd.mk 1 1 Bool.false 12, Av.Fd.mk 2 1 Bool.false 192, Av.Fd.mk 3 1 Bool.false 223, Av.Fd.mk 4 1 Bool.false 5, Av.Fd.mk 5 1 Bool.false 5, Av.Fd.mk 6 1 Bool.false 224, Av.Fd.mk 7 1 Bool.false 225, Av.Fd.mk 8 1 Bool.false 212, Av.Fd.mk 9 1 Bool.false 226, Av.Fd.mk 10 1 Bool.false 227]) 11 48 [ZK.i IntKind.u64, ZK.i IntKind.u64, ZK.i IntKind.u32, ZK.i IntKind.u8, ZK.i IntKind.u8, ZK.i IntKind.u8, ZK.i IntKind.u8, ZK.f, ZK.p, ZK.i IntKind.i32, ZK.i IntKind.i32]) ,
  (230, Ti.mk Kd.func 1 8 [ZK.f])]
theorem ttok : chk Tryd.prog tt = true := by kernel_rfl
end Go.Proofs.YtnihobjehelagaaDoor
end
/- What every text of this seat uses: bytes as trees, and the seat's table. -/
section
open Go.RowKit Go.Pl Go.Av
namespace Go.Proofs.YtnihobjehelagaaDoor
set_option linter.unusedVariables false
set_option linter.unusedSimpArgs false
theorem hmix : Tryd.prog.follows .mixedOrders = true := by kernel_rfl
abbrev byE (l : List UInt8) : D := .sl .ext (l.map E.byte)
theorem uniB1 (l : List UInt8) : Uni 1 (l.map E.byte) := Uni.map (f := E.byte) (fun _ => rfl) l
/-- slices of bytes -/
abbrev E.bys (l : List UInt8) : E := .sl (l.map E.byte)
abbrev bysE (l : List (List UInt8)) : D := .sl .ext (l.map E.bys)
theorem uniS1 (l : List (List UInt8)) : Uni 1 (l.map E.bys) := Uni.map (f := E.bys) (fun _ => rfl) l
theorem arg1 {W : World} {d0 : D} {v0 : Value} (h0 : V W (g0 W) [] d0 v0) : ∀ (j : Nat) (d : D) (v : Value), [d0][j]? = some d → [v0][j]? = some v → V W (g0 W) [] d v := fun j d v hd hv => by
  cases j with
  | zero => simp at hd hv; subst hd hv; exact h0
  | succ j => simp at hd
theorem arg2 {W : World} {d0 d1 : D} {v0 v1 : Value} (h0 : V W (g0 W) [] d0 v0) (h1 : V W (g0 W) [] d1 v1) : ∀ (j : Nat) (d : D) (v : Value), [d0, d1][j]? = some d → [v0, v1][j]? = some v → V W (g0 W) [] d v := fun j d v hd hv => by
  cases j with
  | zero => simp at hd hv; subst hd hv; exact h0
  | succ j => exact arg1 h1 j d v (by simpa using hd) (by simpa using hv)
theorem arg3 {W : World} {d0 d1 d2 : D} {v0 v1 v2 : Value} (h0 : V W (g0 W) [] d0 v0) (h1 : V W (g0 W) [] d1 v1) (h2 : V W (g0 W) [] d2 v2) : ∀ (j : Nat) (d : D) (v : Value), [d0, d1, d2][j]? = some d → [v0, v1, v2][j]? = some v → V W (g0 W) [] d v := fun j d v hd hv => by
  cases j with
  | zero => simp at hd hv; subst hd hv; exact h0
  | succ j => exact arg2 h1 h2 j d v (by simpa using hd) (by simpa using hv)
theorem by_V {W : World} {v : Value} {l : List UInt8} (hs : SlB W (· < W.heap.size) v l) : V W (g0 W) [] (byE l) v :=
  V.ofE (e := .sl (l.map E.byte)) (ToE.byte.sl (C := (g0 W).C) (fun k hk o => hk) hs)
theorem bys_V {W : World} {v : Value} {l : List (List UInt8)} (hs : Sl (Rep.slice Rep.byte (by decide)) W (· < W.heap.size) v l) : V W (g0 W) [] (bysE l) v :=
  V.ofE (e := .sl (l.map E.bys)) ((ToE.byte.slice (by decide)).sl (C := (g0 W).C) (fun k hk o => hk) hs)
theorem sl_max {α : Type} {R : Rep α} {W : World} {S : Nat → Prop} {v : Value} {l : List α} (h : Sl R W S v l) : l.length ≤ maxLen := by
  obtain ⟨A, c, _, h1, h2, _⟩ := h
  omega
end Go.Proofs.YtnihobjehelagaaDoor
end
/- Slices of bytes: copied, held against each other. -/
section
open Go.RowKit Go.Pl Go.Av
namespace Go.Proofs.YtnihobjehelagaaDoor
set_option linter.unusedVariables false
set_option linter.unusedSimpArgs false
set_option maxHeartbeats 4000000
theorem av_cloneB [Known] (b : List UInt8) (hb : b.length ≤ 140737488351232) : AP Tryd.prog 56 [byE b] (byE b) [] := by
  have hU := uniB1 b
  cases b with
  | nil =>
    refine AP.ofA ?_
    refine AC_of Tryd.func56 rfl Tryd.ntmps56 rfl rfl ?_
    repeat' (first | (apply AL_snil ttok; (iterate 5 exact rfl); intro b hbn) | (apply AL_move; exact rfl; exact rfl) | (apply AL_assign; exact rfl; exact rfl) | refine AL_nil ?_ | refine AW_region ?_ | refine AW_seq' ?_ | (apply AW_cond'; exact rfl; all_goals intro hb) | refine then_norm ?_ | refine AW_ret ?_ | refine then_ret ?_ | (apply AL_bs ttok; (iterate 12 exact rfl)) | refine AW_skip ?_ | (apply AL_append_none ttok; (iterate 6 exact rfl)))
    all_goals (apply endQ []; (repeat (first | exact ResL.nil | (apply ResL.cons; first | exact .tmp _ _ rfl | (apply res_n ttok; (iterate 6 exact rfl)) | (apply res_1 ttok; (iterate 5 exact rfl))))); (iterate 4 exact rfl))
    all_goals rfl
  | cons c b =>
    refine AP.ofA ?_
    refine AC_of Tryd.func56 rfl Tryd.ntmps56 rfl rfl ?_
    repeat' (first | (apply AL_snil ttok; (iterate 5 exact rfl); intro b hbn; (have hbn2 := hbn (List.cons_ne_nil _ _)); subst hbn2; clear hbn) | (apply AL_move; exact rfl; exact rfl) | (apply AL_assign; exact rfl; exact rfl) | refine AL_nil ?_ | refine AW_region ?_ | refine AW_seq' ?_ | (apply AW_condB; exact rfl; (first | with_reducible assumption | (guard_target =ₛ true = true; rfl) | (guard_target =ₛ false = false; rfl) | (guard_target =ₛ (!true) = false; rfl) | (guard_target =ₛ (!false) = true; rfl))) | refine then_norm ?_ | refine AW_ret ?_ | (apply AL_bs ttok; (iterate 12 exact rfl)) | refine AW_skip ?_ | (apply AL_append ttok; (iterate 6 exact rfl); (first | with_reducible assumption | exact rfl | rotate_left); exact rfl; exact rfl; (first | exact uniB_ok rfl | with_reducible assumption | rotate_left); (first | exact uniB_ok rfl | with_reducible assumption | rotate_left); (first | exact List.cons_ne_nil _ _ | with_reducible assumption | rotate_left); (first | with_reducible assumption | rotate_left); (first | with_reducible assumption | rotate_left); exact rfl; exact rfl))
    all_goals first | (apply endQ []; (repeat (first | exact ResL.nil | (apply ResL.cons; first | exact .tmp _ _ rfl | (apply res_n ttok; (iterate 6 exact rfl)) | (apply res_1 ttok; (iterate 5 exact rfl))))); (iterate 4 exact rfl)) | skip
    all_goals first | rfl | (simp at hb ⊢; (try unfold maxLen); omega)
theorem av_bEq [Known] (a b : List UInt8) : AP Tryd.prog 54 [byE a, byE b] (.bool (a == b)) [] := by
  refine AP.ofA ?_
  refine AC_of Tryd.func54 rfl Tryd.ntmps54 rfl rfl ?_
  repeat' (first | (apply AL_move; exact rfl; exact rfl) | (apply AL_assign; exact rfl; exact rfl) | refine AL_nil ?_ | refine AW_region ?_ | refine AW_seq' ?_ | refine then_norm ?_ | refine AW_ret ?_ | (apply AL_str; (iterate 5 exact rfl)) | (apply AL_b2s ttok; (iterate 9 exact rfl)))
  all_goals (apply endQ []; (repeat (first | exact ResL.nil | (apply ResL.cons; first | exact .tmp _ _ rfl | (apply res_n ttok; (iterate 6 exact rfl)) | (apply res_1 ttok; (iterate 5 exact rfl))))); (iterate 4 exact rfl))
  all_goals rfl
end Go.Proofs.YtnihobjehelagaaDoor
end
/- Package eid: is a text plain? -/
section
open Go.RowKit Go.Pl Go.Av
namespace Go.Proofs.YtnihobjehelagaaDoor
set_option linter.unusedVariables false
set_option linter.unusedSimpArgs false
set_option maxHeartbeats 1000000
/-- may a byte be, beside m? -/
def okB (m : Nat) (c : UInt8) : Bool := (97 ≤ c.toNat && c.toNat ≤ 122) || (48 ≤ c.toNat && c.toNat ≤ 57) || c.toNat == 45 || c.toNat == m
theorem okB_true {m : Nat} {c : UInt8} : okB m c = true ↔ (97 ≤ (c.toNat : Int) ∧ (c.toNat : Int) ≤ 122) ∨ (48 ≤ (c.toNat : Int) ∧ (c.toNat : Int) ≤ 57) ∨ (c.toNat : Int) = 45 ∨ (c.toNat : Int) = (m : Int) := by
  simp only [okB, Bool.or_eq_true, Bool.and_eq_true, decide_eq_true_eq, beq_iff_eq]
  omega
theorem plain_walk (s : ByteArray) (m : Nat) (hm : m < 128) (w : World) (B : Bool) (hB : s.data.toList.all (okB m) = B) :
    Calls Tryd.prog 68 #[.string s, .int .i32 (m : Int)] w fun e w' => e = .returned (.bool B) ∧ Below w.heap.size w w' := by
  have hT : (∀ j, j < s.size → ∀ c, s.data.toList[j]? = some c → okB m c = true) → B = true := fun h => by
    rw [← hB, List.all_eq_true]
    intro x hx
    obtain ⟨j, hj⟩ := List.getElem?_of_mem hx
    have hlt := (List.getElem?_eq_some_iff.1 hj).1
    exact h j (by simpa using hlt) x hj
  have hF : ∀ (j : Nat) (c : UInt8), s.data.toList[j]? = some c → ¬ okB m c = true → B = false := fun j c hj hc => by
    rw [← hB, List.all_eq_false]
    exact ⟨c, List.mem_of_getElem? hj, hc⟩
  clear hB
  go_enter Tryd.func68, Tryd.ntmps68
  go_wp2
  go_loopw [] (fun w' => ∃ pos, w' = w.iter s pos ∧ pos ≤ s.size ∧ Hid (∀ j, j < pos → ∀ c, s.data.toList[j]? = some c → okB m c = true)) (fun w' => s.size - w'.iterPos w.heap.size)
  case atStart => exact ⟨0, rfl, Nat.zero_le _, fun j hj => by omega⟩
  case round =>
    obtain ⟨pos, rfl, hps, hall⟩ := hrel
    have hb : ∀ p, Below w.heap.size w (w.iter s p) := fun p => (Below.refl _ _).alloc (Nat.le_refl _) _
    by_cases hp : pos < s.size
    · have hget : s.data.toList[pos]? = some (s[pos]'hp) := by
        have hlt : pos < s.data.toList.length := by simpa using hp
        rw [List.getElem?_eq_getElem hlt]; rfl
      by_cases ha : (s[pos]'hp).toNat < 128
      · obtain ⟨c, hc⟩ : ∃ c, c = s[pos]'hp := ⟨_, rfl⟩
        have hnx : ∀ ty, (Instr.next (.pointer (some ⟨w.heap.size, 0, none⟩)) true ty).run Tryd.prog (w.iter s pos) = .ok (.tuple #[.bool true, .int .i64 pos, .int .i32 (c.toNat : Int)]) (w.iter s (pos + 1)) := fun ty => by
          rw [hc]; exact run_next_ascii w s pos ty hp ha
        rw [← hc] at hget ha
        clear hc
        have hbad := hid (hF pos c hget)
        have hstep : Hid (okB m c = true → ∀ j, j < pos + 1 → ∀ c, s.data.toList[j]? = some c → okB m c = true) := fun hc j hj c' hj' => by
          rcases Nat.lt_or_ge j pos with h | h
          · exact hall j h c' hj'
          · have : j = pos := by omega
            subst this
            rw [hget] at hj'
            injection hj' with hj'
            subst hj'
            exact hc
        clear hT hF hget
        go_wp2
        all_goals first
          | (go_ret
             have hBf := hbad (fun h => by rw [okB_true] at h; clear hbad hstep hnx; (try simp only [bne_iff_ne, ne_eq, bne_eq_false_iff_eq] at *); omega)
             subst hBf
             exact ⟨rfl, hb _⟩)
          | (refine ⟨⟨pos + 1, rfl, by omega, hstep ?_⟩, ?_⟩
             · rw [okB_true]
               clear hbad hstep hnx
               try simp only [bne_iff_ne, ne_eq, bne_eq_false_iff_eq] at *
               omega
             · simp; omega)
      · obtain ⟨hd1, hd2⟩ := decode_high s pos hp (by omega)
        have hle := decode_le s pos
        have hnx : ∀ ty, (Instr.next (.pointer (some ⟨w.heap.size, 0, none⟩)) true ty).run Tryd.prog (w.iter s pos) = _ := fun ty => run_next_any w s pos ty hp
        have hBf := hF pos _ hget (fun h => by rw [okB_true] at h; omega)
        clear hT hF hget
        subst hBf
        generalize Utf8.decode s pos = dd at hd1 hd2 hle hnx
        have n1 : ¬ ((dd.1 : Int) < 97) := by omega
        have n2 : ((dd.1 : Int) > 122) := by omega
        have n3 : ¬ ((dd.1 : Int) < 48) := by omega
        have n4 : ((dd.1 : Int) > 57) := by omega
        have n5 : ¬ ((dd.1 : Int) = 45) := by omega
        have n6 : ¬ ((dd.1 : Int) = (m : Int)) := by omega
        go_wp2
        all_goals first
          | (go_ret; exact ⟨rfl, hb _⟩)
          | (exfalso; clear hnx hb hall; (try simp only [bne_iff_ne, ne_eq, bne_eq_false_iff_eq] at *); omega)
    · have hnx : ∀ ty, (Instr.next (.pointer (some ⟨w.heap.size, 0, none⟩)) true ty).run Tryd.prog (w.iter s pos) = _ := fun ty => run_next_end w s pos ty hp
      have hBt := hT (fun j hj => hall j (by omega))
      subst hBt
      go_wp2
      go_ret
      exact ⟨rfl, hb _⟩
end Go.Proofs.YtnihobjehelagaaDoor
end
/- Package eid, package ident: names and numbers, and which is ahead. -/
section
open Go.RowKit Go.Pl Go.Av
namespace Go.Proofs.YtnihobjehelagaaDoor
set_option linter.unusedVariables false
set_option linter.unusedSimpArgs false
set_option maxHeartbeats 1000000
theorem av_plain [Known] (s : List UInt8) (m : Nat) (hm : m < 128) : AP Tryd.prog 68 [.str s, .int .i32 (m : Int)] (.bool (s.all (okB m))) [] := by
  refine ⟨fun g w vs hmem hl hv => ?_⟩
  obtain ⟨v0, v1, rfl⟩ : ∃ v0 v1, vs = [v0, v1] := by
    match vs, hl with
    | [v0, v1], _ => exact ⟨v0, v1, rfl⟩
  have h0 := (hv 0 _ _ rfl rfl).str_inv.1
  have h1 := (hv 1 _ _ rfl rfl).int_inv
  subst h0 h1
  exact (plain_walk ⟨s.toArray⟩ m hm w _ rfl).mono fun e w' ⟨he, hb⟩ => endBelow hmem hb he (.bool _)
structure EidV where
  i : Bool
  n : Nat
  s : Nat
  h : List UInt8
  d : List UInt8
  deriving DecidableEq
abbrev eC (x : EidV) : List D := [.bool x.i, .int .u64 (x.n : Int), .int .u64 (x.s : Int), .str x.h, .str x.d]
def eidZ : EidV := ⟨false, 0, 0, [], []⟩
/-- no name -/
def isZ (x : EidV) : Bool := x.i == false && ((x.n : Int) == 0 && ((x.s : Int) == 0 && (x.h == [] && (x.d == [] && true))))
def classN (x : EidV) : Int := if isZ x then 0 else if x.i then 1 else 2
theorem av_class [Known] (x : EidV) : AP Tryd.prog 69 [.agg (eC x)] (.int .i64 (classN x)) [] := by
  refine AP.ofA ?_
  refine AC_of Tryd.func69 rfl Tryd.ntmps69 rfl rfl ?_
  repeat' (first | (apply AL_assign; exact rfl; exact rfl) | (apply AL_load1 ttok; (iterate 6 exact rfl)) | (apply AL_loadn ttok; (iterate 7 exact rfl)) | (apply AL_fieldAddr ttok; (iterate 7 exact rfl)) | (apply AL_box; (iterate 5 exact rfl)) | refine AL_nil ?_ | refine AW_region ?_ | refine AW_seq' ?_ | (apply AW_cond'; exact rfl; all_goals intro hb) | refine then_norm ?_ | refine AW_block ?_ | refine AW_ret ?_ | refine then_ret ?_ | refine blk_ret ?_ | (apply AL_build ttok; (iterate 6 exact rfl)) | (apply AL_eqS ttok; (iterate 4 exact rfl); (kernel_rfl); (kernel_rfl); (iterate 3 exact rfl)) | refine AW_skip ?_)
  all_goals (apply endQ []; (repeat (first | exact ResL.nil | (apply ResL.cons; first | exact .tmp _ _ rfl | (apply res_n ttok; (iterate 6 exact rfl)) | (apply res_1 ttok; (iterate 5 exact rfl))))); (iterate 4 exact rfl))
  all_goals first | rfl | (congr 1; unfold classN isZ; simp_all)
def lessE (a b : EidV) : Bool :=
  if classN a != classN b then decide (classN a < classN b)
  else if (a.n : Int) != b.n then decide ((a.n : Int) < b.n)
  else if (a.s : Int) != b.s then decide ((a.s : Int) < b.s)
  else if a.h != b.h then Op.bytesLess a.h b.h
  else Op.bytesLess a.d b.d
theorem av_less [Known] (a b : EidV) : AP Tryd.prog 35 [.agg (eC a), .agg (eC b)] (.bool (lessE a b)) [] := by
  refine AP.ofA ?_
  refine AC_of Tryd.func35 rfl Tryd.ntmps35 rfl rfl ?_
  repeat' (first | (apply AL_callPw (av_class a); kernel_rfl; (iterate 4 exact rfl)) | (apply AL_callPw (av_class b); kernel_rfl; (iterate 4 exact rfl)) | (apply AL_assign; exact rfl; exact rfl) | (apply AL_bin; (iterate 5 exact rfl)) | (apply AL_load1 ttok; (iterate 6 exact rfl)) | (apply AL_loadn ttok; (iterate 7 exact rfl)) | (apply AL_fieldAddr ttok; (iterate 7 exact rfl)) | (apply AL_box; (iterate 5 exact rfl)) | refine AL_nil ?_ | refine AW_region ?_ | refine AW_seq' ?_ | (apply AW_cond'; exact rfl; all_goals intro hb) | refine then_norm ?_ | refine AW_block ?_ | refine AW_ret ?_ | refine then_ret ?_ | refine blk_ret ?_ | (apply AL_str; (iterate 5 exact rfl)) | (apply AW_drawM 3 hmix; (decide +kernel); (kernel_rfl); (kernel_rfl); exact rfl; exact rfl) | (apply AD_cons; (iterate 3 exact rfl)) | refine AD.nil _ | exact qp_ok rfl | refine AW_skip ?_)
  all_goals (apply endQ []; (repeat (first | exact ResL.nil | (apply ResL.cons; first | exact .tmp _ _ rfl | (apply res_n ttok; (iterate 6 exact rfl)) | (apply res_1 ttok; (iterate 5 exact rfl))))); (iterate 4 exact rfl))
  all_goals first | rfl | (congr 1; unfold lessE; simp_all)
/-- may a name be? -/
def eRight (x : EidV) : Bool :=
  if isZ x then true
  else if x.i then (x.i == true && ((x.n : Int) == (x.n : Int) && ((x.s : Int) == (x.s : Int) && (x.h == [] && (x.d == [] && true))))) && decide ((x.n : Int) ≥ 1) && decide ((x.n : Int) ≤ 4294967295) && decide ((x.s : Int) ≤ 4294967295)
  else (x.i == false && ((x.n : Int) == 0 && ((x.s : Int) == 0 && (x.h == x.h && (x.d == x.d && true))))) && decide ((x.h.length : Int) ≥ 1) && decide ((x.h.length : Int) ≤ 16) && decide ((x.d.length : Int) ≤ 24) && x.h.all (okB 45) && x.d.all (okB 47)
theorem eRight_Z {x : EidV} (h : isZ x = true) : eRight x = true := by unfold eRight; rw [if_pos h]
theorem eRight_I {x : EidV} (h : isZ x = false) (hi : x.i = true) : eRight x = ((x.i == true && ((x.n : Int) == (x.n : Int) && ((x.s : Int) == (x.s : Int) && (x.h == [] && (x.d == [] && true))))) && decide ((x.n : Int) ≥ 1) && decide ((x.n : Int) ≤ 4294967295) && decide ((x.s : Int) ≤ 4294967295)) := by
  unfold eRight; rw [if_neg (by rw [h]; decide), if_pos hi]
theorem eRight_T {x : EidV} (h : isZ x = false) (hi : x.i = false) : eRight x = ((x.i == false && ((x.n : Int) == 0 && ((x.s : Int) == 0 && (x.h == x.h && (x.d == x.d && true))))) && decide ((x.h.length : Int) ≥ 1) && decide ((x.h.length : Int) ≤ 16) && decide ((x.d.length : Int) ≤ 24) && x.h.all (okB 45) && x.d.all (okB 47)) := by
  unfold eRight; rw [if_neg (by rw [h]; decide), if_neg (by rw [hi]; decide)]
theorem av_eRight [Known] (x : EidV) : AP Tryd.prog 33 [.agg (eC x)] (.bool (eRight x)) [] := by
  refine AP.ofA ?_
  refine AC_of Tryd.func33 rfl Tryd.ntmps33 rfl rfl ?_
  cases hz : isZ x with
  | true =>
    rw [eRight_Z hz]
    unfold isZ at hz
    repeat' (first | (apply AL_assign; exact rfl; exact rfl) | (apply AL_loadn ttok; (iterate 7 exact rfl)) | (apply AL_box; (iterate 5 exact rfl)) | refine AL_nil ?_ | refine AW_region ?_ | refine AW_seq' ?_ | (apply AW_condA; exact rfl; (first | with_reducible assumption | (guard_target =ₛ true = true; rfl) | (guard_target =ₛ false = false; rfl) | (guard_target =ₛ (!true) = false; rfl) | (guard_target =ₛ (!false) = true; rfl))) | refine then_norm ?_ | refine AW_block ?_ | refine AW_ret ?_ | refine then_ret ?_ | refine blk_ret ?_ | (apply AL_build ttok; (iterate 6 exact rfl)) | (apply AL_eqS ttok; (iterate 4 exact rfl); (kernel_rfl); (kernel_rfl); (iterate 3 exact rfl)))
    (apply endQ []; (repeat (first | exact ResL.nil | (apply ResL.cons; first | exact .tmp _ _ rfl | (apply res_n ttok; (iterate 6 exact rfl)) | (apply res_1 ttok; (iterate 5 exact rfl))))); (iterate 4 exact rfl))
    all_goals rfl
  | false =>
    cases hi : x.i with
    | true =>
      rw [eRight_I hz hi]
      unfold isZ at hz
      repeat' (first | (apply AL_move; exact rfl; exact rfl) | (apply AL_assign; exact rfl; exact rfl) | (apply AL_bin; (iterate 5 exact rfl)) | (apply AL_load1 ttok; (iterate 6 exact rfl)) | (apply AL_loadn ttok; (iterate 7 exact rfl)) | (apply AL_fieldAddr ttok; (iterate 7 exact rfl)) | (apply AL_box; (iterate 5 exact rfl)) | refine AL_nil ?_ | (apply AL_guardT; (iterate 3 exact rfl); (first | with_reducible assumption | (guard_target =ₛ true = true; rfl) | (guard_target =ₛ false = false; rfl) | (guard_target =ₛ (!true) = false; rfl) | (guard_target =ₛ (!false) = true; rfl))) | (apply AL_guardFt; (iterate 3 exact rfl); (first | with_reducible assumption | (guard_target =ₛ true = true; rfl) | (guard_target =ₛ false = false; rfl) | (guard_target =ₛ (!true) = false; rfl) | (guard_target =ₛ (!false) = true; rfl))) | (apply AL_guardS; exact rfl; exact rfl; all_goals intro hb) | (apply AL_pickT; exact rfl; (first | with_reducible assumption | (guard_target =ₛ true = true; rfl) | (guard_target =ₛ false = false; rfl) | (guard_target =ₛ (!true) = false; rfl) | (guard_target =ₛ (!false) = true; rfl)); exact rfl; exact rfl) | (apply AL_pickF; exact rfl; (first | with_reducible assumption | (guard_target =ₛ true = true; rfl) | (guard_target =ₛ false = false; rfl) | (guard_target =ₛ (!true) = false; rfl) | (guard_target =ₛ (!false) = true; rfl)); exact rfl; exact rfl) | refine AW_region ?_ | refine AW_seq' ?_ | (apply AW_condA; exact rfl; (first | with_reducible assumption | (guard_target =ₛ true = true; rfl) | (guard_target =ₛ false = false; rfl) | (guard_target =ₛ (!true) = false; rfl) | (guard_target =ₛ (!false) = true; rfl))) | (apply AW_condB; exact rfl; (first | with_reducible assumption | (guard_target =ₛ true = true; rfl) | (guard_target =ₛ false = false; rfl) | (guard_target =ₛ (!true) = false; rfl) | (guard_target =ₛ (!false) = true; rfl))) | refine then_norm ?_ | refine AW_block ?_ | refine AW_ret ?_ | refine then_ret ?_ | refine blk_ret ?_ | (apply AL_build ttok; (iterate 6 exact rfl)) | (apply AL_eqS ttok; (iterate 4 exact rfl); (kernel_rfl); (kernel_rfl); (iterate 3 exact rfl)))
      all_goals (apply endQ []; (repeat (first | exact ResL.nil | (apply ResL.cons; first | exact .tmp _ _ rfl | (apply res_n ttok; (iterate 6 exact rfl)) | (apply res_1 ttok; (iterate 5 exact rfl))))); (iterate 4 exact rfl))
      all_goals first | rfl | (clear hi hz; simp only [*]; done) | (clear hi hz; simp only [*]; simp only [Bool.and_true, Bool.true_and, Bool.and_false, Bool.false_and]; done)
    | false =>
      rw [eRight_T hz hi]
      unfold isZ at hz
      repeat' (first | (apply AL_callPw (av_plain x.h 45 (by decide)); kernel_rfl; (iterate 4 exact rfl)) | (apply AL_callPw (av_plain x.d 47 (by decide)); kernel_rfl; (iterate 4 exact rfl)) | (apply AL_move; exact rfl; exact rfl) | (apply AL_assign; exact rfl; exact rfl) | (apply AL_bin; (iterate 5 exact rfl)) | (apply AL_load1 ttok; (iterate 6 exact rfl)) | (apply AL_loadn ttok; (iterate 7 exact rfl)) | (apply AL_fieldAddr ttok; (iterate 7 exact rfl)) | (apply AL_box; (iterate 5 exact rfl)) | refine AL_nil ?_ | (apply AL_guardT; (iterate 3 exact rfl); (first | with_reducible assumption | (guard_target =ₛ true = true; rfl) | (guard_target =ₛ false = false; rfl) | (guard_target =ₛ (!true) = false; rfl) | (guard_target =ₛ (!false) = true; rfl))) | (apply AL_guardFt; (iterate 3 exact rfl); (first | with_reducible assumption | (guard_target =ₛ true = true; rfl) | (guard_target =ₛ false = false; rfl) | (guard_target =ₛ (!true) = false; rfl) | (guard_target =ₛ (!false) = true; rfl))) | (apply AL_guardS; exact rfl; exact rfl; all_goals intro hb) | (apply AL_pickT; exact rfl; (first | with_reducible assumption | (guard_target =ₛ true = true; rfl) | (guard_target =ₛ false = false; rfl) | (guard_target =ₛ (!true) = false; rfl) | (guard_target =ₛ (!false) = true; rfl)); exact rfl; exact rfl) | (apply AL_pickF; exact rfl; (first | with_reducible assumption | (guard_target =ₛ true = true; rfl) | (guard_target =ₛ false = false; rfl) | (guard_target =ₛ (!true) = false; rfl) | (guard_target =ₛ (!false) = true; rfl)); exact rfl; exact rfl) | refine AW_region ?_ | refine AW_seq' ?_ | (apply AW_condB; exact rfl; (first | with_reducible assumption | (guard_target =ₛ true = true; rfl) | (guard_target =ₛ false = false; rfl) | (guard_target =ₛ (!true) = false; rfl) | (guard_target =ₛ (!false) = true; rfl))) | refine then_norm ?_ | refine AW_block ?_ | refine AW_ret ?_ | (apply AL_lens ttok; (iterate 4 exact rfl)) | (apply AL_build ttok; (iterate 6 exact rfl)) | (apply AL_eqS ttok; (iterate 4 exact rfl); (kernel_rfl); (kernel_rfl); (iterate 3 exact rfl)) | refine AW_skip ?_)
      all_goals (apply endQ []; (repeat (first | exact ResL.nil | (apply ResL.cons; first | exact .tmp _ _ rfl | (apply res_n ttok; (iterate 6 exact rfl)) | (apply res_1 ttok; (iterate 5 exact rfl))))); (iterate 4 exact rfl))
      all_goals first | rfl | (clear hi hz; simp only [*]; done) | (clear hi hz; simp only [*]; simp only [Bool.and_true, Bool.true_and, Bool.and_false, Bool.false_and]; done)
end Go.Proofs.YtnihobjehelagaaDoor
end
/- Arguments: structs of five fields; names and numbers of bundles. -/
section
open Go.RowKit Go.Pl
namespace Go.Pl
set_option linter.unusedSimpArgs false
set_option linter.unusedVariables false
variable {P : Program} {t : TypeId}
theorem opens_prod5 {α β γ δ ε : Type} {R0 : Rep α} {R1 : Rep β} {R2 : Rep γ} {R3 : Rep δ} {R4 : Rep ε} {fs : Array Field} {f0 f1 f2 f3 f4 : Field} (hs : P.underlying t = some (.struct fs)) (hfs : fs = #[f0, f1, f2, f3, f4])
    (h00 : f0.offset = 0) (h01 : f1.offset = R0.n) (h02 : f2.offset = R0.n + R1.n) (h03 : f3.offset = R0.n + R1.n + R2.n) (h04 : f4.offset = R0.n + R1.n + R2.n + R3.n)
    (hc0 : P.cellsOf f0.type = R0.n) (hc1 : P.cellsOf f1.type = R1.n) (hc2 : P.cellsOf f2.type = R2.n) (hc3 : P.cellsOf f3.type = R3.n) (hc4 : P.cellsOf f4.type = R4.n) (hc : P.cellsOf t = R0.n + (R1.n + (R2.n + (R3.n + R4.n))))
    (h0 : Opens P f0.type R0) (h1 : Opens P f1.type R1) (h2 : Opens P f2.type R2) (h3 : Opens P f3.type R3) (h4 : Opens P f4.type R4) : Opens P t (R0.prod (R1.prod (R2.prod (R3.prod R4)))) := by
  intro H enc W spare held fuel cs y h
  obtain ⟨xs, n, _, _, hl, hxl, hg⟩ := DataW.trod_struct hs h
  subst hfs
  have e0 := hg 0 f0 rfl
  have e1 := hg 1 f1 rfl
  have e2 := hg 2 f2 rfl
  have e3 := hg 3 f3 rfl
  have e4 := hg 4 f4 rfl
  rw [h00, hc0, List.drop_zero] at e0
  rw [h01, hc1] at e1
  rw [h02, hc2] at e2
  rw [h03, hc3] at e3
  rw [h04, hc4] at e4
  have hn : xs.length = 5 := hxl
  have hx0 : xs[0]? = some (xs[0]'(by omega)) := List.getElem?_eq_getElem (by omega)
  have hx1 : xs[1]? = some (xs[1]'(by omega)) := List.getElem?_eq_getElem (by omega)
  have hx2 : xs[2]? = some (xs[2]'(by omega)) := List.getElem?_eq_getElem (by omega)
  have hx3 : xs[3]? = some (xs[3]'(by omega)) := List.getElem?_eq_getElem (by omega)
  have hx4 : xs[4]? = some (xs[4]'(by omega)) := List.getElem?_eq_getElem (by omega)
  obtain ⟨x0, k0⟩ := h0 H enc W spare held n _ _ (e0.trans hx0)
  obtain ⟨x1, k1⟩ := h1 H enc W spare held n _ _ (e1.trans hx1)
  obtain ⟨x2, k2⟩ := h2 H enc W spare held n _ _ (e2.trans hx2)
  obtain ⟨x3, k3⟩ := h3 H enc W spare held n _ _ (e3.trans hx3)
  obtain ⟨x4, k4⟩ := h4 H enc W spare held n _ _ (e4.trans hx4)
  refine ⟨(x0, x1, x2, x3, x4), cs.take R0.n, cs.drop R0.n, (List.take_append_drop _ _).symm, k0, (cs.drop R0.n).take R1.n, (cs.drop R0.n).drop R1.n, (List.take_append_drop _ _).symm, k1,
    ((cs.drop R0.n).drop R1.n).take R2.n, ((cs.drop R0.n).drop R1.n).drop R2.n, (List.take_append_drop _ _).symm, ?_, (((cs.drop R0.n).drop R1.n).drop R2.n).take R3.n, (((cs.drop R0.n).drop R1.n).drop R2.n).drop R3.n, (List.take_append_drop _ _).symm, ?_, ?_⟩
  · rw [List.drop_drop]; exact k2
  · rw [List.drop_drop, List.drop_drop, show R0.n + (R1.n + R2.n) = R0.n + R1.n + R2.n from by omega]; exact k3
  · rw [List.drop_drop, List.drop_drop, List.drop_drop, show R0.n + (R1.n + (R2.n + R3.n)) = R0.n + R1.n + R2.n + R3.n from by omega]
    rw [List.take_of_length_le (i := R4.n) (by rw [List.length_drop]; omega)] at k4
    exact k4
/-- a name's cells -/
abbrev RE : Rep (Bool × Nat × Nat × List UInt8 × List UInt8) := Rep.bool.prod (Rep.u64.prod (Rep.u64.prod (Rep.str.prod Rep.str)))
/-- a number's cells -/
abbrev RI : Rep ((Bool × Nat × Nat × List UInt8 × List UInt8) × Nat × Nat) := RE.prod (Rep.u64.prod Rep.u64)
end Go.Pl
end
/- Arguments of this seat: names and numbers of bundles, opened. -/
section
open Go.RowKit Go.Pl
namespace Go.Proofs.YtnihobjehelagaaDoor
theorem openE : Opens Tryd.prog 51 RE :=
  opens_prod5 Tryd.underlying51 rfl rfl rfl rfl rfl rfl (by kernel_rfl) (by kernel_rfl) (by kernel_rfl) (by kernel_rfl) (by kernel_rfl) (by kernel_rfl) (opens_bool Tryd.underlying4) (opens_u64 Tryd.underlying22) (opens_u64 Tryd.underlying22) (opens_str Tryd.underlying9) (opens_str Tryd.underlying9)
theorem openI : Opens Tryd.prog 53 RI :=
  opens_prod3 Tryd.underlying53 rfl (by kernel_rfl) rfl rfl rfl (by kernel_rfl) (by kernel_rfl) (by kernel_rfl) openE (opens_u64 Tryd.underlying22) (opens_u64 Tryd.underlying22)
end Go.Proofs.YtnihobjehelagaaDoor
end
/- Names: equal ones; a name as an argument. -/
section
open Go.RowKit Go.Pl Go.Av
namespace Go.Proofs.YtnihobjehelagaaDoor
set_option linter.unusedVariables false
set_option linter.unusedSimpArgs false
set_option maxHeartbeats 4000000
abbrev eqE (a b : EidV) : Bool := a.i == b.i && ((a.n : Int) == (b.n : Int) && ((a.s : Int) == (b.s : Int) && (a.h == b.h && (a.d == b.d && true))))
theorem eqE_iff {a b : EidV} : eqE a b = true ↔ a = b := by
  obtain ⟨i, n, s, h, d⟩ := a
  obtain ⟨i', n', s', h', d'⟩ := b
  simp only [eqE, Bool.and_eq_true, beq_iff_eq, EidV.mk.injEq]
  constructor
  · rintro ⟨h1, h2, h3, h4, h5, _⟩
    exact ⟨h1, by omega, by omega, h4, h5⟩
  · rintro ⟨h1, h2, h3, h4, h5⟩
    exact ⟨h1, by omega, by omega, h4, h5, trivial⟩
theorem toE_eid : ToE RE (fun x => .agg [.bool x.1, .int .u64 (x.2.1 : Int), .int .u64 (x.2.2.1 : Int), .str x.2.2.2.1, .str x.2.2.2.2]) :=
  ToE.bool.prod (ToE.u64.prod (ToE.u64.prod (ToE.str.prod ToE.str)))
abbrev XE := Bool × Nat × Nat × List UInt8 × List UInt8
def XE.v (x : XE) : EidV := ⟨x.1, x.2.1, x.2.2.1, x.2.2.2.1, x.2.2.2.2⟩
theorem eid_V [Known] {W : World} {cs : List Value} {x : XE} (h : RE.ok W (· < W.heap.size) cs x) : V W (g0 W) [] (.agg (eC x.v)) (.agg cs.toArray) :=
  toE_eid.agg (l := [.bool x.1, .int .u64 (x.2.1 : Int), .int .u64 (x.2.2.1 : Int), .str x.2.2.2.1, .str x.2.2.2.2]) rfl h
end Go.Proofs.YtnihobjehelagaaDoor
end
