/-
  Lemmas of this claim: a layer over the kit's calls, contracts of the functions that the law reaches, and the law's row. No condition of its own.
-/
import Derived.Test.YtjfhbchfhpgefaaGreatDoorProg
import Derived.Test.YtjfhbchfhpgefaaGreatDoorLbDirtyForms
import Derived.Shelf.Abstract
import Derived.Test.YtjfhbchfhpgefaaGreatDoorSh
set_option linter.unusedSimpArgs false
set_option linter.unusedVariables false
set_option maxRecDepth 20000
namespace Go.Lift
open Go Go.RowKit
def AU:Ep:=[
 (1,⟨1,8,.nilf,.other⟩),
 (2,⟨1,8,.i .i64 0,.int .i64⟩),
 (3,⟨1,8,.i .i64 0,.int .i64⟩),
 (4,⟨1,1,.b false,.bool⟩),
 (5,⟨1,1,.i .u8 0,.int .u8⟩),
 (6,⟨1,1,.i .u8 0,.int .u8⟩),
 (7,⟨4,24,.st [.i .i64 0,.i .i64 0,.b false,.i .u8 0],.struct [(0,2),(1,3),(2,4),(3,6)]⟩),
 (8,⟨4,24,.st [.i .i64 0,.i .i64 0,.b false,.i .u8 0],.struct [(0,2),(1,3),(2,4),(3,6)]⟩),
 (9,⟨1,16,.s ⟨#[]⟩,.str⟩),
 (10,⟨1,16,.s ⟨#[]⟩,.str⟩),
 (11,⟨1,16,.s ⟨#[]⟩,.str⟩),
 (12,⟨1,8,.i .u64 0,.int .u64⟩),
 (13,⟨2,24,.st [.s ⟨#[]⟩,.i .u64 0],.struct [(0,9),(1,12)]⟩),
 (14,⟨2,24,.st [.s ⟨#[]⟩,.i .u64 0],.struct [(0,9),(1,12)]⟩),
 (15,⟨1,8,.nilp,.other⟩),
 (16,⟨1,8,.nilp,.other⟩),
 (17,⟨1,8,.nilp,.other⟩),
 (18,⟨1,8,.st [.nilp],.struct [(0,17)]⟩),
 (19,⟨1,8,.st [.nilp],.struct [(0,17)]⟩),
 (21,⟨1,4,.i .i32 0,.int .i32⟩),
 (22,⟨1,24,.sl 7 true [],.slice 65⟩),
 (23,⟨1,24,.sl 2 true [],.slice 122⟩),
 (24,⟨1,24,.sl 1 true [],.slice 9⟩),
 (25,⟨3,72,.st [.sl 7 true [],.sl 2 true [],.sl 1 true []],.struct [(0,22),(1,23),(2,24)]⟩),
 (26,⟨3,72,.st [.sl 7 true [],.sl 2 true [],.sl 1 true []],.struct [(0,22),(1,23),(2,24)]⟩),
 (27,⟨1,24,.sl 3 true [],.slice 67⟩),
 (28,⟨1,24,.sl 3 true [],.slice 85⟩),
 (29,⟨2,32,.st [.i .i64 0,.sl 3 true []],.struct [(0,3),(1,28)]⟩),
 (30,⟨2,32,.st [.i .i64 0,.sl 3 true []],.struct [(0,3),(1,28)]⟩),
 (31,⟨1,24,.sl 3 true [],.slice 56⟩),
 (32,⟨1,24,.sl 3 true [],.slice 61⟩),
 (33,⟨1,24,.sl 1 true [],.slice 3⟩),
 (34,⟨11,216,.st [.sl 7 true [],.sl 2 true [],.sl 1 true [],.sl 3 true [],.i .i64 0,.sl 3 true [],.sl 3 true [],.sl 3 true [],.i .i64 0,.b false,.sl 1 true []],.struct [(0,26),(3,27),(4,30),(6,31),(7,32),(8,3),(9,4),(10,33)]⟩),
 (35,⟨11,216,.st [.sl 7 true [],.sl 2 true [],.sl 1 true [],.sl 3 true [],.i .i64 0,.sl 3 true [],.sl 3 true [],.sl 3 true [],.i .i64 0,.b false,.sl 1 true []],.struct [(0,26),(3,27),(4,30),(6,31),(7,32),(8,3),(9,4),(10,33)]⟩),
 (36,⟨1,8,.nilf,.other⟩),
 (37,⟨1,8,.i .i64 0,.int .i64⟩),
 (39,⟨1,8,.nilf,.other⟩),
 (41,⟨1,8,.nilf,.other⟩),
 (42,⟨1,24,.sl 1 true [],.slice 4⟩),
 (44,⟨1,8,.nilf,.other⟩),
 (46,⟨1,8,.nilf,.other⟩),
 (47,⟨1,8,.nilf,.other⟩),
 (48,⟨1,8,.nilf,.other⟩),
 (49,⟨1,8,.nilf,.other⟩),
 (50,⟨1,8,.nilf,.other⟩),
 (51,⟨1,8,.nilf,.other⟩),
 (52,⟨1,8,.nilf,.other⟩),
 (53,⟨1,8,.nilf,.other⟩),
 (54,⟨1,8,.i .u64 0,.int .u64⟩),
 (55,⟨3,40,.st [.s ⟨#[]⟩,.i .i64 0,.s ⟨#[]⟩],.struct [(0,9),(1,3),(2,9)]⟩),
 (56,⟨3,40,.st [.s ⟨#[]⟩,.i .i64 0,.s ⟨#[]⟩],.struct [(0,9),(1,3),(2,9)]⟩),
 (58,⟨1,8,.nilf,.other⟩),
 (59,⟨1,8,.nilf,.other⟩),
 (60,⟨3,48,.st [.s ⟨#[]⟩,.i .i64 0,.sl 1 true []],.struct [(0,9),(1,3),(2,24)]⟩),
 (61,⟨3,48,.st [.s ⟨#[]⟩,.i .i64 0,.sl 1 true []],.struct [(0,9),(1,3),(2,24)]⟩),
 (62,⟨1,8,.nilf,.other⟩),
 (63,⟨1,24,.sl 1 true [],.slice 42⟩),
 (64,⟨7,136,.st [.sl 1 true [],.sl 1 true [],.sl 1 true [],.sl 1 true [],.s ⟨#[]⟩,.b false,.s ⟨#[]⟩],.struct [(0,24),(1,24),(2,24),(3,24),(4,9),(5,4),(6,9)]⟩),
 (65,⟨7,136,.st [.sl 1 true [],.sl 1 true [],.sl 1 true [],.sl 1 true [],.s ⟨#[]⟩,.b false,.s ⟨#[]⟩],.struct [(0,24),(1,24),(2,24),(3,24),(4,9),(5,4),(6,9)]⟩),
 (66,⟨3,48,.st [.s ⟨#[]⟩,.sl 1 true [],.b false],.struct [(0,9),(1,24),(2,4)]⟩),
 (67,⟨3,48,.st [.s ⟨#[]⟩,.sl 1 true [],.b false],.struct [(0,9),(1,24),(2,4)]⟩),
 (68,⟨1,8,.nilf,.other⟩),
 (69,⟨1,8,.nilf,.other⟩),
 (71,⟨1,8,.nilf,.other⟩),
 (72,⟨1,8,.nilf,.other⟩),
 (74,⟨1,8,.nilf,.other⟩),
 (76,⟨1,8,.nilf,.other⟩),
 (77,⟨1,8,.nilf,.other⟩),
 (78,⟨1,8,.nilf,.other⟩),
 (79,⟨1,8,.nilf,.other⟩),
 (80,⟨1,8,.nilf,.other⟩),
 (81,⟨1,8,.nilf,.other⟩),
 (83,⟨1,8,.nilf,.other⟩),
 (84,⟨3,32,.st [.s ⟨#[]⟩,.i .i64 0,.i .i64 0],.struct [(0,9),(1,3),(2,3)]⟩),
 (85,⟨3,32,.st [.s ⟨#[]⟩,.i .i64 0,.i .i64 0],.struct [(0,9),(1,3),(2,3)]⟩),
 (87,⟨1,8,.nilf,.other⟩),
 (88,⟨1,8,.nilf,.other⟩),
 (89,⟨1,8,.nilf,.other⟩),
 (90,⟨1,8,.nilf,.other⟩),
 (92,⟨1,8,.nilf,.other⟩),
 (93,⟨1,8,.nilf,.other⟩),
 (94,⟨1,8,.nilf,.other⟩),
 (95,⟨1,8,.nilf,.other⟩),
 (96,⟨1,8,.nilf,.other⟩),
 (97,⟨1,8,.nilf,.other⟩),
 (98,⟨1,8,.nilf,.other⟩),
 (99,⟨1,8,.nilf,.other⟩),
 (100,⟨1,8,.nilf,.other⟩),
 (101,⟨1,8,.nilp,.other⟩),
 (102,⟨1,8,.nilp,.other⟩),
 (103,⟨2,16,.st [.nilp,.nilp],.struct [(0,101),(1,102)]⟩),
 (104,⟨2,16,.st [.nilp,.nilp],.struct [(0,101),(1,102)]⟩),
 (105,⟨1,8,.nilf,.other⟩),
 (106,⟨1,8,.nilf,.other⟩),
 (107,⟨1,8,.nilf,.other⟩),
 (108,⟨1,8,.nilf,.other⟩),
 (109,⟨1,8,.nilf,.other⟩),
 (111,⟨1,8,.nilf,.other⟩),
 (112,⟨1,8,.nilf,.other⟩),
 (113,⟨1,8,.nilp,.other⟩),
 (114,⟨1,8,.nilf,.other⟩),
 (115,⟨1,8,.nilf,.other⟩),
 (116,⟨1,8,.nilf,.other⟩),
 (117,⟨1,8,.nilf,.other⟩),
 (118,⟨1,8,.nilf,.other⟩),
 (119,⟨1,8,.nilf,.other⟩),
 (120,⟨1,8,.nilf,.other⟩),
 (121,⟨2,24,.st [.s ⟨#[]⟩,.i .i64 0],.struct [(0,9),(1,3)]⟩),
 (122,⟨2,24,.st [.s ⟨#[]⟩,.i .i64 0],.struct [(0,9),(1,3)]⟩),
 (123,⟨1,8,.nilf,.other⟩),
 (124,⟨1,8,.nilf,.other⟩),
 (125,⟨1,8,.nilf,.other⟩),
 (126,⟨1,8,.nilf,.other⟩),
 (127,⟨1,8,.nilf,.other⟩),
 (128,⟨1,8,.nilf,.other⟩),
 (129,⟨1,8,.nilf,.other⟩),
 (130,⟨1,8,.nilf,.other⟩),
 (131,⟨1,8,.nilf,.other⟩),
 (132,⟨1,8,.nilf,.other⟩),
 (133,⟨1,8,.nilf,.other⟩),
 (134,⟨1,8,.nilf,.other⟩),
 (136,⟨1,8,.nilf,.other⟩),
 (137,⟨1,8,.nilf,.other⟩),
 (138,⟨1,8,.nilf,.other⟩),
 (139,⟨1,8,.nilf,.other⟩),
 (140,⟨1,24,.sl 1 true [],.slice 24⟩),
 (141,⟨1,8,.nilf,.other⟩),
 (142,⟨1,8,.nilf,.other⟩),
 (143,⟨1,8,.nilf,.other⟩),
 (145,⟨1,8,.nilf,.other⟩),
 (147,⟨1,8,.nilf,.other⟩),
 (148,⟨1,8,.nilf,.other⟩),
 (149,⟨1,8,.nilf,.other⟩),
 (150,⟨1,24,.sl 1 true [],.slice 33⟩),
 (151,⟨1,8,.nilf,.other⟩),
 (152,⟨1,8,.nilf,.other⟩),
 (153,⟨1,8,.nilf,.other⟩),
 (154,⟨1,8,.nilf,.other⟩),
 (155,⟨1,8,.nilf,.other⟩),
 (156,⟨1,8,.nilf,.other⟩),
 (157,⟨1,8,.nilf,.other⟩),
 (158,⟨1,8,.nilf,.other⟩),
 (159,⟨1,8,.nilf,.other⟩),
 (160,⟨1,8,.nilf,.other⟩),
 (161,⟨1,8,.nilf,.other⟩),
 (162,⟨1,8,.nilf,.other⟩),
 (163,⟨1,8,.nilf,.other⟩),
 (164,⟨1,8,.nilf,.other⟩),
 (165,⟨1,8,.nilf,.other⟩),
 (167,⟨1,8,.nilf,.other⟩),
 (168,⟨1,8,.nilf,.other⟩),
 (169,⟨1,8,.nilf,.other⟩),
 (170,⟨1,24,.sl 1 true [],.slice 5⟩),
 (172,⟨1,8,.nilf,.other⟩),
 (173,⟨1,8,.nilp,.other⟩),
 (174,⟨1,8,.nilf,.other⟩),
 (175,⟨1,8,.nilf,.other⟩),
 (176,⟨1,8,.nilf,.other⟩),
 (177,⟨1,8,.nilf,.other⟩),
 (179,⟨1,8,.nilf,.other⟩),
 (180,⟨6,72,.st [.i .i64 0,.s ⟨#[]⟩,.i .i64 0,.sl 1 true [],.i .i64 0,.i .i64 0],.struct [(0,3),(1,9),(2,3),(3,24),(4,3),(5,3)]⟩),
 (181,⟨6,72,.st [.i .i64 0,.s ⟨#[]⟩,.i .i64 0,.sl 1 true [],.i .i64 0,.i .i64 0],.struct [(0,3),(1,9),(2,3),(3,24),(4,3),(5,3)]⟩),
 (182,⟨1,8,.nilf,.other⟩),
 (183,⟨1,8,.nilf,.other⟩),
 (184,⟨1,8,.nilf,.other⟩),
 (185,⟨1,8,.nilf,.other⟩),
 (187,⟨1,8,.nilf,.other⟩),
 (188,⟨1,8,.nilf,.other⟩),
 (189,⟨1,8,.nilf,.other⟩),
 (190,⟨1,8,.nilf,.other⟩),
 (191,⟨1,8,.nilf,.other⟩),
 (192,⟨1,8,.nilf,.other⟩),
 (193,⟨1,8,.nilf,.other⟩),
 (194,⟨1,8,.nilf,.other⟩),
 (195,⟨1,8,.nilf,.other⟩),
 (196,⟨1,8,.nilf,.other⟩),
 (197,⟨1,8,.nilf,.other⟩),
 (198,⟨1,8,.nilf,.other⟩),
 (199,⟨1,8,.nilf,.other⟩),
 (200,⟨1,8,.nilf,.other⟩),
 (201,⟨1,8,.nilf,.other⟩),
 (202,⟨1,8,.nilf,.other⟩),
 (203,⟨1,8,.nilf,.other⟩),
 (204,⟨1,8,.nilf,.other⟩),
 (205,⟨1,8,.i .i64 0,.int .i64⟩),
 (207,⟨1,8,.nilf,.other⟩),
 (208,⟨1,8,.nilf,.other⟩),
 (209,⟨1,8,.nilf,.other⟩),
 (210,⟨1,8,.nilf,.other⟩),
 (211,⟨1,8,.nilf,.other⟩),
 (212,⟨1,8,.nilf,.other⟩),
 (213,⟨1,4,.i .u32 0,.int .u32⟩),
 (214,⟨1,8,.nilf,.other⟩),
 (215,⟨1,8,.i .u64 0,.int .u64⟩),
 (217,⟨1,8,.nilf,.other⟩),
 (218,⟨1,8,.nilf,.other⟩),
 (219,⟨1,8,.nilf,.other⟩),
 (220,⟨1,8,.nilf,.other⟩),
 (221,⟨1,8,.nilf,.other⟩),
 (222,⟨1,8,.nilf,.other⟩),
 (223,⟨1,8,.nilf,.other⟩),
 (224,⟨1,8,.nilf,.other⟩),
 (225,⟨1,8,.nilf,.other⟩),
 (226,⟨1,8,.nilf,.other⟩),
 (227,⟨1,8,.nilf,.other⟩),
 (228,⟨1,8,.nilf,.other⟩),
 (229,⟨1,8,.i .u64 0,.int .u64⟩),
 (230,⟨1,8,.nilf,.other⟩),
 (231,⟨1,8,.nilf,.other⟩),
 (232,⟨1,8,.nilf,.other⟩),
 (233,⟨1,8,.nilp,.other⟩),
 (234,⟨1,8,.nilf,.other⟩),
 (235,⟨1,8,.nilf,.other⟩),
 (236,⟨1,8,.nilf,.other⟩),
 (237,⟨1,8,.nilf,.other⟩),
 (238,⟨1,8,.nilp,.other⟩),
 (239,⟨2,32,.st [.nilp,.sl 1 true []],.struct [(0,238),(1,170)]⟩),
 (240,⟨2,32,.st [.nilp,.sl 1 true []],.struct [(0,238),(1,170)]⟩),
 (241,⟨1,8,.nilf,.other⟩),
 (245,⟨1,8,.nilf,.other⟩),
 (246,⟨1,8,.nilf,.other⟩),
 (247,⟨1,8,.nilf,.other⟩),
 (248,⟨1,8,.nilf,.other⟩),
 (249,⟨1,8,.nilf,.other⟩),
 (250,⟨1,8,.nilf,.other⟩),
 (251,⟨1,8,.nilf,.other⟩),
 (252,⟨1,8,.nilf,.other⟩),
 (253,⟨1,8,.nilf,.other⟩),
 (254,⟨1,8,.nilf,.other⟩),
 (255,⟨1,8,.nilf,.other⟩),
 (256,⟨1,8,.nilp,.other⟩),
 (258,⟨1,8,.nilf,.other⟩),
 (259,⟨1,8,.nilf,.other⟩),
 (260,⟨1,8,.nilf,.other⟩),
 (261,⟨1,8,.nilf,.other⟩),
 (263,⟨1,8,.nilf,.other⟩),
 (265,⟨1,8,.nilf,.other⟩),
 (266,⟨1,8,.nilp,.other⟩),
 (267,⟨1,8,.nilf,.other⟩),
 (268,⟨1,8,.nilf,.other⟩),
 (269,⟨1,8,.nilf,.other⟩),
 (270,⟨1,8,.nilf,.other⟩),
 (272,⟨1,8,.nilf,.other⟩),
 (273,⟨1,8,.nilf,.other⟩),
 (274,⟨1,8,.nilf,.other⟩),
 (275,⟨1,8,.nilf,.other⟩),
 (276,⟨1,8,.nilf,.other⟩),
 (278,⟨1,8,.nilf,.other⟩),
 (279,⟨1,8,.nilf,.other⟩),
 (280,⟨1,8,.nilf,.other⟩),
 (282,⟨2,2,.st [.i .u8 0,.i .u8 0],.struct [(0,5),(1,5)]⟩),
 (283,⟨2,2,.st [.i .u8 0,.i .u8 0],.struct [(0,5),(1,5)]⟩),
 (284,⟨32,32,.st [.i .u8 0,.i .u8 0,.i .u8 0,.i .u8 0,.i .u8 0,.i .u8 0,.i .u8 0,.i .u8 0,.i .u8 0,.i .u8 0,.i .u8 0,.i .u8 0,.i .u8 0,.i .u8 0,.i .u8 0,.i .u8 0,.i .u8 0,.i .u8 0,.i .u8 0,.i .u8 0,.i .u8 0,.i .u8 0,.i .u8 0,.i .u8 0,.i .u8 0,.i .u8 0,.i .u8 0,.i .u8 0,.i .u8 0,.i .u8 0,.i .u8 0,.i .u8 0],.arr 16 283⟩),
 (286,⟨1,8,.nilf,.other⟩),
 (287,⟨4,40,.st [.nilp,.nilp,.nilp,.s ⟨#[]⟩],.struct [(0,17),(1,17),(2,17),(3,9)]⟩),
 (288,⟨4,40,.st [.nilp,.nilp,.nilp,.s ⟨#[]⟩],.struct [(0,17),(1,17),(2,17),(3,9)]⟩),
 (289,⟨0,0,.st [],.arr 0 16⟩),
 (290,⟨0,0,.st [],.struct [(0,289)]⟩),
 (291,⟨0,0,.st [],.struct [(0,289)]⟩),
 (292,⟨1,1,.i .u8 0,.int .u8⟩),
 (293,⟨1,1,.i .u8 0,.int .u8⟩),
 (294,⟨1,8,.nilf,.other⟩),
 (295,⟨1,4,.i .i32 0,.int .i32⟩),
 (296,⟨1,4,.i .i32 0,.int .i32⟩),
 (297,⟨11,48,.st [.i .u64 0,.i .u64 0,.i .u32 0,.i .u8 0,.i .u8 0,.i .u8 0,.i .u8 0,.nilf,.nilp,.i .i32 0,.i .i32 0],.struct [(0,12),(1,12),(2,213),(3,292),(4,5),(5,5),(6,293),(7,294),(8,266),(9,295),(10,296)]⟩),
 (298,⟨11,48,.st [.i .u64 0,.i .u64 0,.i .u32 0,.i .u8 0,.i .u8 0,.i .u8 0,.i .u8 0,.nilf,.nilp,.i .i32 0,.i .i32 0],.struct [(0,12),(1,12),(2,213),(3,292),(4,5),(5,5),(6,293),(7,294),(8,266),(9,295),(10,296)]⟩)]
theorem A6:Dh Go.Proofs.Tryz.prog AU=true:=by kernel_rfl
theorem E5:Go.Proofs.Tryz.prog.follows .mixedOrders=true:=by kernel_rfl
theorem tt1:AJ AU 1=some ⟨1,8,.nilf,.other⟩:=rfl
theorem tt2:AJ AU 2=some ⟨1,8,.i .i64 0,.int .i64⟩:=rfl
theorem tt3:AJ AU 3=some ⟨1,8,.i .i64 0,.int .i64⟩:=rfl
theorem tt4:AJ AU 4=some ⟨1,1,.b false,.bool⟩:=rfl
theorem tt5:AJ AU 5=some ⟨1,1,.i .u8 0,.int .u8⟩:=rfl
theorem tt6:AJ AU 6=some ⟨1,1,.i .u8 0,.int .u8⟩:=rfl
theorem tt7:AJ AU 7=some ⟨4,24,.st [.i .i64 0,.i .i64 0,.b false,.i .u8 0],.struct [(0,2),(1,3),(2,4),(3,6)]⟩:=rfl
theorem tt8:AJ AU 8=some ⟨4,24,.st [.i .i64 0,.i .i64 0,.b false,.i .u8 0],.struct [(0,2),(1,3),(2,4),(3,6)]⟩:=rfl
theorem tt9:AJ AU 9=some ⟨1,16,.s ⟨#[]⟩,.str⟩:=rfl
theorem tt10:AJ AU 10=some ⟨1,16,.s ⟨#[]⟩,.str⟩:=rfl
theorem tt11:AJ AU 11=some ⟨1,16,.s ⟨#[]⟩,.str⟩:=rfl
theorem tt12:AJ AU 12=some ⟨1,8,.i .u64 0,.int .u64⟩:=rfl
theorem tt13:AJ AU 13=some ⟨2,24,.st [.s ⟨#[]⟩,.i .u64 0],.struct [(0,9),(1,12)]⟩:=rfl
theorem tt14:AJ AU 14=some ⟨2,24,.st [.s ⟨#[]⟩,.i .u64 0],.struct [(0,9),(1,12)]⟩:=rfl
theorem tt15:AJ AU 15=some ⟨1,8,.nilp,.other⟩:=rfl
theorem tt16:AJ AU 16=some ⟨1,8,.nilp,.other⟩:=rfl
theorem tt17:AJ AU 17=some ⟨1,8,.nilp,.other⟩:=rfl
theorem tt18:AJ AU 18=some ⟨1,8,.st [.nilp],.struct [(0,17)]⟩:=rfl
theorem tt19:AJ AU 19=some ⟨1,8,.st [.nilp],.struct [(0,17)]⟩:=rfl
theorem tt21:AJ AU 21=some ⟨1,4,.i .i32 0,.int .i32⟩:=rfl
theorem tt22:AJ AU 22=some ⟨1,24,.sl 7 true [],.slice 65⟩:=rfl
theorem tt23:AJ AU 23=some ⟨1,24,.sl 2 true [],.slice 122⟩:=rfl
theorem tt24:AJ AU 24=some ⟨1,24,.sl 1 true [],.slice 9⟩:=rfl
theorem tt25:AJ AU 25=some ⟨3,72,.st [.sl 7 true [],.sl 2 true [],.sl 1 true []],.struct [(0,22),(1,23),(2,24)]⟩:=rfl
theorem tt26:AJ AU 26=some ⟨3,72,.st [.sl 7 true [],.sl 2 true [],.sl 1 true []],.struct [(0,22),(1,23),(2,24)]⟩:=rfl
theorem tt27:AJ AU 27=some ⟨1,24,.sl 3 true [],.slice 67⟩:=rfl
theorem tt28:AJ AU 28=some ⟨1,24,.sl 3 true [],.slice 85⟩:=rfl
theorem tt29:AJ AU 29=some ⟨2,32,.st [.i .i64 0,.sl 3 true []],.struct [(0,3),(1,28)]⟩:=rfl
theorem tt30:AJ AU 30=some ⟨2,32,.st [.i .i64 0,.sl 3 true []],.struct [(0,3),(1,28)]⟩:=rfl
theorem tt31:AJ AU 31=some ⟨1,24,.sl 3 true [],.slice 56⟩:=rfl
theorem tt32:AJ AU 32=some ⟨1,24,.sl 3 true [],.slice 61⟩:=rfl
theorem tt33:AJ AU 33=some ⟨1,24,.sl 1 true [],.slice 3⟩:=rfl
theorem tt34:AJ AU 34=some ⟨11,216,.st [.sl 7 true [],.sl 2 true [],.sl 1 true [],.sl 3 true [],.i .i64 0,.sl 3 true [],.sl 3 true [],.sl 3 true [],.i .i64 0,.b false,.sl 1 true []],.struct [(0,26),(3,27),(4,30),(6,31),(7,32),(8,3),(9,4),(10,33)]⟩:=rfl
theorem tt35:AJ AU 35=some ⟨11,216,.st [.sl 7 true [],.sl 2 true [],.sl 1 true [],.sl 3 true [],.i .i64 0,.sl 3 true [],.sl 3 true [],.sl 3 true [],.i .i64 0,.b false,.sl 1 true []],.struct [(0,26),(3,27),(4,30),(6,31),(7,32),(8,3),(9,4),(10,33)]⟩:=rfl
theorem tt36:AJ AU 36=some ⟨1,8,.nilf,.other⟩:=rfl
theorem tt37:AJ AU 37=some ⟨1,8,.i .i64 0,.int .i64⟩:=rfl
theorem tt39:AJ AU 39=some ⟨1,8,.nilf,.other⟩:=rfl
theorem tt41:AJ AU 41=some ⟨1,8,.nilf,.other⟩:=rfl
theorem tt42:AJ AU 42=some ⟨1,24,.sl 1 true [],.slice 4⟩:=rfl
theorem tt44:AJ AU 44=some ⟨1,8,.nilf,.other⟩:=rfl
theorem tt46:AJ AU 46=some ⟨1,8,.nilf,.other⟩:=rfl
theorem tt47:AJ AU 47=some ⟨1,8,.nilf,.other⟩:=rfl
theorem tt48:AJ AU 48=some ⟨1,8,.nilf,.other⟩:=rfl
theorem tt49:AJ AU 49=some ⟨1,8,.nilf,.other⟩:=rfl
theorem tt50:AJ AU 50=some ⟨1,8,.nilf,.other⟩:=rfl
theorem tt51:AJ AU 51=some ⟨1,8,.nilf,.other⟩:=rfl
theorem tt52:AJ AU 52=some ⟨1,8,.nilf,.other⟩:=rfl
theorem tt53:AJ AU 53=some ⟨1,8,.nilf,.other⟩:=rfl
theorem tt54:AJ AU 54=some ⟨1,8,.i .u64 0,.int .u64⟩:=rfl
theorem tt55:AJ AU 55=some ⟨3,40,.st [.s ⟨#[]⟩,.i .i64 0,.s ⟨#[]⟩],.struct [(0,9),(1,3),(2,9)]⟩:=rfl
theorem tt56:AJ AU 56=some ⟨3,40,.st [.s ⟨#[]⟩,.i .i64 0,.s ⟨#[]⟩],.struct [(0,9),(1,3),(2,9)]⟩:=rfl
theorem tt58:AJ AU 58=some ⟨1,8,.nilf,.other⟩:=rfl
theorem tt59:AJ AU 59=some ⟨1,8,.nilf,.other⟩:=rfl
theorem tt60:AJ AU 60=some ⟨3,48,.st [.s ⟨#[]⟩,.i .i64 0,.sl 1 true []],.struct [(0,9),(1,3),(2,24)]⟩:=rfl
theorem tt61:AJ AU 61=some ⟨3,48,.st [.s ⟨#[]⟩,.i .i64 0,.sl 1 true []],.struct [(0,9),(1,3),(2,24)]⟩:=rfl
theorem tt62:AJ AU 62=some ⟨1,8,.nilf,.other⟩:=rfl
theorem tt63:AJ AU 63=some ⟨1,24,.sl 1 true [],.slice 42⟩:=rfl
theorem tt64:AJ AU 64=some ⟨7,136,.st [.sl 1 true [],.sl 1 true [],.sl 1 true [],.sl 1 true [],.s ⟨#[]⟩,.b false,.s ⟨#[]⟩],.struct [(0,24),(1,24),(2,24),(3,24),(4,9),(5,4),(6,9)]⟩:=rfl
theorem tt65:AJ AU 65=some ⟨7,136,.st [.sl 1 true [],.sl 1 true [],.sl 1 true [],.sl 1 true [],.s ⟨#[]⟩,.b false,.s ⟨#[]⟩],.struct [(0,24),(1,24),(2,24),(3,24),(4,9),(5,4),(6,9)]⟩:=rfl
theorem tt66:AJ AU 66=some ⟨3,48,.st [.s ⟨#[]⟩,.sl 1 true [],.b false],.struct [(0,9),(1,24),(2,4)]⟩:=rfl
theorem tt67:AJ AU 67=some ⟨3,48,.st [.s ⟨#[]⟩,.sl 1 true [],.b false],.struct [(0,9),(1,24),(2,4)]⟩:=rfl
theorem tt68:AJ AU 68=some ⟨1,8,.nilf,.other⟩:=rfl
theorem tt69:AJ AU 69=some ⟨1,8,.nilf,.other⟩:=rfl
theorem tt71:AJ AU 71=some ⟨1,8,.nilf,.other⟩:=rfl
theorem tt72:AJ AU 72=some ⟨1,8,.nilf,.other⟩:=rfl
theorem tt74:AJ AU 74=some ⟨1,8,.nilf,.other⟩:=rfl
theorem tt76:AJ AU 76=some ⟨1,8,.nilf,.other⟩:=rfl
theorem tt77:AJ AU 77=some ⟨1,8,.nilf,.other⟩:=rfl
theorem tt78:AJ AU 78=some ⟨1,8,.nilf,.other⟩:=rfl
theorem tt79:AJ AU 79=some ⟨1,8,.nilf,.other⟩:=rfl
theorem tt80:AJ AU 80=some ⟨1,8,.nilf,.other⟩:=rfl
theorem tt81:AJ AU 81=some ⟨1,8,.nilf,.other⟩:=rfl
theorem tt83:AJ AU 83=some ⟨1,8,.nilf,.other⟩:=rfl
theorem tt84:AJ AU 84=some ⟨3,32,.st [.s ⟨#[]⟩,.i .i64 0,.i .i64 0],.struct [(0,9),(1,3),(2,3)]⟩:=rfl
theorem tt85:AJ AU 85=some ⟨3,32,.st [.s ⟨#[]⟩,.i .i64 0,.i .i64 0],.struct [(0,9),(1,3),(2,3)]⟩:=rfl
theorem tt87:AJ AU 87=some ⟨1,8,.nilf,.other⟩:=rfl
theorem tt88:AJ AU 88=some ⟨1,8,.nilf,.other⟩:=rfl
theorem tt89:AJ AU 89=some ⟨1,8,.nilf,.other⟩:=rfl
theorem tt90:AJ AU 90=some ⟨1,8,.nilf,.other⟩:=rfl
theorem tt92:AJ AU 92=some ⟨1,8,.nilf,.other⟩:=rfl
theorem tt93:AJ AU 93=some ⟨1,8,.nilf,.other⟩:=rfl
theorem tt94:AJ AU 94=some ⟨1,8,.nilf,.other⟩:=rfl
theorem tt95:AJ AU 95=some ⟨1,8,.nilf,.other⟩:=rfl
theorem tt96:AJ AU 96=some ⟨1,8,.nilf,.other⟩:=rfl
theorem tt97:AJ AU 97=some ⟨1,8,.nilf,.other⟩:=rfl
theorem tt98:AJ AU 98=some ⟨1,8,.nilf,.other⟩:=rfl
theorem tt99:AJ AU 99=some ⟨1,8,.nilf,.other⟩:=rfl
theorem tt100:AJ AU 100=some ⟨1,8,.nilf,.other⟩:=rfl
theorem tt101:AJ AU 101=some ⟨1,8,.nilp,.other⟩:=rfl
theorem tt102:AJ AU 102=some ⟨1,8,.nilp,.other⟩:=rfl
theorem tt103:AJ AU 103=some ⟨2,16,.st [.nilp,.nilp],.struct [(0,101),(1,102)]⟩:=rfl
theorem tt104:AJ AU 104=some ⟨2,16,.st [.nilp,.nilp],.struct [(0,101),(1,102)]⟩:=rfl
theorem tt105:AJ AU 105=some ⟨1,8,.nilf,.other⟩:=rfl
theorem tt106:AJ AU 106=some ⟨1,8,.nilf,.other⟩:=rfl
theorem tt107:AJ AU 107=some ⟨1,8,.nilf,.other⟩:=rfl
theorem tt108:AJ AU 108=some ⟨1,8,.nilf,.other⟩:=rfl
theorem tt109:AJ AU 109=some ⟨1,8,.nilf,.other⟩:=rfl
theorem tt111:AJ AU 111=some ⟨1,8,.nilf,.other⟩:=rfl
theorem tt112:AJ AU 112=some ⟨1,8,.nilf,.other⟩:=rfl
theorem tt113:AJ AU 113=some ⟨1,8,.nilp,.other⟩:=rfl
theorem tt114:AJ AU 114=some ⟨1,8,.nilf,.other⟩:=rfl
theorem tt115:AJ AU 115=some ⟨1,8,.nilf,.other⟩:=rfl
theorem tt116:AJ AU 116=some ⟨1,8,.nilf,.other⟩:=rfl
theorem tt117:AJ AU 117=some ⟨1,8,.nilf,.other⟩:=rfl
theorem tt118:AJ AU 118=some ⟨1,8,.nilf,.other⟩:=rfl
theorem tt119:AJ AU 119=some ⟨1,8,.nilf,.other⟩:=rfl
theorem tt120:AJ AU 120=some ⟨1,8,.nilf,.other⟩:=rfl
theorem tt121:AJ AU 121=some ⟨2,24,.st [.s ⟨#[]⟩,.i .i64 0],.struct [(0,9),(1,3)]⟩:=rfl
theorem tt122:AJ AU 122=some ⟨2,24,.st [.s ⟨#[]⟩,.i .i64 0],.struct [(0,9),(1,3)]⟩:=rfl
theorem tt123:AJ AU 123=some ⟨1,8,.nilf,.other⟩:=rfl
theorem tt124:AJ AU 124=some ⟨1,8,.nilf,.other⟩:=rfl
theorem tt125:AJ AU 125=some ⟨1,8,.nilf,.other⟩:=rfl
theorem tt126:AJ AU 126=some ⟨1,8,.nilf,.other⟩:=rfl
theorem tt127:AJ AU 127=some ⟨1,8,.nilf,.other⟩:=rfl
theorem tt128:AJ AU 128=some ⟨1,8,.nilf,.other⟩:=rfl
theorem tt129:AJ AU 129=some ⟨1,8,.nilf,.other⟩:=rfl
theorem tt130:AJ AU 130=some ⟨1,8,.nilf,.other⟩:=rfl
theorem tt131:AJ AU 131=some ⟨1,8,.nilf,.other⟩:=rfl
theorem tt132:AJ AU 132=some ⟨1,8,.nilf,.other⟩:=rfl
theorem tt133:AJ AU 133=some ⟨1,8,.nilf,.other⟩:=rfl
theorem tt134:AJ AU 134=some ⟨1,8,.nilf,.other⟩:=rfl
theorem tt136:AJ AU 136=some ⟨1,8,.nilf,.other⟩:=rfl
theorem tt137:AJ AU 137=some ⟨1,8,.nilf,.other⟩:=rfl
theorem tt138:AJ AU 138=some ⟨1,8,.nilf,.other⟩:=rfl
theorem tt139:AJ AU 139=some ⟨1,8,.nilf,.other⟩:=rfl
theorem tt140:AJ AU 140=some ⟨1,24,.sl 1 true [],.slice 24⟩:=rfl
theorem tt141:AJ AU 141=some ⟨1,8,.nilf,.other⟩:=rfl
theorem tt142:AJ AU 142=some ⟨1,8,.nilf,.other⟩:=rfl
theorem tt143:AJ AU 143=some ⟨1,8,.nilf,.other⟩:=rfl
theorem tt145:AJ AU 145=some ⟨1,8,.nilf,.other⟩:=rfl
theorem tt147:AJ AU 147=some ⟨1,8,.nilf,.other⟩:=rfl
theorem tt148:AJ AU 148=some ⟨1,8,.nilf,.other⟩:=rfl
theorem tt149:AJ AU 149=some ⟨1,8,.nilf,.other⟩:=rfl
theorem tt150:AJ AU 150=some ⟨1,24,.sl 1 true [],.slice 33⟩:=rfl
theorem tt151:AJ AU 151=some ⟨1,8,.nilf,.other⟩:=rfl
theorem tt152:AJ AU 152=some ⟨1,8,.nilf,.other⟩:=rfl
theorem tt153:AJ AU 153=some ⟨1,8,.nilf,.other⟩:=rfl
theorem tt154:AJ AU 154=some ⟨1,8,.nilf,.other⟩:=rfl
theorem tt155:AJ AU 155=some ⟨1,8,.nilf,.other⟩:=rfl
theorem tt156:AJ AU 156=some ⟨1,8,.nilf,.other⟩:=rfl
theorem tt157:AJ AU 157=some ⟨1,8,.nilf,.other⟩:=rfl
theorem tt158:AJ AU 158=some ⟨1,8,.nilf,.other⟩:=rfl
theorem tt159:AJ AU 159=some ⟨1,8,.nilf,.other⟩:=rfl
theorem tt160:AJ AU 160=some ⟨1,8,.nilf,.other⟩:=rfl
theorem tt161:AJ AU 161=some ⟨1,8,.nilf,.other⟩:=rfl
theorem tt162:AJ AU 162=some ⟨1,8,.nilf,.other⟩:=rfl
theorem tt163:AJ AU 163=some ⟨1,8,.nilf,.other⟩:=rfl
theorem tt164:AJ AU 164=some ⟨1,8,.nilf,.other⟩:=rfl
theorem tt165:AJ AU 165=some ⟨1,8,.nilf,.other⟩:=rfl
theorem tt167:AJ AU 167=some ⟨1,8,.nilf,.other⟩:=rfl
theorem tt168:AJ AU 168=some ⟨1,8,.nilf,.other⟩:=rfl
theorem tt169:AJ AU 169=some ⟨1,8,.nilf,.other⟩:=rfl
theorem tt170:AJ AU 170=some ⟨1,24,.sl 1 true [],.slice 5⟩:=rfl
theorem tt172:AJ AU 172=some ⟨1,8,.nilf,.other⟩:=rfl
theorem tt173:AJ AU 173=some ⟨1,8,.nilp,.other⟩:=rfl
theorem tt174:AJ AU 174=some ⟨1,8,.nilf,.other⟩:=rfl
theorem tt175:AJ AU 175=some ⟨1,8,.nilf,.other⟩:=rfl
theorem tt176:AJ AU 176=some ⟨1,8,.nilf,.other⟩:=rfl
theorem tt177:AJ AU 177=some ⟨1,8,.nilf,.other⟩:=rfl
theorem tt179:AJ AU 179=some ⟨1,8,.nilf,.other⟩:=rfl
theorem tt180:AJ AU 180=some ⟨6,72,.st [.i .i64 0,.s ⟨#[]⟩,.i .i64 0,.sl 1 true [],.i .i64 0,.i .i64 0],.struct [(0,3),(1,9),(2,3),(3,24),(4,3),(5,3)]⟩:=rfl
theorem tt181:AJ AU 181=some ⟨6,72,.st [.i .i64 0,.s ⟨#[]⟩,.i .i64 0,.sl 1 true [],.i .i64 0,.i .i64 0],.struct [(0,3),(1,9),(2,3),(3,24),(4,3),(5,3)]⟩:=rfl
theorem tt182:AJ AU 182=some ⟨1,8,.nilf,.other⟩:=rfl
theorem tt183:AJ AU 183=some ⟨1,8,.nilf,.other⟩:=rfl
theorem tt184:AJ AU 184=some ⟨1,8,.nilf,.other⟩:=rfl
theorem tt185:AJ AU 185=some ⟨1,8,.nilf,.other⟩:=rfl
theorem tt187:AJ AU 187=some ⟨1,8,.nilf,.other⟩:=rfl
theorem tt188:AJ AU 188=some ⟨1,8,.nilf,.other⟩:=rfl
theorem tt189:AJ AU 189=some ⟨1,8,.nilf,.other⟩:=rfl
theorem tt190:AJ AU 190=some ⟨1,8,.nilf,.other⟩:=rfl
theorem tt191:AJ AU 191=some ⟨1,8,.nilf,.other⟩:=rfl
theorem tt192:AJ AU 192=some ⟨1,8,.nilf,.other⟩:=rfl
theorem tt193:AJ AU 193=some ⟨1,8,.nilf,.other⟩:=rfl
theorem tt194:AJ AU 194=some ⟨1,8,.nilf,.other⟩:=rfl
theorem tt195:AJ AU 195=some ⟨1,8,.nilf,.other⟩:=rfl
theorem tt196:AJ AU 196=some ⟨1,8,.nilf,.other⟩:=rfl
theorem tt197:AJ AU 197=some ⟨1,8,.nilf,.other⟩:=rfl
theorem tt198:AJ AU 198=some ⟨1,8,.nilf,.other⟩:=rfl
theorem tt199:AJ AU 199=some ⟨1,8,.nilf,.other⟩:=rfl
theorem tt200:AJ AU 200=some ⟨1,8,.nilf,.other⟩:=rfl
theorem tt201:AJ AU 201=some ⟨1,8,.nilf,.other⟩:=rfl
theorem tt202:AJ AU 202=some ⟨1,8,.nilf,.other⟩:=rfl
theorem tt203:AJ AU 203=some ⟨1,8,.nilf,.other⟩:=rfl
theorem tt204:AJ AU 204=some ⟨1,8,.nilf,.other⟩:=rfl
theorem tt205:AJ AU 205=some ⟨1,8,.i .i64 0,.int .i64⟩:=rfl
theorem tt207:AJ AU 207=some ⟨1,8,.nilf,.other⟩:=rfl
theorem tt208:AJ AU 208=some ⟨1,8,.nilf,.other⟩:=rfl
theorem tt209:AJ AU 209=some ⟨1,8,.nilf,.other⟩:=rfl
theorem tt210:AJ AU 210=some ⟨1,8,.nilf,.other⟩:=rfl
theorem tt211:AJ AU 211=some ⟨1,8,.nilf,.other⟩:=rfl
theorem tt212:AJ AU 212=some ⟨1,8,.nilf,.other⟩:=rfl
theorem tt213:AJ AU 213=some ⟨1,4,.i .u32 0,.int .u32⟩:=rfl
theorem tt214:AJ AU 214=some ⟨1,8,.nilf,.other⟩:=rfl
theorem tt215:AJ AU 215=some ⟨1,8,.i .u64 0,.int .u64⟩:=rfl
theorem tt217:AJ AU 217=some ⟨1,8,.nilf,.other⟩:=rfl
theorem tt218:AJ AU 218=some ⟨1,8,.nilf,.other⟩:=rfl
theorem tt219:AJ AU 219=some ⟨1,8,.nilf,.other⟩:=rfl
theorem tt220:AJ AU 220=some ⟨1,8,.nilf,.other⟩:=rfl
theorem tt221:AJ AU 221=some ⟨1,8,.nilf,.other⟩:=rfl
theorem tt222:AJ AU 222=some ⟨1,8,.nilf,.other⟩:=rfl
theorem tt223:AJ AU 223=some ⟨1,8,.nilf,.other⟩:=rfl
theorem tt224:AJ AU 224=some ⟨1,8,.nilf,.other⟩:=rfl
theorem tt225:AJ AU 225=some ⟨1,8,.nilf,.other⟩:=rfl
theorem tt226:AJ AU 226=some ⟨1,8,.nilf,.other⟩:=rfl
theorem tt227:AJ AU 227=some ⟨1,8,.nilf,.other⟩:=rfl
theorem tt228:AJ AU 228=some ⟨1,8,.nilf,.other⟩:=rfl
theorem tt229:AJ AU 229=some ⟨1,8,.i .u64 0,.int .u64⟩:=rfl
theorem tt230:AJ AU 230=some ⟨1,8,.nilf,.other⟩:=rfl
theorem tt231:AJ AU 231=some ⟨1,8,.nilf,.other⟩:=rfl
theorem tt232:AJ AU 232=some ⟨1,8,.nilf,.other⟩:=rfl
theorem tt233:AJ AU 233=some ⟨1,8,.nilp,.other⟩:=rfl
theorem tt234:AJ AU 234=some ⟨1,8,.nilf,.other⟩:=rfl
theorem tt235:AJ AU 235=some ⟨1,8,.nilf,.other⟩:=rfl
theorem tt236:AJ AU 236=some ⟨1,8,.nilf,.other⟩:=rfl
theorem tt237:AJ AU 237=some ⟨1,8,.nilf,.other⟩:=rfl
theorem tt238:AJ AU 238=some ⟨1,8,.nilp,.other⟩:=rfl
theorem tt239:AJ AU 239=some ⟨2,32,.st [.nilp,.sl 1 true []],.struct [(0,238),(1,170)]⟩:=rfl
theorem tt240:AJ AU 240=some ⟨2,32,.st [.nilp,.sl 1 true []],.struct [(0,238),(1,170)]⟩:=rfl
theorem tt241:AJ AU 241=some ⟨1,8,.nilf,.other⟩:=rfl
theorem tt245:AJ AU 245=some ⟨1,8,.nilf,.other⟩:=rfl
theorem tt246:AJ AU 246=some ⟨1,8,.nilf,.other⟩:=rfl
theorem tt247:AJ AU 247=some ⟨1,8,.nilf,.other⟩:=rfl
theorem tt248:AJ AU 248=some ⟨1,8,.nilf,.other⟩:=rfl
theorem tt249:AJ AU 249=some ⟨1,8,.nilf,.other⟩:=rfl
theorem tt250:AJ AU 250=some ⟨1,8,.nilf,.other⟩:=rfl
theorem tt251:AJ AU 251=some ⟨1,8,.nilf,.other⟩:=rfl
theorem tt252:AJ AU 252=some ⟨1,8,.nilf,.other⟩:=rfl
theorem tt253:AJ AU 253=some ⟨1,8,.nilf,.other⟩:=rfl
theorem tt254:AJ AU 254=some ⟨1,8,.nilf,.other⟩:=rfl
theorem tt255:AJ AU 255=some ⟨1,8,.nilf,.other⟩:=rfl
theorem tt256:AJ AU 256=some ⟨1,8,.nilp,.other⟩:=rfl
theorem tt258:AJ AU 258=some ⟨1,8,.nilf,.other⟩:=rfl
theorem tt259:AJ AU 259=some ⟨1,8,.nilf,.other⟩:=rfl
theorem tt260:AJ AU 260=some ⟨1,8,.nilf,.other⟩:=rfl
theorem tt261:AJ AU 261=some ⟨1,8,.nilf,.other⟩:=rfl
theorem tt263:AJ AU 263=some ⟨1,8,.nilf,.other⟩:=rfl
theorem tt265:AJ AU 265=some ⟨1,8,.nilf,.other⟩:=rfl
theorem tt266:AJ AU 266=some ⟨1,8,.nilp,.other⟩:=rfl
theorem tt267:AJ AU 267=some ⟨1,8,.nilf,.other⟩:=rfl
theorem tt268:AJ AU 268=some ⟨1,8,.nilf,.other⟩:=rfl
theorem tt269:AJ AU 269=some ⟨1,8,.nilf,.other⟩:=rfl
theorem tt270:AJ AU 270=some ⟨1,8,.nilf,.other⟩:=rfl
theorem tt272:AJ AU 272=some ⟨1,8,.nilf,.other⟩:=rfl
theorem tt273:AJ AU 273=some ⟨1,8,.nilf,.other⟩:=rfl
theorem tt274:AJ AU 274=some ⟨1,8,.nilf,.other⟩:=rfl
theorem tt275:AJ AU 275=some ⟨1,8,.nilf,.other⟩:=rfl
theorem tt276:AJ AU 276=some ⟨1,8,.nilf,.other⟩:=rfl
theorem tt278:AJ AU 278=some ⟨1,8,.nilf,.other⟩:=rfl
theorem tt279:AJ AU 279=some ⟨1,8,.nilf,.other⟩:=rfl
theorem tt280:AJ AU 280=some ⟨1,8,.nilf,.other⟩:=rfl
theorem tt282:AJ AU 282=some ⟨2,2,.st [.i .u8 0,.i .u8 0],.struct [(0,5),(1,5)]⟩:=rfl
theorem tt283:AJ AU 283=some ⟨2,2,.st [.i .u8 0,.i .u8 0],.struct [(0,5),(1,5)]⟩:=rfl
theorem tt284:AJ AU 284=some ⟨32,32,.st [.i .u8 0,.i .u8 0,.i .u8 0,.i .u8 0,.i .u8 0,.i .u8 0,.i .u8 0,.i .u8 0,.i .u8 0,.i .u8 0,.i .u8 0,.i .u8 0,.i .u8 0,.i .u8 0,.i .u8 0,.i .u8 0,.i .u8 0,.i .u8 0,.i .u8 0,.i .u8 0,.i .u8 0,.i .u8 0,.i .u8 0,.i .u8 0,.i .u8 0,.i .u8 0,.i .u8 0,.i .u8 0,.i .u8 0,.i .u8 0,.i .u8 0,.i .u8 0],.arr 16 283⟩:=rfl
theorem tt286:AJ AU 286=some ⟨1,8,.nilf,.other⟩:=rfl
theorem tt287:AJ AU 287=some ⟨4,40,.st [.nilp,.nilp,.nilp,.s ⟨#[]⟩],.struct [(0,17),(1,17),(2,17),(3,9)]⟩:=rfl
theorem tt288:AJ AU 288=some ⟨4,40,.st [.nilp,.nilp,.nilp,.s ⟨#[]⟩],.struct [(0,17),(1,17),(2,17),(3,9)]⟩:=rfl
theorem tt289:AJ AU 289=some ⟨0,0,.st [],.arr 0 16⟩:=rfl
theorem tt290:AJ AU 290=some ⟨0,0,.st [],.struct [(0,289)]⟩:=rfl
theorem tt291:AJ AU 291=some ⟨0,0,.st [],.struct [(0,289)]⟩:=rfl
theorem tt292:AJ AU 292=some ⟨1,1,.i .u8 0,.int .u8⟩:=rfl
theorem tt293:AJ AU 293=some ⟨1,1,.i .u8 0,.int .u8⟩:=rfl
theorem tt294:AJ AU 294=some ⟨1,8,.nilf,.other⟩:=rfl
theorem tt295:AJ AU 295=some ⟨1,4,.i .i32 0,.int .i32⟩:=rfl
theorem tt296:AJ AU 296=some ⟨1,4,.i .i32 0,.int .i32⟩:=rfl
theorem tt297:AJ AU 297=some ⟨11,48,.st [.i .u64 0,.i .u64 0,.i .u32 0,.i .u8 0,.i .u8 0,.i .u8 0,.i .u8 0,.nilf,.nilp,.i .i32 0,.i .i32 0],.struct [(0,12),(1,12),(2,213),(3,292),(4,5),(5,5),(6,293),(7,294),(8,266),(9,295),(10,296)]⟩:=rfl
theorem tt298:AJ AU 298=some ⟨11,48,.st [.i .u64 0,.i .u64 0,.i .u32 0,.i .u8 0,.i .u8 0,.i .u8 0,.i .u8 0,.nilf,.nilp,.i .i32 0,.i .i32 0],.struct [(0,12),(1,12),(2,213),(3,292),(4,5),(5,5),(6,293),(7,294),(8,266),(9,295),(10,296)]⟩:=rfl
def PI:TI:=⟨1,8,.i .i64 0,.int .i64⟩
def VC:TI:=⟨1,1,.b false,.bool⟩
def Hz:TI:=⟨1,16,.s ⟨#[]⟩,.str⟩
def tI_24:TI:=⟨1,24,.sl 1 true [],.slice 9⟩
def PJ:TI:=⟨1,24,.sl 1 true [],.slice 3⟩
def X2:TI:=⟨3,40,.st [.s ⟨#[]⟩,.i .i64 0,.s ⟨#[]⟩],.struct [(0,9),(1,3),(2,9)]⟩
def Tp:TI:=⟨3,32,.st [.s ⟨#[]⟩,.i .i64 0,.i .i64 0],.struct [(0,9),(1,3),(2,3)]⟩
set_option linter.defProp false in
def E6:=And.intro tt1 (And.intro tt2 (And.intro tt3 (And.intro tt4 (And.intro tt5 (And.intro tt6 (And.intro tt7 (And.intro tt8 (And.intro tt9 (And.intro tt10 (And.intro tt11 (And.intro tt12 (And.intro tt13 (And.intro tt14 (And.intro tt15 (And.intro tt16 (And.intro tt17 (And.intro tt18 (And.intro tt19 (And.intro tt21 (And.intro tt22 (And.intro tt23 (And.intro tt24 (And.intro tt25 (And.intro tt26 (And.intro tt27 (And.intro tt28 (And.intro tt29 (And.intro tt30 (And.intro tt31 (And.intro tt32 (And.intro tt33 (And.intro tt34 (And.intro tt35 (And.intro tt36 (And.intro tt37 (And.intro tt39 (And.intro tt41 (And.intro tt42 (And.intro tt44 (And.intro tt46 (And.intro tt47 (And.intro tt48 (And.intro tt49 (And.intro tt50 (And.intro tt51 (And.intro tt52 (And.intro tt53 (And.intro tt54 (And.intro tt55 (And.intro tt56 (And.intro tt58 (And.intro tt59 (And.intro tt60 (And.intro tt61 (And.intro tt62 (And.intro tt63 (And.intro tt64 (And.intro tt65 (And.intro tt66 (And.intro tt67 (And.intro tt68 (And.intro tt69 (And.intro tt71 (And.intro tt72 (And.intro tt74 (And.intro tt76 (And.intro tt77 (And.intro tt78 (And.intro tt79 (And.intro tt80 (And.intro tt81 (And.intro tt83 (And.intro tt84 (And.intro tt85 (And.intro tt87 (And.intro tt88 (And.intro tt89 (And.intro tt90 (And.intro tt92 (And.intro tt93 (And.intro tt94 (And.intro tt95 (And.intro tt96 (And.intro tt97 (And.intro tt98 (And.intro tt99 (And.intro tt100 (And.intro tt101 (And.intro tt102 (And.intro tt103 (And.intro tt104 (And.intro tt105 (And.intro tt106 (And.intro tt107 (And.intro tt108 (And.intro tt109 (And.intro tt111 (And.intro tt112 (And.intro tt113 (And.intro tt114 (And.intro tt115 (And.intro tt116 (And.intro tt117 (And.intro tt118 (And.intro tt119 (And.intro tt120 (And.intro tt121 (And.intro tt122 (And.intro tt123 (And.intro tt124 (And.intro tt125 (And.intro tt126 (And.intro tt127 (And.intro tt128 (And.intro tt129 (And.intro tt130 (And.intro tt131 (And.intro tt132 (And.intro tt133 (And.intro tt134 (And.intro tt136 (And.intro tt137 (And.intro tt138 (And.intro tt139 (And.intro tt140 (And.intro tt141 (And.intro tt142 (And.intro tt143 (And.intro tt145 (And.intro tt147 (And.intro tt148 (And.intro tt149 (And.intro tt150 (And.intro tt151 (And.intro tt152 (And.intro tt153 (And.intro tt154 (And.intro tt155 (And.intro tt156 (And.intro tt157 (And.intro tt158 (And.intro tt159 (And.intro tt160 (And.intro tt161 (And.intro tt162 (And.intro tt163 (And.intro tt164 (And.intro tt165 (And.intro tt167 (And.intro tt168 (And.intro tt169 (And.intro tt170 (And.intro tt172 (And.intro tt173 (And.intro tt174 (And.intro tt175 (And.intro tt176 (And.intro tt177 (And.intro tt179 (And.intro tt180 (And.intro tt181 (And.intro tt182 (And.intro tt183 (And.intro tt184 (And.intro tt185 (And.intro tt187 (And.intro tt188 (And.intro tt189 (And.intro tt190 (And.intro tt191 (And.intro tt192 (And.intro tt193 (And.intro tt194 (And.intro tt195 (And.intro tt196 (And.intro tt197 (And.intro tt198 (And.intro tt199 (And.intro tt200 (And.intro tt201 (And.intro tt202 (And.intro tt203 (And.intro tt204 (And.intro tt205 (And.intro tt207 (And.intro tt208 (And.intro tt209 (And.intro tt210 (And.intro tt211 (And.intro tt212 (And.intro tt213 (And.intro tt214 (And.intro tt215 (And.intro tt217 (And.intro tt218 (And.intro tt219 (And.intro tt220 (And.intro tt221 (And.intro tt222 (And.intro tt223 (And.intro tt224 (And.intro tt225 (And.intro tt226 (And.intro tt227 (And.intro tt228 (And.intro tt229 (And.intro tt230 (And.intro tt231 (And.intro tt232 (And.intro tt233 (And.intro tt234 (And.intro tt235 (And.intro tt236 (And.intro tt237 (And.intro tt238 (And.intro tt239 (And.intro tt240 (And.intro tt241 (And.intro tt245 (And.intro tt246 (And.intro tt247 (And.intro tt248 (And.intro tt249 (And.intro tt250 (And.intro tt251 (And.intro tt252 (And.intro tt253 (And.intro tt254 (And.intro tt255 (And.intro tt256 (And.intro tt258 (And.intro tt259 (And.intro tt260 (And.intro tt261 (And.intro tt263 (And.intro tt265 (And.intro tt266 (And.intro tt267 (And.intro tt268 (And.intro tt269 (And.intro tt270 (And.intro tt272 (And.intro tt273 (And.intro tt274 (And.intro tt275 (And.intro tt276 (And.intro tt278 (And.intro tt279 (And.intro tt280 (And.intro tt282 (And.intro tt283 (And.intro tt284 (And.intro tt286 (And.intro tt287 (And.intro tt288 (And.intro tt289 (And.intro tt290 (And.intro tt291 (And.intro tt292 (And.intro tt293 (And.intro tt294 (And.intro tt295 (And.intro tt296 (And.intro tt297 (tt298)))))))))))))))))))))))))))))))))))))))))))))))))))))))))))))))))))))))))))))))))))))))))))))))))))))))))))))))))))))))))))))))))))))))))))))))))))))))))))))))))))))))))))))))))))))))))))))))))))))))))))))))))))))))))))))))))))))))))))))))))))))))))))))))))))))))))
theorem en6 (W:World): ∀(vs:Array Value) (w:World),(callFunc 6 vs).run Go.Proofs.Tryz.prog w= .ok (.enter 6 vs) w:=Go.Proofs.enters_of Go.Proofs.Tryz.func6 (by kernel_rfl) rfl
theorem en17 (W:World): ∀(vs:Array Value) (w:World),(callFunc 17 vs).run Go.Proofs.Tryz.prog w= .ok (.enter 17 vs) w:=Go.Proofs.enters_of Go.Proofs.Tryz.func17 (by kernel_rfl) rfl
theorem en19 (W:World): ∀(vs:Array Value) (w:World),(callFunc 19 vs).run Go.Proofs.Tryz.prog w= .ok (.enter 19 vs) w:=Go.Proofs.enters_of Go.Proofs.Tryz.func19 (by kernel_rfl) rfl
theorem en21 (W:World): ∀(vs:Array Value) (w:World),(callFunc 21 vs).run Go.Proofs.Tryz.prog w= .ok (.enter 21 vs) w:=Go.Proofs.enters_of Go.Proofs.Tryz.func21 (by kernel_rfl) rfl
theorem en22 (W:World): ∀(vs:Array Value) (w:World),(callFunc 22 vs).run Go.Proofs.Tryz.prog w= .ok (.enter 22 vs) w:=Go.Proofs.enters_of Go.Proofs.Tryz.func22 (by kernel_rfl) rfl
theorem en25 (W:World): ∀(vs:Array Value) (w:World),(callFunc 25 vs).run Go.Proofs.Tryz.prog w= .ok (.enter 25 vs) w:=Go.Proofs.enters_of Go.Proofs.Tryz.func25 (by kernel_rfl) rfl
theorem en26 (W:World): ∀(vs:Array Value) (w:World),(callFunc 26 vs).run Go.Proofs.Tryz.prog w= .ok (.enter 26 vs) w:=Go.Proofs.enters_of Go.Proofs.Tryz.func26 (by kernel_rfl) rfl
theorem en28 (W:World): ∀(vs:Array Value) (w:World),(callFunc 28 vs).run Go.Proofs.Tryz.prog w= .ok (.enter 28 vs) w:=Go.Proofs.enters_of Go.Proofs.Tryz.func28 (by kernel_rfl) rfl
theorem en29 (W:World): ∀(vs:Array Value) (w:World),(callFunc 29 vs).run Go.Proofs.Tryz.prog w= .ok (.enter 29 vs) w:=Go.Proofs.enters_of Go.Proofs.Tryz.func29 (by kernel_rfl) rfl
theorem en41 (W:World): ∀(vs:Array Value) (w:World),(callFunc 41 vs).run Go.Proofs.Tryz.prog w= .ok (.enter 41 vs) w:=Go.Proofs.enters_of Go.Proofs.Tryz.func41 (by kernel_rfl) rfl
theorem en53 (W:World): ∀(vs:Array Value) (w:World),(callFunc 53 vs).run Go.Proofs.Tryz.prog w= .ok (.enter 53 vs) w:=Go.Proofs.enters_of Go.Proofs.Tryz.func53 (by kernel_rfl) rfl
theorem en54 (W:World): ∀(vs:Array Value) (w:World),(callFunc 54 vs).run Go.Proofs.Tryz.prog w= .ok (.enter 54 vs) w:=Go.Proofs.enters_of Go.Proofs.Tryz.func54 (by kernel_rfl) rfl
theorem en55 (W:World): ∀(vs:Array Value) (w:World),(callFunc 55 vs).run Go.Proofs.Tryz.prog w= .ok (.enter 55 vs) w:=Go.Proofs.enters_of Go.Proofs.Tryz.func55 (by kernel_rfl) rfl
theorem en56 (W:World): ∀(vs:Array Value) (w:World),(callFunc 56 vs).run Go.Proofs.Tryz.prog w= .ok (.enter 56 vs) w:=Go.Proofs.enters_of Go.Proofs.Tryz.func56 (by kernel_rfl) rfl
theorem en57 (W:World): ∀(vs:Array Value) (w:World),(callFunc 57 vs).run Go.Proofs.Tryz.prog w= .ok (.enter 57 vs) w:=Go.Proofs.enters_of Go.Proofs.Tryz.func57 (by kernel_rfl) rfl
theorem en59 (W:World): ∀(vs:Array Value) (w:World),(callFunc 59 vs).run Go.Proofs.Tryz.prog w= .ok (.enter 59 vs) w:=Go.Proofs.enters_of Go.Proofs.Tryz.func59 (by kernel_rfl) rfl
theorem en62 (W:World): ∀(vs:Array Value) (w:World),(callFunc 62 vs).run Go.Proofs.Tryz.prog w= .ok (.enter 62 vs) w:=Go.Proofs.enters_of Go.Proofs.Tryz.func62 (by kernel_rfl) rfl
theorem en63 (W:World): ∀(vs:Array Value) (w:World),(callFunc 63 vs).run Go.Proofs.Tryz.prog w= .ok (.enter 63 vs) w:=Go.Proofs.enters_of Go.Proofs.Tryz.func63 (by kernel_rfl) rfl
theorem en70 (W:World): ∀(vs:Array Value) (w:World),(callFunc 70 vs).run Go.Proofs.Tryz.prog w= .ok (.enter 70 vs) w:=Go.Proofs.enters_of Go.Proofs.Tryz.func70 (by kernel_rfl) rfl
theorem en73 (W:World): ∀(vs:Array Value) (w:World),(callFunc 73 vs).run Go.Proofs.Tryz.prog w= .ok (.enter 73 vs) w:=Go.Proofs.enters_of Go.Proofs.Tryz.func73 (by kernel_rfl) rfl
theorem en74 (W:World): ∀(vs:Array Value) (w:World),(callFunc 74 vs).run Go.Proofs.Tryz.prog w= .ok (.enter 74 vs) w:=Go.Proofs.enters_of Go.Proofs.Tryz.func74 (by kernel_rfl) rfl
theorem en82 (W:World): ∀(vs:Array Value) (w:World),(callFunc 82 vs).run Go.Proofs.Tryz.prog w= .ok (.enter 82 vs) w:=Go.Proofs.enters_of Go.Proofs.Tryz.func82 (by kernel_rfl) rfl
theorem en83 (W:World): ∀(vs:Array Value) (w:World),(callFunc 83 vs).run Go.Proofs.Tryz.prog w= .ok (.enter 83 vs) w:=Go.Proofs.enters_of Go.Proofs.Tryz.func83 (by kernel_rfl) rfl
theorem en84 (W:World): ∀(vs:Array Value) (w:World),(callFunc 84 vs).run Go.Proofs.Tryz.prog w= .ok (.enter 84 vs) w:=Go.Proofs.enters_of Go.Proofs.Tryz.func84 (by kernel_rfl) rfl
theorem en93 (W:World): ∀(vs:Array Value) (w:World),(callFunc 93 vs).run Go.Proofs.Tryz.prog w= .ok (.enter 93 vs) w:=Go.Proofs.enters_of Go.Proofs.Tryz.func93 (by kernel_rfl) rfl
theorem en94 (W:World): ∀(vs:Array Value) (w:World),(callFunc 94 vs).run Go.Proofs.Tryz.prog w= .ok (.enter 94 vs) w:=Go.Proofs.enters_of Go.Proofs.Tryz.func94 (by kernel_rfl) rfl
theorem en95 (W:World): ∀(vs:Array Value) (w:World),(callFunc 95 vs).run Go.Proofs.Tryz.prog w= .ok (.enter 95 vs) w:=Go.Proofs.enters_of Go.Proofs.Tryz.func95 (by kernel_rfl) rfl
theorem en96 (W:World): ∀(vs:Array Value) (w:World),(callFunc 96 vs).run Go.Proofs.Tryz.prog w= .ok (.enter 96 vs) w:=Go.Proofs.enters_of Go.Proofs.Tryz.func96 (by kernel_rfl) rfl
theorem en97 (W:World): ∀(vs:Array Value) (w:World),(callFunc 97 vs).run Go.Proofs.Tryz.prog w= .ok (.enter 97 vs) w:=Go.Proofs.enters_of Go.Proofs.Tryz.func97 (by kernel_rfl) rfl
theorem en98 (W:World): ∀(vs:Array Value) (w:World),(callFunc 98 vs).run Go.Proofs.Tryz.prog w= .ok (.enter 98 vs) w:=Go.Proofs.enters_of Go.Proofs.Tryz.func98 (by kernel_rfl) rfl
theorem en99 (W:World): ∀(vs:Array Value) (w:World),(callFunc 99 vs).run Go.Proofs.Tryz.prog w= .ok (.enter 99 vs) w:=Go.Proofs.enters_of Go.Proofs.Tryz.func99 (by kernel_rfl) rfl
theorem en104 (W:World): ∀(vs:Array Value) (w:World),(callFunc 104 vs).run Go.Proofs.Tryz.prog w= .ok (.enter 104 vs) w:=Go.Proofs.enters_of Go.Proofs.Tryz.func104 (by kernel_rfl) rfl
theorem en105 (W:World): ∀(vs:Array Value) (w:World),(callFunc 105 vs).run Go.Proofs.Tryz.prog w= .ok (.enter 105 vs) w:=Go.Proofs.enters_of Go.Proofs.Tryz.func105 (by kernel_rfl) rfl
theorem en106 (W:World): ∀(vs:Array Value) (w:World),(callFunc 106 vs).run Go.Proofs.Tryz.prog w= .ok (.enter 106 vs) w:=Go.Proofs.enters_of Go.Proofs.Tryz.func106 (by kernel_rfl) rfl
theorem en107 (W:World): ∀(vs:Array Value) (w:World),(callFunc 107 vs).run Go.Proofs.Tryz.prog w= .ok (.enter 107 vs) w:=Go.Proofs.enters_of Go.Proofs.Tryz.func107 (by kernel_rfl) rfl
theorem en108 (W:World): ∀(vs:Array Value) (w:World),(callFunc 108 vs).run Go.Proofs.Tryz.prog w= .ok (.enter 108 vs) w:=Go.Proofs.enters_of Go.Proofs.Tryz.func108 (by kernel_rfl) rfl
theorem en109 (W:World): ∀(vs:Array Value) (w:World),(callFunc 109 vs).run Go.Proofs.Tryz.prog w= .ok (.enter 109 vs) w:=Go.Proofs.enters_of Go.Proofs.Tryz.func109 (by kernel_rfl) rfl
theorem en110 (W:World): ∀(vs:Array Value) (w:World),(callFunc 110 vs).run Go.Proofs.Tryz.prog w= .ok (.enter 110 vs) w:=Go.Proofs.enters_of Go.Proofs.Tryz.func110 (by kernel_rfl) rfl
theorem en111 (W:World): ∀(vs:Array Value) (w:World),(callFunc 111 vs).run Go.Proofs.Tryz.prog w= .ok (.enter 111 vs) w:=Go.Proofs.enters_of Go.Proofs.Tryz.func111 (by kernel_rfl) rfl
theorem en112 (W:World): ∀(vs:Array Value) (w:World),(callFunc 112 vs).run Go.Proofs.Tryz.prog w= .ok (.enter 112 vs) w:=Go.Proofs.enters_of Go.Proofs.Tryz.func112 (by kernel_rfl) rfl
theorem en118 (W:World): ∀(vs:Array Value) (w:World),(callFunc 118 vs).run Go.Proofs.Tryz.prog w= .ok (.enter 118 vs) w:=Go.Proofs.enters_of Go.Proofs.Tryz.func118 (by kernel_rfl) rfl
theorem en120 (W:World): ∀(vs:Array Value) (w:World),(callFunc 120 vs).run Go.Proofs.Tryz.prog w= .ok (.enter 120 vs) w:=Go.Proofs.enters_of Go.Proofs.Tryz.func120 (by kernel_rfl) rfl
theorem en121 (W:World): ∀(vs:Array Value) (w:World),(callFunc 121 vs).run Go.Proofs.Tryz.prog w= .ok (.enter 121 vs) w:=Go.Proofs.enters_of Go.Proofs.Tryz.func121 (by kernel_rfl) rfl
theorem en122 (W:World): ∀(vs:Array Value) (w:World),(callFunc 122 vs).run Go.Proofs.Tryz.prog w= .ok (.enter 122 vs) w:=Go.Proofs.enters_of Go.Proofs.Tryz.func122 (by kernel_rfl) rfl
theorem en123 (W:World): ∀(vs:Array Value) (w:World),(callFunc 123 vs).run Go.Proofs.Tryz.prog w= .ok (.enter 123 vs) w:=Go.Proofs.enters_of Go.Proofs.Tryz.func123 (by kernel_rfl) rfl
theorem en129 (W:World): ∀(vs:Array Value) (w:World),(callFunc 129 vs).run Go.Proofs.Tryz.prog w= .ok (.enter 129 vs) w:=Go.Proofs.enters_of Go.Proofs.Tryz.func129 (by kernel_rfl) rfl
theorem en138 (W:World): ∀(vs:Array Value) (w:World),(callFunc 138 vs).run Go.Proofs.Tryz.prog w= .ok (.enter 138 vs) w:=Go.Proofs.enters_of Go.Proofs.Tryz.func138 (by kernel_rfl) rfl
theorem en139 (W:World): ∀(vs:Array Value) (w:World),(callFunc 139 vs).run Go.Proofs.Tryz.prog w= .ok (.enter 139 vs) w:=Go.Proofs.enters_of Go.Proofs.Tryz.func139 (by kernel_rfl) rfl
theorem en140 (W:World): ∀(vs:Array Value) (w:World),(callFunc 140 vs).run Go.Proofs.Tryz.prog w= .ok (.enter 140 vs) w:=Go.Proofs.enters_of Go.Proofs.Tryz.func140 (by kernel_rfl) rfl
theorem en141 (W:World): ∀(vs:Array Value) (w:World),(callFunc 141 vs).run Go.Proofs.Tryz.prog w= .ok (.enter 141 vs) w:=Go.Proofs.enters_of Go.Proofs.Tryz.func141 (by kernel_rfl) rfl
theorem en142 (W:World): ∀(vs:Array Value) (w:World),(callFunc 142 vs).run Go.Proofs.Tryz.prog w= .ok (.enter 142 vs) w:=Go.Proofs.enters_of Go.Proofs.Tryz.func142 (by kernel_rfl) rfl
theorem en143 (W:World): ∀(vs:Array Value) (w:World),(callFunc 143 vs).run Go.Proofs.Tryz.prog w= .ok (.enter 143 vs) w:=Go.Proofs.enters_of Go.Proofs.Tryz.func143 (by kernel_rfl) rfl
theorem en144 (W:World): ∀(vs:Array Value) (w:World),(callFunc 144 vs).run Go.Proofs.Tryz.prog w= .ok (.enter 144 vs) w:=Go.Proofs.enters_of Go.Proofs.Tryz.func144 (by kernel_rfl) rfl
theorem en145 (W:World): ∀(vs:Array Value) (w:World),(callFunc 145 vs).run Go.Proofs.Tryz.prog w= .ok (.enter 145 vs) w:=Go.Proofs.enters_of Go.Proofs.Tryz.func145 (by kernel_rfl) rfl
theorem en146 (W:World): ∀(vs:Array Value) (w:World),(callFunc 146 vs).run Go.Proofs.Tryz.prog w= .ok (.enter 146 vs) w:=Go.Proofs.enters_of Go.Proofs.Tryz.func146 (by kernel_rfl) rfl
theorem en147 (W:World): ∀(vs:Array Value) (w:World),(callFunc 147 vs).run Go.Proofs.Tryz.prog w= .ok (.enter 147 vs) w:=Go.Proofs.enters_of Go.Proofs.Tryz.func147 (by kernel_rfl) rfl
theorem en148 (W:World): ∀(vs:Array Value) (w:World),(callFunc 148 vs).run Go.Proofs.Tryz.prog w= .ok (.enter 148 vs) w:=Go.Proofs.enters_of Go.Proofs.Tryz.func148 (by kernel_rfl) rfl
theorem en150 (W:World): ∀(vs:Array Value) (w:World),(callFunc 150 vs).run Go.Proofs.Tryz.prog w= .ok (.enter 150 vs) w:=Go.Proofs.enters_of Go.Proofs.Tryz.func150 (by kernel_rfl) rfl
theorem en152 (W:World): ∀(vs:Array Value) (w:World),(callFunc 152 vs).run Go.Proofs.Tryz.prog w= .ok (.enter 152 vs) w:=Go.Proofs.enters_of Go.Proofs.Tryz.func152 (by kernel_rfl) rfl
theorem en153 (W:World): ∀(vs:Array Value) (w:World),(callFunc 153 vs).run Go.Proofs.Tryz.prog w= .ok (.enter 153 vs) w:=Go.Proofs.enters_of Go.Proofs.Tryz.func153 (by kernel_rfl) rfl
theorem Wd (W:World): ∀(vs:Array Value) (w:World),(callFunc 154 vs).run Go.Proofs.Tryz.prog w= .ok (.enter 154 vs) w:=Go.Proofs.enters_of Go.Proofs.Tryz.func154 (by kernel_rfl) rfl
theorem en155 (W:World): ∀(vs:Array Value) (w:World),(callFunc 155 vs).run Go.Proofs.Tryz.prog w= .ok (.enter 155 vs) w:=Go.Proofs.enters_of Go.Proofs.Tryz.func155 (by kernel_rfl) rfl
theorem en156 (W:World): ∀(vs:Array Value) (w:World),(callFunc 156 vs).run Go.Proofs.Tryz.prog w= .ok (.enter 156 vs) w:=Go.Proofs.enters_of Go.Proofs.Tryz.func156 (by kernel_rfl) rfl
theorem en157 (W:World): ∀(vs:Array Value) (w:World),(callFunc 157 vs).run Go.Proofs.Tryz.prog w= .ok (.enter 157 vs) w:=Go.Proofs.enters_of Go.Proofs.Tryz.func157 (by kernel_rfl) rfl
theorem en159 (W:World): ∀(vs:Array Value) (w:World),(callFunc 159 vs).run Go.Proofs.Tryz.prog w= .ok (.enter 159 vs) w:=Go.Proofs.enters_of Go.Proofs.Tryz.func159 (by kernel_rfl) rfl
theorem en160 (W:World): ∀(vs:Array Value) (w:World),(callFunc 160 vs).run Go.Proofs.Tryz.prog w= .ok (.enter 160 vs) w:=Go.Proofs.enters_of Go.Proofs.Tryz.func160 (by kernel_rfl) rfl
theorem en161 (W:World): ∀(vs:Array Value) (w:World),(callFunc 161 vs).run Go.Proofs.Tryz.prog w= .ok (.enter 161 vs) w:=Go.Proofs.enters_of Go.Proofs.Tryz.func161 (by kernel_rfl) rfl
theorem en162 (W:World): ∀(vs:Array Value) (w:World),(callFunc 162 vs).run Go.Proofs.Tryz.prog w= .ok (.enter 162 vs) w:=Go.Proofs.enters_of Go.Proofs.Tryz.func162 (by kernel_rfl) rfl
theorem We (W:World): ∀(vs:Array Value) (w:World),(callFunc 163 vs).run Go.Proofs.Tryz.prog w= .ok (.enter 163 vs) w:=Go.Proofs.enters_of Go.Proofs.Tryz.func163 (by kernel_rfl) rfl
theorem en164 (W:World): ∀(vs:Array Value) (w:World),(callFunc 164 vs).run Go.Proofs.Tryz.prog w= .ok (.enter 164 vs) w:=Go.Proofs.enters_of Go.Proofs.Tryz.func164 (by kernel_rfl) rfl
theorem en165 (W:World): ∀(vs:Array Value) (w:World),(callFunc 165 vs).run Go.Proofs.Tryz.prog w= .ok (.enter 165 vs) w:=Go.Proofs.enters_of Go.Proofs.Tryz.func165 (by kernel_rfl) rfl
theorem en167 (W:World): ∀(vs:Array Value) (w:World),(callFunc 167 vs).run Go.Proofs.Tryz.prog w= .ok (.enter 167 vs) w:=Go.Proofs.enters_of Go.Proofs.Tryz.func167 (by kernel_rfl) rfl
theorem en168 (W:World): ∀(vs:Array Value) (w:World),(callFunc 168 vs).run Go.Proofs.Tryz.prog w= .ok (.enter 168 vs) w:=Go.Proofs.enters_of Go.Proofs.Tryz.func168 (by kernel_rfl) rfl
theorem en169 (W:World): ∀(vs:Array Value) (w:World),(callFunc 169 vs).run Go.Proofs.Tryz.prog w= .ok (.enter 169 vs) w:=Go.Proofs.enters_of Go.Proofs.Tryz.func169 (by kernel_rfl) rfl
theorem en188 (W:World): ∀(vs:Array Value) (w:World),(callFunc 188 vs).run Go.Proofs.Tryz.prog w= .ok (.enter 188 vs) w:=Go.Proofs.enters_of Go.Proofs.Tryz.func188 (by kernel_rfl) rfl
theorem Wf (W:World): ∀(vs:Array Value) (w:World),(callFunc 189 vs).run Go.Proofs.Tryz.prog w= .ok (.enter 189 vs) w:=Go.Proofs.enters_of Go.Proofs.Tryz.func189 (by kernel_rfl) rfl
theorem en190 (W:World): ∀(vs:Array Value) (w:World),(callFunc 190 vs).run Go.Proofs.Tryz.prog w= .ok (.enter 190 vs) w:=Go.Proofs.enters_of Go.Proofs.Tryz.func190 (by kernel_rfl) rfl
theorem en191 (W:World): ∀(vs:Array Value) (w:World),(callFunc 191 vs).run Go.Proofs.Tryz.prog w= .ok (.enter 191 vs) w:=Go.Proofs.enters_of Go.Proofs.Tryz.func191 (by kernel_rfl) rfl
theorem en192 (W:World): ∀(vs:Array Value) (w:World),(callFunc 192 vs).run Go.Proofs.Tryz.prog w= .ok (.enter 192 vs) w:=Go.Proofs.enters_of Go.Proofs.Tryz.func192 (by kernel_rfl) rfl
theorem en193 (W:World): ∀(vs:Array Value) (w:World),(callFunc 193 vs).run Go.Proofs.Tryz.prog w= .ok (.enter 193 vs) w:=Go.Proofs.enters_of Go.Proofs.Tryz.func193 (by kernel_rfl) rfl
theorem en194 (W:World): ∀(vs:Array Value) (w:World),(callFunc 194 vs).run Go.Proofs.Tryz.prog w= .ok (.enter 194 vs) w:=Go.Proofs.enters_of Go.Proofs.Tryz.func194 (by kernel_rfl) rfl
theorem en195 (W:World): ∀(vs:Array Value) (w:World),(callFunc 195 vs).run Go.Proofs.Tryz.prog w= .ok (.enter 195 vs) w:=Go.Proofs.enters_of Go.Proofs.Tryz.func195 (by kernel_rfl) rfl
theorem en196 (W:World): ∀(vs:Array Value) (w:World),(callFunc 196 vs).run Go.Proofs.Tryz.prog w= .ok (.enter 196 vs) w:=Go.Proofs.enters_of Go.Proofs.Tryz.func196 (by kernel_rfl) rfl
theorem en198 (W:World): ∀(vs:Array Value) (w:World),(callFunc 198 vs).run Go.Proofs.Tryz.prog w= .ok (.enter 198 vs) w:=Go.Proofs.enters_of Go.Proofs.Tryz.func198 (by kernel_rfl) rfl
theorem en199 (W:World): ∀(vs:Array Value) (w:World),(callFunc 199 vs).run Go.Proofs.Tryz.prog w= .ok (.enter 199 vs) w:=Go.Proofs.enters_of Go.Proofs.Tryz.func199 (by kernel_rfl) rfl
theorem en200 (W:World): ∀(vs:Array Value) (w:World),(callFunc 200 vs).run Go.Proofs.Tryz.prog w= .ok (.enter 200 vs) w:=Go.Proofs.enters_of Go.Proofs.Tryz.func200 (by kernel_rfl) rfl
theorem en201 (W:World): ∀(vs:Array Value) (w:World),(callFunc 201 vs).run Go.Proofs.Tryz.prog w= .ok (.enter 201 vs) w:=Go.Proofs.enters_of Go.Proofs.Tryz.func201 (by kernel_rfl) rfl
theorem en219 (W:World): ∀(vs:Array Value) (w:World),(callFunc 219 vs).run Go.Proofs.Tryz.prog w= .ok (.enter 219 vs) w:=Go.Proofs.enters_of Go.Proofs.Tryz.func219 (by kernel_rfl) rfl
theorem en220 (W:World): ∀(vs:Array Value) (w:World),(callFunc 220 vs).run Go.Proofs.Tryz.prog w= .ok (.enter 220 vs) w:=Go.Proofs.enters_of Go.Proofs.Tryz.func220 (by kernel_rfl) rfl
theorem en221 (W:World): ∀(vs:Array Value) (w:World),(callFunc 221 vs).run Go.Proofs.Tryz.prog w= .ok (.enter 221 vs) w:=Go.Proofs.enters_of Go.Proofs.Tryz.func221 (by kernel_rfl) rfl
theorem en222 (W:World): ∀(vs:Array Value) (w:World),(callFunc 222 vs).run Go.Proofs.Tryz.prog w= .ok (.enter 222 vs) w:=Go.Proofs.enters_of Go.Proofs.Tryz.func222 (by kernel_rfl) rfl
theorem en223 (W:World): ∀(vs:Array Value) (w:World),(callFunc 223 vs).run Go.Proofs.Tryz.prog w= .ok (.enter 223 vs) w:=Go.Proofs.enters_of Go.Proofs.Tryz.func223 (by kernel_rfl) rfl
theorem en224 (W:World): ∀(vs:Array Value) (w:World),(callFunc 224 vs).run Go.Proofs.Tryz.prog w= .ok (.enter 224 vs) w:=Go.Proofs.enters_of Go.Proofs.Tryz.func224 (by kernel_rfl) rfl
theorem en225 (W:World): ∀(vs:Array Value) (w:World),(callFunc 225 vs).run Go.Proofs.Tryz.prog w= .ok (.enter 225 vs) w:=Go.Proofs.enters_of Go.Proofs.Tryz.func225 (by kernel_rfl) rfl
theorem en236 (W:World): ∀(vs:Array Value) (w:World),(callFunc 236 vs).run Go.Proofs.Tryz.prog w= .ok (.enter 236 vs) w:=Go.Proofs.enters_of Go.Proofs.Tryz.func236 (by kernel_rfl) rfl
theorem en237 (W:World): ∀(vs:Array Value) (w:World),(callFunc 237 vs).run Go.Proofs.Tryz.prog w= .ok (.enter 237 vs) w:=Go.Proofs.enters_of Go.Proofs.Tryz.func237 (by kernel_rfl) rfl
theorem en238 (W:World): ∀(vs:Array Value) (w:World),(callFunc 238 vs).run Go.Proofs.Tryz.prog w= .ok (.enter 238 vs) w:=Go.Proofs.enters_of Go.Proofs.Tryz.func238 (by kernel_rfl) rfl
theorem sm {p:Prop} (h:p:=by simp only [BB,BC,E6,reduceIte,reduceCtorEq,Nat.reduceEqDiff,Nat.reduceAdd,Nat.reduceSub,Nat.reduceMul,Nat.reduceLT,Nat.reduceLeDiff]<;>rfl):p:=h
theorem Hv {p a0:Prop} (x0:a0) (h:a0→p:=by intro x0;simp only [BB,BC,E6,reduceIte,reduceCtorEq,Nat.reduceEqDiff,Nat.reduceAdd,Nat.reduceSub,Nat.reduceMul,Nat.reduceLT,Nat.reduceLeDiff,decide_true,decide_false,Bool.false_eq_true,Bool.not_true,Bool.not_false,Int.le_refl,x0]<;>rfl):p:=h x0
theorem NQ {p a0 a1:Prop} (x0:a0) (x1:a1) (h:a0→a1→p:=by intro x0 x1;simp only [BB,BC,E6,reduceIte,reduceCtorEq,Nat.reduceEqDiff,Nat.reduceAdd,Nat.reduceSub,Nat.reduceMul,Nat.reduceLT,Nat.reduceLeDiff,decide_true,decide_false,Bool.false_eq_true,Bool.not_true,Bool.not_false,Int.le_refl,x0,x1]<;>rfl):p:=h x0 x1
theorem JP {p a0 a1 a2:Prop} (x0:a0) (x1:a1) (x2:a2) (h:a0→a1→a2→p:=by intro x0 x1 x2;simp only [BB,BC,E6,reduceIte,reduceCtorEq,Nat.reduceEqDiff,Nat.reduceAdd,Nat.reduceSub,Nat.reduceMul,Nat.reduceLT,Nat.reduceLeDiff,decide_true,decide_false,Bool.false_eq_true,Bool.not_true,Bool.not_false,Int.le_refl,x0,x1,x2]<;>rfl):p:=h x0 x1 x2
theorem PW {p a0 a1 a2 a3:Prop} (x0:a0) (x1:a1) (x2:a2) (x3:a3) (h:a0→a1→a2→a3→p:=by intro x0 x1 x2 x3;simp only [BB,BC,E6,reduceIte,reduceCtorEq,Nat.reduceEqDiff,Nat.reduceAdd,Nat.reduceSub,Nat.reduceMul,Nat.reduceLT,Nat.reduceLeDiff,decide_true,decide_false,Bool.false_eq_true,Bool.not_true,Bool.not_false,Int.le_refl,x0,x1,x2,x3]<;>rfl):p:=h x0 x1 x2 x3
theorem WW {p a0 a1 a2 a3 a4:Prop} (x0:a0) (x1:a1) (x2:a2) (x3:a3) (x4:a4) (h:a0→a1→a2→a3→a4→p:=by intro x0 x1 x2 x3 x4;simp only [BB,BC,E6,reduceIte,reduceCtorEq,Nat.reduceEqDiff,Nat.reduceAdd,Nat.reduceSub,Nat.reduceMul,Nat.reduceLT,Nat.reduceLeDiff,decide_true,decide_false,Bool.false_eq_true,Bool.not_true,Bool.not_false,Int.le_refl,x0,x1,x2,x3,x4]<;>rfl):p:=h x0 x1 x2 x3 x4
end Go.Lift
namespace Go.Lift
open Go Go.RowKit
section
variable (W:World)
theorem Pm (b:Int):Ar Go.Proofs.Tryz.prog W 237 [.i .u8 b] (.b (X5 b)) []:=by
 refine C8 (fn:=Go.Proofs.Tryz.f237) Go.Proofs.Tryz.func237 rfl (en237 W) (ts:=[2]) rfl le ?_
 refine Ah.seq ?_
 refine Ah.region A6 ?_
 refine A4.sq sm le ?_
 refine Ah.seq ?_
 by_cases h1:97≤b<;>by_cases h2:b≤122<;>by_cases h3:48≤b<;>by_cases h4:b≤57<;>by_cases h5:b=95
 all_goals try (exfalso;omega)
 all_goals
  refine Ah.region A6 ?_
  iterate 3 (refine A4.sq (WW h1 h2 h3 h4 h5) le ?_)
  iterate 2 (first|(refine Gy rfl rfl ?_;refine A4.sq (WW h1 h2 h3 h4 h5) le ?_)|refine Gn rfl rfl le ?_|refine Gu rfl rfl le ?_)
  iterate 2 (refine A4.sq (WW h1 h2 h3 h4 h5) le ?_)
  iterate 6 (first|(refine Gy rfl rfl ?_;refine A4.sq (WW h1 h2 h3 h4 h5) le ?_)|refine Gn rfl rfl le ?_|refine Gu rfl rfl le ?_)
  iterate 2 (refine A4.sq (WW h1 h2 h3 h4 h5) le ?_)
  iterate 2 (first|(refine Gy rfl rfl ?_;refine A4.sq (WW h1 h2 h3 h4 h5) le ?_)|refine Gn rfl rfl le ?_|refine Gu rfl rfl le ?_)
  iterate 2 (refine A4.sq (WW h1 h2 h3 h4 h5) le ?_)
  refine Ah.ret ⟨[],Or.inr rfl,List.nodup_nil,rfl,trivial,?_⟩
  simp [Cm,BD,C3,X5,h1,h2,h3,h4,h5]
theorem HK {g:FuncId} {p:Nat→Bool} (hg: ∀x:Nat,x≤1114111→Ar Go.Proofs.Tryz.prog W g [.i .i32 (x:Int)] (.b (p x)) []) (s:ByteArray) (hM:g<1000000:=by decide):
  Ar Go.Proofs.Tryz.prog W 225 [.s s,.fn g []] (.b (decide (0≤Lib.idxFunc p true s))) []:=by
 refine DE (en225 W) fun w Y vs hG hvs=> ?_
 simp only [H3,IO,Tw,CR,FL] at hvs
 obtain ⟨v1,r1,rfl,⟨rfl,hs⟩,v2,r2,rfl,⟨cs,ef,hcs⟩,rfl⟩:=hvs
 have:cs= #[]:=by apply Array.ext';simpa using hcs
 subst this
 rcases ef with ⟨_,rfl⟩|⟨hM2,_⟩
 rotate_left
 ·exact absurd hM (Nat.not_lt.2 hM2)
 refine (Go.Proofs.Tryz.strings_ContainsFunc_grows g #[] ((hg 0 (by omega)).entersP hM) p s w fun W' x hx hb=> ?_).mono ?_
 ·refine ((hg x hx).callsP hM W' (fun _=>False) [.int .i32 x] (hG.mono hb) (fun _ h=>h.elim) (by simp [FL,CR])).mono ?_
  rintro e w' ⟨v,μ',rfl,_,hv,hsim,_⟩
  simp only [VR,CR] at hv
  exact ⟨by rw [hv],hsim.below⟩
 ·rintro e w' ⟨rfl,hb⟩
  exact ⟨_,rfl,by simp only [VR,CR],hb⟩
theorem HL (s:ByteArray) (r:Int) (h0:0≤r) (h1:r<128):
  Ar Go.Proofs.Tryz.prog W 238 [.s s,.i .i32 r] (.b (decide (0≤Lib.indexByte s.data.toList r.toNat.toUInt8))) []:=by
 refine DE (en238 W) fun w Y vs hG hvs=> ?_
 simp only [H3,IO,Tw,CR_i] at hvs
 obtain ⟨v1,r1,rfl,⟨rfl,hs⟩,v2,r2,rfl,rfl,rfl⟩:=hvs
 refine (Go.Proofs.Tryz.strings_ContainsRune_ascii s r w h0 h1).mono ?_
 rintro e w' ⟨rfl,rfl⟩
 exact ⟨_,rfl,by simp only [VR,CR],Below.refl _ _⟩
theorem UW {W w:World} (hG:Ga W w) {a:Addr} {u:Value} (h:W.cell? a=some u):w.cell? a=some u:=by
 rw [Fe (hG.block _ (Js h))];exact h
theorem TV {m:Int} (hW:W.cell? ⟨0,0,none⟩=some (.int .i64 m)) (s:ByteArray) (c:UInt8) (hs:s.size<4294967281):
  Ar Go.Proofs.Tryz.prog W 200 [.s s,.s ⟨#[c]⟩] (.own 0 0 ((CN c s.data.toList).map (fun l=>AV.s (H2 l))).length) [⟨9,1,(CN c s.data.toList).map (fun l=>AV.s (H2 l))⟩]:=by
 refine O2 (en200 W) (by omega) fun w Y vs hG hvs=> ?_
 simp only [H3,IO,Tw] at hvs
 obtain ⟨v1,r1,rfl,⟨rfl,hs1⟩,v2,r2,rfl,⟨rfl,hs2⟩,rfl⟩:=hvs
 refine (Go.Proofs.Tryz.strings_Split s ⟨#[c]⟩ m w hs (UW hG hW) (Nat.le_refl 1)).mono ?_
 rintro e w' ⟨rfl,rfl⟩
 obtain ⟨e1,e2⟩:=Tm c s
 rw [←e2,e1]
 simp only [List.length_map]
 refine ⟨_,(CN c s.data.toList).map (fun l=>Value.string (H2 l)),rfl,⟨by simp,Or.inr ⟨w.heap.size,_,_,rfl,Nat.le_refl _,K2 _ _,by simp,?_,by simp,by rw [Nat.mul_one,List.take_of_length_le (by simp),List.map_map];rfl⟩⟩,by simp,(Below.refl _ w).alloc (Nat.le_refl _) _,fun j x hx=> ?_⟩
 ·rw [←List.length_map (f:=H2),←e1,e2]
  have:=Lib.count_le s.data.toList [c]
  have h2:s.data.toList.length=s.size:=by rw [Array.length_toList];rfl
  show Lib.count s.data.toList [c]+1≤_
  unfold maxLen;omega
 ·simp only [List.getElem?_map] at hx ⊢
  obtain ⟨l,hl,rfl⟩:=Option.map_eq_some_iff.1 hx
  refine ⟨rfl,fun i y hy=> ?_⟩
  cases i with
  |succ i=>simp [AV.cells] at hy
  |zero=>
   simp [AV.cells] at hy
   subst hy
   refine ⟨_,by rw [Nat.mul_one,Nat.add_zero,hl];rfl,?_,rfl⟩
   rw [Tw]
   refine ⟨rfl,?_⟩
   have h3:=Jj c _ l (List.mem_of_getElem? hl)
   have h2:s.data.toList.length=s.size:=by rw [Array.length_toList];rfl
   show l.toArray.size≤Gb
   rw [List.size_toArray];omega
theorem V2 {m:Int} (hW:W.cell? ⟨0,0,none⟩=some (.int .i64 m)) (s:ByteArray) (c:UInt8) (hs:s.size<4294967281):
  Ar Go.Proofs.Tryz.prog W 200 [.s s,.s ⟨#[c]⟩] (.own 0 0 ((CN c s.data.toList).map H2).length) [⟨9,1,((CN c s.data.toList).map H2).map .s⟩]:=by
 have:=TV W hW s c hs
 simpa only [List.map_map,Function.comp_def,List.length_map] using this
theorem SP (nl:Bool) (xs:List ByteArray) (sep:ByteArray) (hlen:(Lib.join (xs.map (·.data.toList)) sep.data.toList).length≤140737488355328) (hN:xs.length≤140737488355328):
  Ar Go.Proofs.Tryz.prog W 192 [.sl 1 nl (xs.map .s),.s sep] (.s ⟨(Lib.join (xs.map (·.data.toList)) sep.data.toList).toArray⟩) []:=by
 refine DE (en192 W) fun w Y vs hG hvs=> ?_
 simp only [H3,IO,Tw,Qv,List.length_map] at hvs
 obtain ⟨v1,r1,rfl,h1,v2,r2,rfl,⟨rfl,hs2⟩,rfl⟩:=hvs
 have hr:VR w (Eo Y) (.s ⟨(Lib.join (xs.map (·.data.toList)) sep.data.toList).toArray⟩) (.string ⟨(Lib.join (xs.map (·.data.toList)) sep.data.toList).toArray⟩):=by
  simp only [VR,CR]
  refine ⟨trivial,?_⟩
  show (Lib.join (xs.map (·.data.toList)) sep.data.toList).toArray.size≤_
  unfold Gb
  simp only [List.size_toArray];omega
 rcases h1 with ⟨hx,rfl⟩|⟨_,a,c,rfl,hc,hl,hrows⟩
 ·have hx':xs=[]:=by simpa using hx
  subst hx'
  refine (Go.Proofs.Tryz.strings_Join_none none 0 sep w).mono ?_
  rintro e w' ⟨rfl,rfl⟩
  exact ⟨_,rfl,hr,Below.refl _ _⟩
 ·by_cases hx:xs=[]
  ·subst hx
   refine (Go.Proofs.Tryz.strings_Join_none (some a) c sep w).mono ?_
   rintro e w' ⟨rfl,rfl⟩
   exact ⟨_,rfl,hr,Below.refl _ _⟩
  ·obtain ⟨h1,h2,h3⟩:=NW hrows hx
   rw [h1]
   refine (Go.Proofs.Tryz.strings_Join a.block a.off c xs sep w (fun j x hj=>(h3 j x hj).1) h2 hN hc hlen).mono ?_
   rintro e w' ⟨rfl,hb⟩
   refine ⟨_,rfl,?_,hb⟩
   simp only [VR,CR] at hr ⊢;exact hr
theorem WB (x:Nat) (hx:x≤1114111):Ar Go.Proofs.Tryz.prog W 224 [.i .i32 (x:Int)] (.b (N3 x)) []:=by
 refine C8 (fn:=Go.Proofs.Tryz.f224) Go.Proofs.Tryz.func224 rfl (en224 W) (ts:=[2]) rfl le ?_
 refine Ah.seq ?_
 refine Ah.region A6 ?_
 refine A4.sq sm le ?_
 refine Ah.seq ?_
 by_cases h1:x<128
 ·have h1':((x:Int)<128):=by omega
  have hw:=wrap_u8 (n:=x) (by omega)
  by_cases h2:X5 x=true
  ·refine Ah.region A6 ?_
   iterate 3 (refine A4.sq (JP h1' h2 hw) le ?_)
   iterate 2 (first|(refine Gy rfl rfl ?_;refine A4.sq (JP h1' h2 hw) le ?_)|refine Gn rfl rfl le ?_|refine Gu rfl rfl le ?_)
   first|(refine Gy rfl rfl ?_;refine A4.sc0 (JP h1' h2 hw) (by simp [Ab,closed]) (Pm W x) (by simp [Ab,closed]) le ?_)|refine Gn rfl rfl le ?_|refine Gu rfl rfl le ?_
   iterate 2 (first|(refine Gy rfl rfl ?_;refine A4.sq (JP h1' h2 hw) le ?_)|refine Gn rfl rfl le ?_|refine Gu rfl rfl le ?_)
   first|(refine Gy rfl rfl ?_;refine A4.sc0 (JP h1' h2 hw) (by simp [Ab,closed]) (HL W _ _ (by omega) h1') (by simp [Ab,closed]) le ?_)|refine Gn rfl rfl le ?_|refine Gu rfl rfl le ?_
   first|(refine Gy rfl rfl ?_;refine A4.sq (JP h1' h2 hw) le ?_)|refine Gn rfl rfl le ?_|refine Gu rfl rfl le ?_
   iterate 2 (refine A4.sq (JP h1' h2 hw) le ?_)
   refine Ah.ret ⟨[],Or.inr rfl,List.nodup_nil,rfl,trivial,?_⟩
   simp [Cm,BD,C3,N3,h1,h2]
  ·simp only [Bool.not_eq_true] at h2
   have hi:=index3 h1
   rw [Int.toNat_natCast] at hi
   refine Ah.region A6 ?_
   iterate 3 (refine A4.sq (JP h1' h2 hw) le ?_)
   iterate 2 (first|(refine Gy rfl rfl ?_;refine A4.sq (JP h1' h2 hw) le ?_)|refine Gn rfl rfl le ?_|refine Gu rfl rfl le ?_)
   first|(refine Gy rfl rfl ?_;refine A4.sc0 (JP h1' h2 hw) (by simp [Ab,closed]) (Pm W x) (by simp [Ab,closed]) le ?_)|refine Gn rfl rfl le ?_|refine Gu rfl rfl le ?_
   iterate 2 (first|(refine Gy rfl rfl ?_;refine A4.sq (JP h1' h2 hw) le ?_)|refine Gn rfl rfl le ?_|refine Gu rfl rfl le ?_)
   first|(refine Gy rfl rfl ?_;refine A4.sc0 (JP h1' h2 hw) (by simp [Ab,closed]) (HL W _ _ (by omega) h1') (by simp [Ab,closed]) le ?_)|refine Gn rfl rfl le ?_|refine Gu rfl rfl le ?_
   first|(refine Gy rfl rfl ?_;refine A4.sq (JP h1' h2 hw) le ?_)|refine Gn rfl rfl le ?_|refine Gu rfl rfl le ?_
   iterate 2 (refine A4.sq (JP h1' h2 hw) le ?_)
   refine Ah.ret ⟨[],Or.inr rfl,List.nodup_nil,rfl,trivial,?_⟩
   simp only [Cm,BD,C3,N3,h1,h2,reduceIte,Nat.reduceEqDiff,decide_true,Bool.true_and,Bool.false_or,←hi]
 ·have h1': ¬((x:Int)<128):=by omega
  refine Ah.region A6 ?_
  iterate 3 (refine A4.sq (Hv h1') le ?_)
  iterate 2 (first|(refine Gy rfl rfl ?_;refine A4.sq (Hv h1') le ?_)|refine Gn rfl rfl le ?_|refine Gu rfl rfl le ?_)
  first|(refine Gy rfl rfl ?_;refine A4.sc0 (Hv h1') (by simp [Ab,closed]) (Pm W x) (by simp [Ab,closed]) le ?_)|refine Gn rfl rfl le ?_|refine Gu rfl rfl le ?_
  iterate 2 (first|(refine Gy rfl rfl ?_;refine A4.sq (Hv h1') le ?_)|refine Gn rfl rfl le ?_|refine Gu rfl rfl le ?_)
  first|(refine Gy rfl rfl ?_;refine A4.sc0 (Hv h1') (by simp [Ab,closed]) (HL W _ _ (by omega) (by omega)) (by simp [Ab,closed]) le ?_)|refine Gn rfl rfl le ?_|refine Gu rfl rfl le ?_
  first|(refine Gy rfl rfl ?_;refine A4.sq (Hv h1') le ?_)|refine Gn rfl rfl le ?_|refine Gu rfl rfl le ?_
  iterate 2 (refine A4.sq (Hv h1') le ?_)
  refine Ah.ret ⟨[],Or.inr rfl,List.nodup_nil,rfl,trivial,?_⟩
  simp [Cm,BD,C3,N3,h1]
theorem NH (x:Nat) (hx:x≤1114111):Ar Go.Proofs.Tryz.prog W 223 [.i .i32 (x:Int)] (.b (!N3 x)) []:=by
 refine C8 (fn:=Go.Proofs.Tryz.f223) Go.Proofs.Tryz.func223 rfl (en223 W) (ts:=[2]) rfl le ?_
 refine Ah.seq ?_
 refine Ah.region A6 ?_
 refine A4.sq sm le ?_
 refine Ah.seq ?_
 refine Ah.region A6 ?_
 refine A4.sq sm le ?_
 refine A4.sc0 sm (by simp [Ab,closed]) (WB W x hx) (by simp [Ab,closed]) le ?_
 iterate 2 (refine A4.sq sm le ?_)
 refine Ah.ret ⟨[],Or.inr rfl,List.nodup_nil,rfl,trivial,?_⟩
 simp [Cm,BD,C3]
theorem Gz (s:ByteArray):Ar Go.Proofs.Tryz.prog W 199 [.s s] (.b (Ix s)) []:=by
 refine Fg (en199 W) fun hl=> ?_
 simp only [Hx,lim] at hl
 refine C8 (fn:=Go.Proofs.Tryz.f199) Go.Proofs.Tryz.func199 rfl (en199 W) (ts:=[2]) rfl le ?_
 refine Ah.seq ?_
 refine Ah.region A6 ?_
 refine A4.sq sm le ?_
 refine Ah.seq ?_
 refine Ah.region A6 ?_
 refine A4.sq sm le ?_
 refine Ah.seq ?_
 have hm:=mayS_eq s
 by_cases h1:s=⟨#[]⟩
 ·refine Ah.region A6 ?_
  iterate 3 (refine A4.sq (Hv h1) le ?_)
  iterate 3 (first|(refine Gy rfl rfl ?_;refine A4.sq (Hv h1) le ?_)|refine Gn rfl rfl le ?_|refine Gu rfl rfl le ?_)
  iterate 2 (refine A4.sq (Hv h1) le ?_)
  iterate 2 (first|(refine Gy rfl rfl ?_;refine A4.sq (Hv h1) le ?_)|refine Gn rfl rfl le ?_|refine Gu rfl rfl le ?_)
  first|(refine Gy rfl rfl ?_;refine A4.sc0 (Hv h1) (by simp [Ab,closed]) (HK W (NH W) s) (by simp [Ab,closed]) le ?_)|refine Gn rfl rfl le ?_|refine Gu rfl rfl le ?_
  first|(refine Gy rfl rfl ?_;refine A4.sq (Hv h1) le ?_)|refine Gn rfl rfl le ?_|refine Gu rfl rfl le ?_
  iterate 2 (refine A4.sq (Hv h1) le ?_)
  refine Ah.ret ⟨[],Or.inr rfl,List.nodup_nil,rfl,trivial,?_⟩
  have hz:Ix s=false:=by rw [hm,decide_eq_true h1];rfl
  simp [Cm,BD,C3,hz]
 ·by_cases h2:(s.size:Int)≤16
  ·refine Ah.region A6 ?_
   iterate 3 (refine A4.sq (NQ h1 h2) le ?_)
   iterate 3 (first|(refine Gy rfl rfl ?_;refine A4.sq (NQ h1 h2) le ?_)|refine Gn rfl rfl le ?_|refine Gu rfl rfl le ?_)
   iterate 2 (refine A4.sq (NQ h1 h2) le ?_)
   iterate 2 (first|(refine Gy rfl rfl ?_;refine A4.sq (NQ h1 h2) le ?_)|refine Gn rfl rfl le ?_|refine Gu rfl rfl le ?_)
   first|(refine Gy rfl rfl ?_;refine A4.sc0 (NQ h1 h2) (by simp [Ab,closed]) (HK W (NH W) s) (by simp [Ab,closed]) le ?_)|refine Gn rfl rfl le ?_|refine Gu rfl rfl le ?_
   first|(refine Gy rfl rfl ?_;refine A4.sq (NQ h1 h2) le ?_)|refine Gn rfl rfl le ?_|refine Gu rfl rfl le ?_
   iterate 2 (refine A4.sq (NQ h1 h2) le ?_)
   refine Ah.ret ⟨[],Or.inr rfl,List.nodup_nil,rfl,trivial,?_⟩
   simp [Cm,BD,C3,hm,h1,h2]
  ·refine Ah.region A6 ?_
   iterate 3 (refine A4.sq (NQ h1 h2) le ?_)
   iterate 3 (first|(refine Gy rfl rfl ?_;refine A4.sq (NQ h1 h2) le ?_)|refine Gn rfl rfl le ?_|refine Gu rfl rfl le ?_)
   iterate 2 (refine A4.sq (NQ h1 h2) le ?_)
   iterate 2 (first|(refine Gy rfl rfl ?_;refine A4.sq (NQ h1 h2) le ?_)|refine Gn rfl rfl le ?_|refine Gu rfl rfl le ?_)
   first|(refine Gy rfl rfl ?_;refine A4.sc0 (NQ h1 h2) (by simp [Ab,closed]) (HK W (NH W) s) (by simp [Ab,closed]) le ?_)|refine Gn rfl rfl le ?_|refine Gu rfl rfl le ?_
   first|(refine Gy rfl rfl ?_;refine A4.sq (NQ h1 h2) le ?_)|refine Gn rfl rfl le ?_|refine Gu rfl rfl le ?_
   iterate 2 (refine A4.sq (NQ h1 h2) le ?_)
   refine Ah.ret ⟨[],Or.inr rfl,List.nodup_nil,rfl,trivial,?_⟩
   simp [Cm,BD,C3,hm,h1,h2]
theorem Pu {m:Int} (hW:W.cell? ⟨0,0,none⟩=some (.int .i64 m)) (s:ByteArray):Ar Go.Proofs.Tryz.prog W 164 [.s s] (.tup [.s (CM s).1,.i .i64 (CM s).2]) []:=by
 refine Fg (en164 W) fun hl=> ?_
 simp only [Hx,lim] at hl
 refine C8 (fn:=Go.Proofs.Tryz.f164) Go.Proofs.Tryz.func164 rfl (en164 W) (ts:=[2,3]) rfl le ?_
 refine Ah.seq ?_
 refine Ah.region A6 ?_
 iterate 2 (refine A4.sq sm le ?_)
 refine Ah.seq (Ah.seq ?_)
 by_cases hm:Ix s=true
 ·have hm':=hm
  unfold Ix mayL at hm'
  simp only [Bool.and_eq_true,decide_eq_true_eq,Bool.not_eq_true'] at hm'
  obtain ⟨⟨hne,h16⟩,hok⟩:=hm'
  obtain ⟨b,l,hbl⟩: ∃b l,s.data.toList=b::l:=by
   cases e:s.data.toList with
   |nil=>rw [e] at hne;simp at hne
   |cons b l=>exact ⟨b,l,rfl⟩
  have h0:s.data[0]? =some b:=by
   have:s.data.toList[0]? =some b:=by rw [hbl];rfl
   simpa using this
  have hsz:s.size<4294967281:=by
   have:s.data.toList.length=s.size:=by rw [Array.length_toList];rfl
   omega
  by_cases h47:b=47
  ·have hb:((b.toNat:Int)=47):=by subst h47;rfl
   refine Ah.region A6 ?_
   refine A4.sq (JP hm h0 hb) le ?_
   refine A4.sc0 (JP hm h0 hb) (by simp [Ab,closed]) (Gz W s) (by simp [Ab,closed]) le ?_
   iterate 2 (refine A4.sq (JP hm h0 hb) le ?_)
   iterate 3 (first|(refine Gy rfl rfl ?_;refine A4.sq (JP hm h0 hb) le ?_)|refine Gn rfl rfl le ?_|refine Gu rfl rfl le ?_)
   refine A4.sq (JP hm h0 hb) le ?_
   refine Ah.cond (t:=true) (by simp only [BB,reduceIte,Nat.reduceEqDiff]) (Ah.seq ?_)
   refine Ah.region A6 ?_
   iterate 2 (refine A4.sq sm le ?_)
   refine Ah.ret ⟨[],Or.inr rfl,List.nodup_nil,rfl,trivial,?_⟩
   have hz:CM s=(⟨#[]⟩,200):=by unfold CM;rw [if_pos (Or.inr (by rw [hbl,h47];rfl))]
   simp [Cm,BD,C3,mapC,Ab,closed,hz]
  ·have hb: ¬((b.toNat:Int)=47):=fun e=>h47 (UInt8.toNat_inj.1 (by have:(47:UInt8).toNat=47:=rfl;omega))
   refine Ah.region A6 ?_
   refine A4.sq (JP hm h0 hb) le ?_
   refine A4.sc0 (JP hm h0 hb) (by simp [Ab,closed]) (Gz W s) (by simp [Ab,closed]) le ?_
   iterate 2 (refine A4.sq (JP hm h0 hb) le ?_)
   iterate 3 (first|(refine Gy rfl rfl ?_;refine A4.sq (JP hm h0 hb) le ?_)|refine Gn rfl rfl le ?_|refine Gu rfl rfl le ?_)
   refine A4.sq (JP hm h0 hb) le ?_
   refine Ah.cond (t:=false) (by simp only [BB,reduceIte,Nat.reduceEqDiff]) (Ah.skip ?_)
   refine Ah.seq ?_
   refine Ah.region A6 ?_
   refine A4.sq sm le ?_
   refine Ah.seq (Ah.seq ?_)
   have hsp:=V2 W hW s 47 hsz
   have hcl:CM s=match Lh ((CN 47 s.data.toList).map H2) [] with
     |some (k::ks)=>(SK (k::ks),0)
     |_=>(⟨#[]⟩,200):=by
    unfold CM
    rw [if_neg (by rw [hbl,hm];simpa using h47)];rfl
   have hlen:((CN 47 s.data.toList).map H2).length≤17:=by
    rw [List.length_map];have:=Nc 47 s.data.toList;omega
   have hpl: ∀p∈(CN 47 s.data.toList).map H2,p.data.toList.length≤16:=by
    intro p hp
    obtain ⟨q,hq,rfl⟩:=List.mem_map.1 hp
    rw [QY]
    have:=Jj 47 _ q hq;omega
   generalize (CN 47 s.data.toList).map H2=ps at hsp hcl hlen hpl
   refine Ah.region A6 ?_
   refine A4.sq sm le ?_
   refine A4.sr sm (by simp [Ab,closed]) hsp (by exact J2 _) le ?_
   iterate 2 (refine A4.sq sm le ?_)
   refine Ah.block (Ah.fits [] (env':=[(0,.s s),(2,.s ⟨#[]⟩),(3,.i .i64 0),(4,.sl 1 true []),(16,.sl 1 false (ps.map .s)),(17,.i .i64 ps.length),(18,.i .i64 (0:Nat))]) (h':=⟨0,[]⟩) ⟨List.nodup_nil,rfl,trivial,⟨A8 rfl,A8 rfl,A8 rfl,A8 rfl,?_,A8 rfl,A8 rfl,trivial⟩⟩ B4 (Ah.loop (fun k env h=> ∃i kept x,i+k=ps.length∧KeptIs 9 x h kept∧kept.length≤i∧(∀q∈kept,q∈ps)∧Lh (ps.drop i) kept=Lh ps []∧env=[(0,.s s),(2,.s ⟨#[]⟩),(3,.i .i64 0),(4,x),(16,.sl 1 false (ps.map .s)),(17,.i .i64 ps.length),(18,.i .i64 i)]) ps.length ?_ ?_))
   ·refine (TN (off:=0) (xs:=ps) rfl rfl rfl (by omega) (by unfold Gb;omega)).trans ?_
    rw [List.drop_zero,List.take_length]
   ·exact ⟨0,[],_,by simp,Or.inl ⟨rfl,rfl,rfl⟩,by simp,by simp,by simp,rfl⟩
   ·rintro k env h ⟨i,kept,x,hk,hK,hki,hmem,hfold,rfl⟩
    refine Ah.seq ?_
    refine Ah.region A6 ?_
    refine A4.sq sm le ?_
    refine Ah.seq ?_
    rcases Nat.lt_or_ge i ps.length with hlt|hge
    ·refine Ah.cond (t:=true) (by simp only [BB,reduceIte,Nat.reduceEqDiff];simpa using hlt) (Ah.skip ?_)
     refine Ah.seq (Ah.block (Ah.seq ?_))
     have hx:ps[i]? =some ps[i]:=List.getElem?_eq_getElem hlt
     generalize ps[i]=p at hx
     rw [TP hx] at hfold
     have hw:=H1 hlt (by omega:ps.length≤281474976710656)
     refine Ah.region A6 ?_
     iterate 3 (refine A4.sq (Hv hx) le ?_)
     refine Ah.block (Ah.seq ?_)
     by_cases hp1:p=⟨#[]⟩∨p=⟨#[46]⟩
     ·have hst:LG kept p=some kept:=by unfold LG;rw [if_pos hp1]
      rw [hst] at hfold
      by_cases hp2:p=⟨#[]⟩
      ·refine Ah.region A6 ?_
       iterate 3 (refine A4.sq (Hv hp2) le ?_)
       iterate 2 (first|(refine Gy rfl rfl ?_;refine A4.sq (Hv hp2) le ?_)|refine Gn rfl rfl le ?_|refine Gu rfl rfl le ?_)
       iterate 2 (refine A4.sq (Hv hp2) le ?_)
       refine Ah.cond (t:=true) (by simp only [BB,reduceIte,Nat.reduceEqDiff]) (Ah.skip ?_)
       refine Ah.region A6 ?_
       iterate 2 (refine A4.sq (Hv hw) le ?_)
       rcases hK with ⟨rfl,rfl,rfl⟩|⟨junk,rfl,rfl⟩
       ·refine ⟨[],[(0,.s s),(2,.s ⟨#[]⟩),(3,.i .i64 0),(4,.sl 1 true []),(16,.sl 1 false (ps.map .s)),(17,.i .i64 ps.length),(18,.i .i64 (i+1:Nat))],⟨0,[]⟩,⟨List.nodup_nil,rfl,trivial,⟨A8 rfl,A8 rfl,A8 rfl,A8 rfl,A8 rfl,A8 rfl,A8 rfl,trivial⟩⟩,B4,k-1,by omega,i+1,[],_,by omega,Or.inl ⟨rfl,rfl,rfl⟩,by simp,by simp,hfold,rfl⟩
       ·refine ⟨[0],[(0,.s s),(2,.s ⟨#[]⟩),(3,.i .i64 0),(4,.own 0 0 (kept.length)),(16,.sl 1 false (ps.map .s)),(17,.i .i64 ps.length),(18,.i .i64 (i+1:Nat))],⟨1,[(0,some ⟨9,1,(kept++junk).map AV.s⟩)]⟩,⟨by simp,rfl,⟨Ju (xs:=kept++junk) rfl rfl,trivial⟩,⟨A8 rfl,A8 rfl,A8 rfl,rfl,A8 rfl,A8 rfl,A8 rfl,trivial⟩⟩,B4,k-1,by omega,i+1,kept,_,by omega,Or.inr ⟨junk,rfl,rfl⟩,by first|omega|(simp;done)|(simp;omega),hmem,hfold,rfl⟩
      ·have hp3:p=⟨#[46]⟩:=hp1.resolve_left hp2
       refine Ah.region A6 ?_
       iterate 3 (refine A4.sq (by simp only [BB,BC,E6,reduceIte,reduceCtorEq,Nat.reduceEqDiff,Nat.reduceAdd,Nat.reduceSub,Nat.reduceMul,Nat.reduceLT,Nat.reduceLeDiff,hp3,decide_true,show ¬(⟨#[46]⟩:ByteArray)=⟨#[]⟩ by decide,decide_false]<;>rfl) le ?_)
       iterate 2 (first|(refine Gy rfl rfl ?_;refine A4.sq (by simp only [BB,BC,E6,reduceIte,reduceCtorEq,Nat.reduceEqDiff,Nat.reduceAdd,Nat.reduceSub,Nat.reduceMul,Nat.reduceLT,Nat.reduceLeDiff,hp3,decide_true,show ¬(⟨#[46]⟩:ByteArray)=⟨#[]⟩ by decide,decide_false]<;>rfl) le ?_)|refine Gn rfl rfl le ?_|refine Gu rfl rfl le ?_)
       iterate 2 (refine A4.sq (by simp only [BB,BC,E6,reduceIte,reduceCtorEq,Nat.reduceEqDiff,Nat.reduceAdd,Nat.reduceSub,Nat.reduceMul,Nat.reduceLT,Nat.reduceLeDiff,hp3,decide_true,show ¬(⟨#[46]⟩:ByteArray)=⟨#[]⟩ by decide,decide_false]<;>rfl) le ?_)
       refine Ah.cond (t:=true) (by simp only [BB,reduceIte,Nat.reduceEqDiff]) (Ah.skip ?_)
       refine Ah.region A6 ?_
       iterate 2 (refine A4.sq (Hv hw) le ?_)
       rcases hK with ⟨rfl,rfl,rfl⟩|⟨junk,rfl,rfl⟩
       ·refine ⟨[],[(0,.s s),(2,.s ⟨#[]⟩),(3,.i .i64 0),(4,.sl 1 true []),(16,.sl 1 false (ps.map .s)),(17,.i .i64 ps.length),(18,.i .i64 (i+1:Nat))],⟨0,[]⟩,⟨List.nodup_nil,rfl,trivial,⟨A8 rfl,A8 rfl,A8 rfl,A8 rfl,A8 rfl,A8 rfl,A8 rfl,trivial⟩⟩,B4,k-1,by omega,i+1,[],_,by omega,Or.inl ⟨rfl,rfl,rfl⟩,by simp,by simp,hfold,rfl⟩
       ·refine ⟨[0],[(0,.s s),(2,.s ⟨#[]⟩),(3,.i .i64 0),(4,.own 0 0 (kept.length)),(16,.sl 1 false (ps.map .s)),(17,.i .i64 ps.length),(18,.i .i64 (i+1:Nat))],⟨1,[(0,some ⟨9,1,(kept++junk).map AV.s⟩)]⟩,⟨by simp,rfl,⟨Ju (xs:=kept++junk) rfl rfl,trivial⟩,⟨A8 rfl,A8 rfl,A8 rfl,rfl,A8 rfl,A8 rfl,A8 rfl,trivial⟩⟩,B4,k-1,by omega,i+1,kept,_,by omega,Or.inr ⟨junk,rfl,rfl⟩,by first|omega|(simp;done)|(simp;omega),hmem,hfold,rfl⟩
     ·have hp2: ¬p=⟨#[]⟩:=fun e=>hp1 (Or.inl e)
      have hp3: ¬p=⟨#[46]⟩:=fun e=>hp1 (Or.inr e)
      refine Ah.region A6 ?_
      iterate 3 (refine A4.sq (NQ hp2 hp3) le ?_)
      iterate 2 (first|(refine Gy rfl rfl ?_;refine A4.sq (NQ hp2 hp3) le ?_)|refine Gn rfl rfl le ?_|refine Gu rfl rfl le ?_)
      iterate 2 (refine A4.sq (NQ hp2 hp3) le ?_)
      refine Ah.cond (t:=false) (by simp only [BB,reduceIte,Nat.reduceEqDiff]) (Ah.seq ?_)
      by_cases hp4:p=⟨#[46,46]⟩
      ·refine Ah.region A6 ?_
       iterate 3 (refine A4.sq (Hv hp4) le ?_)
       refine Ah.cond (t:=false) (by simp only [BB,reduceIte,Nat.reduceEqDiff]) (Ah.seq ?_)
       by_cases hkn:kept=[]
       ·have hst:LG kept p=none:=by unfold LG;rw [if_neg hp1,if_neg (by simpa using hp4),if_pos hkn]
        rw [hst] at hfold
        have hz:CM s=(⟨#[]⟩,200):=by rw [hcl,←hfold];rfl
        subst hkn
        rcases hK with ⟨rfl,-,rfl⟩|⟨junk,rfl,rfl⟩
        ·refine Ah.region A6 ?_
         iterate 4 (refine A4.sq (by simp only [BB,BC,E6,reduceIte,reduceCtorEq,Nat.reduceEqDiff,Nat.reduceAdd,Nat.reduceSub,Nat.reduceMul,Nat.reduceLT,Nat.reduceLeDiff,decide_true,Int.natCast_zero]<;>rfl) le ?_)
         refine Ah.cond (t:=true) (by simp only [BB,reduceIte,Nat.reduceEqDiff]<;>rfl) (Ah.seq ?_)
         refine Ah.region A6 ?_
         iterate 2 (refine A4.sq sm le ?_)
         refine Ah.ret ⟨[],Or.inr rfl,List.nodup_nil,rfl,trivial,?_⟩
         simp [Cm,BD,C3,mapC,Ab,closed,hz]
        ·refine Ah.region A6 ?_
         iterate 4 (refine A4.sq (by simp only [BB,BC,E6,reduceIte,reduceCtorEq,Nat.reduceEqDiff,Nat.reduceAdd,Nat.reduceSub,Nat.reduceMul,Nat.reduceLT,Nat.reduceLeDiff,decide_true,Int.natCast_zero]<;>rfl) le ?_)
         refine Ah.cond (t:=true) (by simp only [BB,reduceIte,Nat.reduceEqDiff]<;>rfl) (Ah.seq ?_)
         refine Ah.region A6 ?_
         iterate 2 (refine A4.sq sm le ?_)
         refine Ah.ret ⟨[],Or.inr rfl,List.nodup_nil,rfl,trivial,?_⟩
         simp [Cm,BD,C3,mapC,Ab,closed,hz]
       ·have hst:LG kept p=some kept.dropLast:=by unfold LG;rw [if_neg hp1,if_neg (by simpa using hp4),if_neg hkn]
        rw [hst] at hfold
        rcases hK with ⟨rfl,h1,rfl⟩|⟨junk,rfl,rfl⟩
        ·exact absurd h1 hkn
        ·have hpos:0<kept.length:=List.length_pos_iff.2 hkn
         have hne: ¬((kept.length:Int)=0):=by omega
         refine Ah.region A6 ?_
         iterate 4 (refine A4.sq (Hv hne) le ?_)
         refine Ah.cond (t:=false) (by simp only [BB,reduceIte,Nat.reduceEqDiff]) ?_
         have hwp:=VE hpos (by omega)
         have hcut:((kept.length-1:Nat):Int)≤((kept.length+junk.length:Nat):Int):=by omega
         have hlj:kept=kept.dropLast++[kept.getLast hkn]:=(List.dropLast_concat_getLast hkn).symm
         have hdl:kept.length-1=kept.dropLast.length:=by rw [List.length_dropLast]
         have hkj:(kept++junk).map AV.s=(kept.dropLast++(kept.getLast hkn::junk)).map AV.s:=by
          conv=>lhs;rw [hlj]
          simp
         refine Ah.region A6 ?_
         iterate 6 (refine A4.sq (by simp only [BB,BC,E6,reduceIte,reduceCtorEq,Nat.reduceEqDiff,Nat.reduceAdd,Nat.reduceSub,Nat.reduceMul,Nat.reduceLT,Nat.reduceLeDiff,hwp,hcut,Int.le_refl,Nat.zero_add,Nat.sub_zero]<;>rfl) le ?_)
         refine Ah.region A6 ?_
         iterate 2 (refine A4.sq (Hv hw) le ?_)
         refine ⟨[0],[(0,.s s),(2,.s ⟨#[]⟩),(3,.i .i64 0),(4,.own 0 0 (kept.length-1)),(16,.sl 1 false (ps.map .s)),(17,.i .i64 ps.length),(18,.i .i64 (i+1:Nat))],⟨1,[(0,some ⟨9,1,(kept.dropLast++(kept.getLast hkn::junk)).map AV.s⟩)]⟩,⟨by simp,rfl,⟨Ju (xs:=kept.dropLast++(kept.getLast hkn::junk)) (by rw [←hkj];rfl) rfl,trivial⟩,⟨A8 rfl,A8 rfl,A8 rfl,rfl,A8 rfl,A8 rfl,A8 rfl,trivial⟩⟩,B4,k-1,by omega,i+1,kept.dropLast,_,by omega,Or.inr ⟨kept.getLast hkn::junk,by rw [hdl],rfl⟩,by rw [←hdl];omega,fun q hq=>hmem q ((List.dropLast_sublist kept).subset hq),hfold,rfl⟩
      ·refine Ah.region A6 ?_
       iterate 3 (refine A4.sq (Hv hp4) le ?_)
       refine Ah.cond (t:=true) (by simp only [BB,reduceIte,Nat.reduceEqDiff]) ?_
       have hst:LG kept p=some (kept++[p]):=by unfold LG;rw [if_neg hp1,if_pos hp4]
       rw [hst] at hfold
       rcases hK with ⟨rfl,rfl,rfl⟩|⟨junk,rfl,rfl⟩
       ·refine Ah.region A6 ?_
        iterate 2 (refine A4.sq sm le ?_)
        refine A4.sn sm le ?_
        refine A4.se sm le ?_
        refine A4.sq sm le ?_
        refine Ah.region A6 ?_
        iterate 2 (refine A4.sq (Hv hw) le ?_)
        have hmem': ∀q∈ [p],q∈ps:=by intro q hq;simp at hq;subst hq;exact List.mem_of_getElem? hx
        refine ⟨[1],[(0,.s s),(2,.s ⟨#[]⟩),(3,.i .i64 0),(4,.own 0 0 ([p].length)),(16,.sl 1 false (ps.map .s)),(17,.i .i64 ps.length),(18,.i .i64 (i+1:Nat))],⟨1,[(0,some ⟨9,1,([p]++[]).map AV.s⟩)]⟩,⟨by simp,rfl,⟨Ju (xs:=[p]++[]) rfl rfl,trivial⟩,⟨A8 rfl,A8 rfl,A8 rfl,rfl,A8 rfl,A8 rfl,A8 rfl,trivial⟩⟩,B4,k-1,by omega,i+1,[p],_,by omega,Or.inr ⟨[],by simp,rfl⟩,by first|omega|(simp;done)|(simp;omega),hmem',hfold,rfl⟩
       ·have hA:(kept.length+1)*16≤140737488355328:=by omega
        have hB:kept.length+1≤Gb:=by unfold Gb;omega
        have hC:kept.length≤kept.length+junk.length:=by omega
        have hT:List.take kept.length (List.map AV.s (kept++junk))=kept.map AV.s:=by simp
        have hM:kept.map AV.s++[AV.s p]=((kept++[p])++[]).map AV.s:=by simp
        refine Ah.region A6 ?_
        iterate 2 (refine A4.sq (WW hA hB hC hT hM) le ?_)
        refine A4.sn (WW hA hB hC hT hM) le ?_
        refine A4.se (WW hA hB hC hT hM) le ?_
        refine A4.sq (WW hA hB hC hT hM) le ?_
        refine Ah.region A6 ?_
        iterate 2 (refine A4.sq (Hv hw) le ?_)
        have hmem': ∀q∈kept++[p],q∈ps:=by
         intro q hq
         rcases List.mem_append.1 hq with hq|hq
         ·exact hmem q hq
         ·simp at hq;subst hq;exact List.mem_of_getElem? hx
        refine ⟨[2],[(0,.s s),(2,.s ⟨#[]⟩),(3,.i .i64 0),(4,.own 0 0 (kept.length+1)),(16,.sl 1 false (ps.map .s)),(17,.i .i64 ps.length),(18,.i .i64 (i+1:Nat))],⟨1,[(0,some ⟨9,1,(kept++[p]).map AV.s⟩)]⟩,⟨by simp,rfl,⟨Ju (xs:=kept++[p]) rfl rfl,trivial⟩,⟨A8 rfl,A8 rfl,A8 rfl,rfl,A8 rfl,A8 rfl,A8 rfl,trivial⟩⟩,B4,k-1,by omega,i+1,(kept++[p]),_,by omega,Or.inr ⟨[],by simp,by simp⟩,by first|omega|(simp;done)|(simp;omega),hmem',hfold,rfl⟩
    ·refine Ah.cond (t:=false) (by simp only [BB,reduceIte,Nat.reduceEqDiff];simpa using hge) (Ah.exit ?_)
     rw [List.drop_eq_nil_of_le hge] at hfold
     have hfold':Lh ps []=some kept:=hfold.symm
     refine Ah.seq (Ah.seq ?_)
     by_cases hkn:kept=[]
     ·have hz:CM s=(⟨#[]⟩,200):=by rw [hcl,hfold',hkn]
      subst hkn
      rcases hK with ⟨rfl,-,rfl⟩|⟨junk,rfl,rfl⟩
      ·refine Ah.region A6 ?_
       iterate 3 (refine A4.sq (by simp only [BB,BC,E6,reduceIte,reduceCtorEq,Nat.reduceEqDiff,Nat.reduceAdd,Nat.reduceSub,Nat.reduceMul,Nat.reduceLT,Nat.reduceLeDiff,decide_true,Int.natCast_zero]<;>rfl) le ?_)
       refine Ah.cond (t:=true) (by simp only [BB,reduceIte,Nat.reduceEqDiff]<;>rfl) (Ah.seq ?_)
       refine Ah.region A6 ?_
       iterate 2 (refine A4.sq sm le ?_)
       refine Ah.ret ⟨[],Or.inr rfl,List.nodup_nil,rfl,trivial,?_⟩
       simp [Cm,BD,C3,mapC,Ab,closed,hz]
      ·refine Ah.region A6 ?_
       iterate 3 (refine A4.sq (by simp only [BB,BC,E6,reduceIte,reduceCtorEq,Nat.reduceEqDiff,Nat.reduceAdd,Nat.reduceSub,Nat.reduceMul,Nat.reduceLT,Nat.reduceLeDiff,decide_true,Int.natCast_zero]<;>rfl) le ?_)
       refine Ah.cond (t:=true) (by simp only [BB,reduceIte,Nat.reduceEqDiff]<;>rfl) (Ah.seq ?_)
       refine Ah.region A6 ?_
       iterate 2 (refine A4.sq sm le ?_)
       refine Ah.ret ⟨[],Or.inr rfl,List.nodup_nil,rfl,trivial,?_⟩
       simp [Cm,BD,C3,mapC,Ab,closed,hz]
     ·rcases hK with ⟨rfl,h1,rfl⟩|⟨junk,rfl,rfl⟩
      ·exact absurd h1 hkn
      ·have hpos:0<kept.length:=List.length_pos_iff.2 hkn
       have hne: ¬((kept.length:Int)=0):=by omega
       have hz:CM s=(SK kept,0):=by
        rw [hcl,hfold']
        cases kept with
        |nil=>exact absurd rfl hkn
        |cons q qs=>rfl
       refine Ah.region A6 ?_
       iterate 3 (refine A4.sq (Hv hne) le ?_)
       refine Ah.cond (t:=false) (by simp only [BB,reduceIte,Nat.reduceEqDiff]) (Ah.skip ?_)
       refine Ah.seq ?_
       have hj:=Ws (kept.map (·.data.toList)) (by intro x hx;obtain ⟨q,hq,rfl⟩:=List.mem_map.1 hx;exact hpl q (hmem q hq))
       rw [List.length_map] at hj
       have htk:(kept++junk).take kept.length=kept:=by simp
       have hsn:=Vw (h:=⟨1,[(0,some ⟨9,1,(kept++junk).map AV.s⟩)]⟩) (e:=9) (n:=kept.length) (xs:=kept++junk) (sep:=⟨#[47]⟩) rfl (by simp) (by unfold Gb;omega)
       rw [htk] at hsn
       refine Ah.region A6 ?_
       refine A4.sq sm le ?_
       refine A4.sf0 sm (by exact hsn) (SP W false kept ⟨#[47]⟩ (by show (Lib.join (kept.map (·.data.toList)) [47]).length≤_;omega) (by omega)) (by simp [flat,flat.flat1,flat.flat2]) (by simp [Ab,closed]) le ?_
       iterate 2 (refine A4.sq sm le ?_)
       refine Ah.ret ⟨[],Or.inr rfl,List.nodup_nil,rfl,trivial,?_⟩
       simp only [Cm,List.map,BD,reduceIte,Nat.reduceEqDiff,C3,mapC,Ab,closed,Bool.and_self,Option.map_some,hz]
       rfl
 ·simp only [Bool.not_eq_true] at hm
  refine Ah.region A6 ?_
  refine A4.sq (Hv hm) le ?_
  refine A4.sc0 (Hv hm) (by simp [Ab,closed]) (Gz W s) (by simp [Ab,closed]) le ?_
  iterate 2 (refine A4.sq (Hv hm) le ?_)
  iterate 3 (first|(refine Gy rfl rfl ?_;refine A4.sq (Hv hm) le ?_)|refine Gn rfl rfl le ?_|refine Gu rfl rfl le ?_)
  refine A4.sq (Hv hm) le ?_
  refine Ah.cond (t:=true) (by simp only [BB,reduceIte,Nat.reduceEqDiff]) (Ah.seq ?_)
  refine Ah.region A6 ?_
  iterate 2 (refine A4.sq sm le ?_)
  refine Ah.ret ⟨[],Or.inr rfl,List.nodup_nil,rfl,trivial,?_⟩
  have hz:CM s=(⟨#[]⟩,200):=by unfold CM;rw [if_pos (Or.inl hm)]
  simp [Cm,BD,C3,mapC,Ab,closed,hz]
theorem path_is (clean:ByteArray→ByteArray×Int) (hc: ∀s,Ar Go.Proofs.Tryz.prog W 164 [.s s] (.tup [.s (clean s).1,.i .i64 (clean s).2]) []) (s:ByteArray):
  Ar Go.Proofs.Tryz.prog W 122 [.s s] (.b (decide ((clean s).2=0)&&decide ((clean s).1=s))) []:=by
 refine C8 (fn:=Go.Proofs.Tryz.f122) Go.Proofs.Tryz.func122 rfl (en122 W) (ts:=[2]) rfl le ?_
 refine Ah.seq ?_
 refine Ah.region A6 ?_
 refine A4.sq sm le ?_
 refine Ah.seq ?_
 refine Ah.region A6 ?_
 refine A4.sq sm le ?_
 refine A4.sc0 sm (by simp [Ab,closed]) (hc s) (by simp [Ab,closed]) le ?_
 iterate 5 (refine A4.sq sm le ?_)
 refine Ah.seq ?_
 by_cases h0:(clean s).2=0
 ·refine Ah.region A6 ?_
  iterate 3 (refine A4.sq sm le ?_)
  refine A4.sgy rfl rfl (by first|rfl|fail) (by simp [h0]) ?_
  refine A4.sq sm le ?_
  refine A4.sgy rfl rfl (by first|rfl|fail) (by simp [h0]) ?_
  refine A4.sq sm le ?_
  refine A4.sgy rfl rfl (by first|rfl|fail) (by simp [h0]) ?_
  iterate 3 (refine A4.sq sm le ?_)
  refine Ah.ret ⟨[],Or.inr rfl,List.nodup_nil,rfl,trivial,?_⟩
  simp [Cm,BD,C3,h0]
 ·refine Ah.region A6 ?_
  iterate 3 (refine A4.sq sm le ?_)
  iterate 3 (refine Se rfl rfl (by first|rfl|fail) (by simp [h0]) le ?_)
  iterate 2 (refine A4.sq sm le ?_)
  refine Ah.ret ⟨[],Or.inr rfl,List.nodup_nil,rfl,trivial,?_⟩
  simp [Cm,BD,C3,h0]
theorem WM (TU:ByteArray→Bool) (hi: ∀s,Ar Go.Proofs.Tryz.prog W 122 [.s s] (.b (TU s)) []) (ss:Strs) (most:Int):
  Ar Go.Proofs.Tryz.prog W 163 [ss.av,.i .i64 most] (.b (ss.xs.all TU&&decide ((ss.xs.length:Int)≤most))) []:=by
 refine Fg (We W) fun hl=> ?_
 simp only [Hx,lim,Strs.av,List.length_map] at hl
 obtain ⟨⟨hn,hnl,-⟩,-⟩:=hl
 unfold Gb at hn
 unfold Strs.av
 obtain ⟨nl,xs⟩:=ss
 simp only at hn hnl ⊢
 refine C8 (fn:=Go.Proofs.Tryz.f163) Go.Proofs.Tryz.func163 rfl (We W) (ts:=[4]) rfl le ?_
 refine Ah.seq ?_
 refine Ah.region A6 ?_
 refine A4.sq sm le ?_
 refine Ah.seq (Ah.seq ?_)
 refine Ah.region A6 ?_
 iterate 3 (refine A4.sq (by simp only [BB,BC,E6,reduceIte,reduceCtorEq,Nat.reduceEqDiff,Nat.reduceAdd,Nat.reduceSub,Nat.reduceMul,Nat.reduceLT,Nat.reduceLeDiff,List.length_map]<;>rfl) le ?_)
 refine Ah.block (Ah.fits [] (env':=[(0,.sl 1 nl (xs.map .s)),(1,.i .i64 most),(4,.b false),(7,.sl 1 nl (xs.map .s)),(8,.i .i64 xs.length),(9,.i .i64 (0:Nat))]) (fitsC ?_) B4 (Ah.loop (fun k env h=> ∃i,i+k=xs.length∧h=⟨0,[]⟩∧(xs.take i).all TU=true∧env=[(0,.sl 1 nl (xs.map .s)),(1,.i .i64 most),(4,.b false),(7,.sl 1 nl (xs.map .s)),(8,.i .i64 xs.length),(9,.i .i64 i)]) xs.length ?_ ?_))
 ·simp [KG,BD,closed,Dt]
 ·exact ⟨0,by simp,rfl,rfl,rfl⟩
 ·rintro k env h ⟨i,hk,rfl,hp,rfl⟩
  refine Ah.seq ?_
  refine Ah.region A6 ?_
  refine A4.sq sm le ?_
  refine Ah.seq ?_
  rcases Nat.lt_or_ge i xs.length with hlt|hge
  ·refine Ah.cond (t:=true) (by simp only [BB,reduceIte,Nat.reduceEqDiff];simpa using hlt) (Ah.skip ?_)
   refine Ah.seq (Ah.block (Ah.seq ?_))
   have hx:xs[i]? =some xs[i]:=List.getElem?_eq_getElem hlt
   generalize xs[i]=x at hx
   refine Ah.region A6 ?_
   iterate 3 (refine A4.sq (Hv hx) le ?_)
   refine Ah.seq ?_
   refine Ah.region A6 ?_
   refine A4.sq sm le ?_
   refine A4.sc0 sm (by simp [Ab,closed]) (hi x) (by simp [Ab,closed]) le ?_
   refine A4.sq sm le ?_
   refine LN (t:= !TU x) (by simp only [BB,reduceIte,Nat.reduceEqDiff]) (fun ht=> ?_) (fun ht=> ?_)
   ·refine Ah.seq ?_
    refine Ah.region A6 ?_
    refine A4.sq sm le ?_
    refine Ah.ret ⟨[],Or.inr rfl,List.nodup_nil,rfl,trivial,?_⟩
    simp only [Cm,BD,C3,reduceIte,Nat.reduceEqDiff,Kg hx (by simpa using ht),Bool.false_and]
   ·refine Ah.skip ?_
    have hw:=H1 hlt hn
    refine Ah.region A6 ?_
    iterate 2 (refine A4.sq (Hv hw) le ?_)
    refine ⟨[],[(0,.sl 1 nl (xs.map .s)),(1,.i .i64 most),(4,.b false),(7,.sl 1 nl (xs.map .s)),(8,.i .i64 xs.length),(9,.i .i64 (i+1:Nat))],⟨0,[]⟩,fitsC ?_,B4,k-1,by omega,i+1,by omega,rfl,Fo hx hp (by simpa using ht),rfl⟩
    simp [KG,BD,closed]
  ·refine Ah.cond (t:=false) (by simp only [BB,reduceIte,Nat.reduceEqDiff];simpa using hge) (Ah.exit ?_)
   refine Ah.seq ?_
   refine Ah.region A6 ?_
   iterate 5 (refine A4.sq sm le ?_)
   refine Ah.ret ⟨[],Or.inr rfl,List.nodup_nil,rfl,trivial,?_⟩
   simp only [Cm,BD,C3,reduceIte,Nat.reduceEqDiff,H7 hp hge,Bool.true_and]
end
end Go.Lift
namespace Go.Lift
open Go Go.RowKit
section
variable (W:World)
theorem P9 {g:FuncId} {caps:List AV} {p:Fd→Bool} (hcaps:Ab caps=true) (es:List Fd) (nl:Bool) (hg: ∀e∈es,Ar Go.Proofs.Tryz.prog W g (e.av::caps) (.b (p e)) []):
  Ar Go.Proofs.Tryz.prog W 221 [.sl 2 nl (es.map Fd.av),.fn g caps] (.i .i64 (KO p es)) []:=by
 refine Fg (en221 W) fun hl=> ?_
 simp only [Hx,lim,List.length_map] at hl
 obtain ⟨⟨hn,-,-⟩,-⟩:=hl
 unfold Gb at hn
 refine C8 (fn:=Go.Proofs.Tryz.f221) Go.Proofs.Tryz.func221 rfl (en221 W) (ts:=[4]) rfl le ?_
 refine Ah.seq ?_
 refine Ah.region A6 ?_
 refine A4.sq sm le ?_
 refine Ah.seq (Ah.seq ?_)
 refine Ah.region A6 ?_
 iterate 3 (refine A4.sq sm le ?_)
 refine Ah.block (Ah.fits [] (env':=[(0,.sl 2 nl (es.map Fd.av)),(1,.fn g caps),(7,.i .i64 es.length),(8,.i .i64 (0:Nat))]) (h':=⟨0,[]⟩) ⟨List.nodup_nil,rfl,trivial,⟨A8 rfl,A8 hcaps,A8 rfl,A8 rfl,trivial⟩⟩ B4 (Ah.loop (fun k env h=> ∃i,i+k=es.length∧h=⟨0,[]⟩∧(es.take i).all (fun e=> !p e)=true∧env=[(0,.sl 2 nl (es.map Fd.av)),(1,.fn g caps),(7,.i .i64 es.length),(8,.i .i64 i)]) es.length ?_ ?_))
 ·exact ⟨0,by simp,rfl,rfl,rfl⟩
 ·rintro k env h ⟨i,hk,rfl,hp,rfl⟩
  refine Ah.seq ?_
  refine Ah.region A6 ?_
  refine A4.sq sm le ?_
  refine Ah.seq ?_
  rcases Nat.lt_or_ge i es.length with hlt|hge
  ·refine Ah.cond (t:=true) (by simp only [BB,reduceIte,Nat.reduceEqDiff];simpa using hlt) (Ah.skip ?_)
   refine Ah.seq (Ah.block (Ah.seq ?_))
   have hx:es[i]? =some es[i]:=List.getElem?_eq_getElem hlt
   generalize es[i]=e at hx
   have hw:=H1 hlt hn
   refine Ah.region A6 ?_
   iterate 2 (refine A4.sq sm le ?_)
   refine Ah.seq ?_
   refine Ah.region A6 ?_
   iterate 5 (refine A4.sq (by simp only [BB,BC,E6,reduceIte,reduceCtorEq,Nat.reduceEqDiff,Nat.reduceAdd,Nat.reduceSub,Nat.reduceMul,Nat.reduceLT,Nat.reduceLeDiff,hx,Fd.av]<;>rfl) le ?_)
   refine A4.sc0 (by simp only [BB,BC,E6,reduceIte,reduceCtorEq,Nat.reduceEqDiff,Nat.reduceAdd,Nat.reduceSub,Nat.reduceMul,Nat.reduceLT,Nat.reduceLeDiff,hx,Fd.av]<;>rfl) (by simp [Ab,closed,hcaps,Sy]) (hg e (List.mem_of_getElem? hx)) (by simp [Ab,closed]) le ?_
   refine LN (t:=p e) (by simp only [BB,reduceIte,Nat.reduceEqDiff]) (fun ht=>Ah.seq ?_) (fun ht=>Ah.skip ?_)
   ·refine Ah.region A6 ?_
    iterate 2 (refine A4.sq sm le ?_)
    refine Ah.ret ⟨[],Or.inr rfl,List.nodup_nil,rfl,trivial,?_⟩
    simp only [Cm,BD,C3,reduceIte,Nat.reduceEqDiff,idxS_at hx hp ht]
   ·refine Ah.region A6 ?_
    iterate 2 (refine A4.sq (Hv hw) le ?_)
    refine ⟨[],[(0,.sl 2 nl (es.map Fd.av)),(1,.fn g caps),(7,.i .i64 es.length),(8,.i .i64 (i+1:Nat))],⟨0,[]⟩,⟨List.nodup_nil,rfl,trivial,⟨A8 rfl,A8 hcaps,A8 rfl,A8 rfl,trivial⟩⟩,B4,k-1,by omega,i+1,by omega,rfl,Fo hx hp (by simpa using ht),rfl⟩
  ·refine Ah.cond (t:=false) (by simp only [BB,reduceIte,Nat.reduceEqDiff];simpa using hge) (Ah.exit ?_)
   refine Ah.seq ?_
   refine Ah.region A6 ?_
   refine A4.sq sm le ?_
   refine Ah.ret ⟨[],Or.inr rfl,List.nodup_nil,rfl,trivial,?_⟩
   simp only [Cm,BD,C3,reduceIte,Nat.reduceEqDiff,UY (H7 hp hge)]
theorem SI (p:Fd) (name:ByteArray):Ar Go.Proofs.Tryz.prog W 222 [p.av,.pt [.s name]] (.b (decide (p.name=name))) []:=by
 unfold Fd.av
 refine C8 (fn:=Go.Proofs.Tryz.f222) Go.Proofs.Tryz.func222 rfl (en222 W) (ts:=[3]) rfl le ?_
 refine Ah.seq ?_
 refine Ah.region A6 ?_
 refine A4.sn sm le ?_
 refine A4.sq sm le ?_
 refine Ah.seq ?_
 refine Ah.region A6 ?_
 iterate 5 (refine A4.sq sm le ?_)
 refine Ah.ret ⟨[],Or.inr rfl,List.nodup_nil,rfl,trivial,?_⟩
 simp only [Cm,BD,C3,reduceIte,Nat.reduceEqDiff]
theorem HJ (g:BW) (name:ByteArray):Ar Go.Proofs.Tryz.prog W 195 [g.pt,.s name] (.i .i64 (Iy g name)) []:=by
 unfold BW.pt
 refine C8 (fn:=Go.Proofs.Tryz.f195) Go.Proofs.Tryz.func195 rfl (en195 W) (ts:=[4]) rfl le ?_
 refine Ah.seq ?_
 refine Ah.region A6 ?_
 refine A4.sn sm le ?_
 refine A4.sq sm le ?_
 refine Ah.seq ?_
 refine Ah.region A6 ?_
 iterate 5 (refine A4.sq sm le ?_)
 refine A4.sf0 sm (by simp [mapC,Hd,BU,Ab,closed,AV.cells,A7.get,Lk,Cg]<;>rfl) (P9 W (caps:=[.pt [.s name]]) rfl g.pools g.pnl (fun p _=>SI W p name)) (by simp [flat,flat.flat1,flat.flat2]) (by simp [Ab,closed]) le ?_
 refine A4.sq sm le ?_
 refine Ah.ret ⟨[],Or.inr rfl,List.nodup_nil,rfl,trivial,?_⟩
 simp only [Cm,BD,C3,reduceIte,Nat.reduceEqDiff,Iy]
theorem Pl (s:ByteArray) (most:Int):Ar Go.Proofs.Tryz.prog W 189 [.s s,.i .i64 most] (.b (NL s most)) []:=by
 refine Fg (Wf W) fun hl=> ?_
 simp only [Hx,lim] at hl
 obtain ⟨hn,-⟩:=hl
 unfold Gb at hn
 refine C8 (fn:=Go.Proofs.Tryz.f189) Go.Proofs.Tryz.func189 rfl (Wf W) (ts:=[4]) rfl le ?_
 refine Ah.seq ?_
 refine Ah.region A6 ?_
 refine A4.sq sm le ?_
 refine Ah.seq (Ah.seq ?_)
 refine Ah.region A6 ?_
 iterate 3 (refine A4.sq sm le ?_)
 refine Ah.block (Ah.fits [] (env':=[(0,.s s),(1,.i .i64 most),(4,.b false),(7,.i .i64 s.size),(8,.i .i64 (0:Nat))]) (h':=⟨0,[]⟩) ⟨List.nodup_nil,rfl,trivial,⟨A8 rfl,A8 rfl,A8 rfl,A8 rfl,A8 rfl,trivial⟩⟩ B4 (Ah.loop (fun k env h=> ∃i,i+k=s.size∧h=⟨0,[]⟩∧(s.data.toList.take i).all GQ=true∧env=[(0,.s s),(1,.i .i64 most),(4,.b false),(7,.i .i64 s.size),(8,.i .i64 i)]) s.size ?_ ?_))
 ·exact ⟨0,by simp,rfl,rfl,rfl⟩
 ·rintro k env h ⟨i,hk,rfl,hp,rfl⟩
  refine Ah.seq ?_
  refine Ah.region A6 ?_
  refine A4.sq sm le ?_
  refine Ah.seq ?_
  rcases Nat.lt_or_ge i s.size with hlt|hge
  ·refine Ah.cond (t:=true) (by simp only [BB,reduceIte,Nat.reduceEqDiff];simpa using hlt) (Ah.skip ?_)
   refine Ah.seq (Ah.block (Ah.seq ?_))
   obtain ⟨b,hb,hx⟩:=OV hlt
   have hw:=H1 hlt hn
   refine Ah.region A6 ?_
   iterate 2 (refine A4.sq sm le ?_)
   refine Ah.seq ?_
   by_cases h1:(b.toNat:Int)<32
   ·refine Ah.region A6 ?_
    iterate 5 (refine A4.sq (NQ hb h1) le ?_)
    iterate 4 (first|(refine Gy rfl rfl ?_;refine A4.sq (NQ hb h1) le ?_)|refine Gn rfl rfl le ?_|refine Gu rfl rfl le ?_)
    refine A4.sq (NQ hb h1) le ?_
    refine Ah.cond (t:=true) (by simp only [BB,reduceIte,Nat.reduceEqDiff]) (Ah.seq ?_)
    refine Ah.region A6 ?_
    refine A4.sq sm le ?_
    refine Ah.ret ⟨[],Or.inr rfl,List.nodup_nil,rfl,trivial,?_⟩
    have hz:GQ b=false:=by unfold GQ;rw [decide_eq_false (by omega)];rfl
    simp only [Cm,BD,C3,reduceIte,Nat.reduceEqDiff,NL,Kg hx hz,Bool.false_and]
   ·by_cases h2:(126:Int)<b.toNat
    ·refine Ah.region A6 ?_
     iterate 5 (refine A4.sq (JP hb h1 h2) le ?_)
     iterate 4 (first|(refine Gy rfl rfl ?_;refine A4.sq (JP hb h1 h2) le ?_)|refine Gn rfl rfl le ?_|refine Gu rfl rfl le ?_)
     refine A4.sq (JP hb h1 h2) le ?_
     refine Ah.cond (t:=true) (by simp only [BB,reduceIte,Nat.reduceEqDiff]) (Ah.seq ?_)
     refine Ah.region A6 ?_
     refine A4.sq sm le ?_
     refine Ah.ret ⟨[],Or.inr rfl,List.nodup_nil,rfl,trivial,?_⟩
     have hz:GQ b=false:=by unfold GQ;rw [decide_eq_false (p:=b.toNat≤126) (by omega),Bool.and_false]
     simp only [Cm,BD,C3,reduceIte,Nat.reduceEqDiff,NL,Kg hx hz,Bool.false_and]
    ·refine Ah.region A6 ?_
     iterate 5 (refine A4.sq (JP hb h1 h2) le ?_)
     iterate 4 (first|(refine Gy rfl rfl ?_;refine A4.sq (JP hb h1 h2) le ?_)|refine Gn rfl rfl le ?_|refine Gu rfl rfl le ?_)
     refine A4.sq (JP hb h1 h2) le ?_
     refine Ah.cond (t:=false) (by simp only [BB,reduceIte,Nat.reduceEqDiff]) (Ah.skip ?_)
     refine Ah.region A6 ?_
     iterate 2 (refine A4.sq (Hv hw) le ?_)
     have hz:GQ b=true:=by unfold GQ;rw [decide_eq_true (by omega),decide_eq_true (by omega)];rfl
     refine ⟨[],[(0,.s s),(1,.i .i64 most),(4,.b false),(7,.i .i64 s.size),(8,.i .i64 (i+1:Nat))],⟨0,[]⟩,⟨List.nodup_nil,rfl,trivial,⟨A8 rfl,A8 rfl,A8 rfl,A8 rfl,A8 rfl,trivial⟩⟩,B4,k-1,by omega,i+1,by omega,rfl,Fo hx hp hz,rfl⟩
  ·refine Ah.cond (t:=false) (by simp only [BB,reduceIte,Nat.reduceEqDiff];simpa using hge) (Ah.exit ?_)
   refine Ah.seq ?_
   refine Ah.region A6 ?_
   iterate 5 (refine A4.sq sm le ?_)
   refine Ah.ret ⟨[],Or.inr rfl,List.nodup_nil,rfl,trivial,?_⟩
   simp only [Cm,BD,C3,reduceIte,Nat.reduceEqDiff,NL,H7 hp (by rw [Gv];exact hge),Bool.true_and]
theorem HX (s:ByteArray):Ar Go.Proofs.Tryz.prog W 162 [.s s] (.b (H9 s)) []:=by
 refine C8 (fn:=Go.Proofs.Tryz.f162) Go.Proofs.Tryz.func162 rfl (en162 W) (ts:=[2]) rfl le ?_
 refine Ah.seq ?_
 refine Ah.region A6 ?_
 refine A4.sq sm le ?_
 refine Ah.seq ?_
 by_cases h1:s=⟨#[]⟩
 ·refine Ah.region A6 ?_
  iterate 3 (refine A4.sq (Hv h1) le ?_)
  first|(refine Gy rfl rfl ?_;refine A4.sq (Hv h1) le ?_)|refine Gn rfl rfl le ?_|refine Gu rfl rfl le ?_
  first|(refine Gy rfl rfl ?_;refine A4.sc0 (Hv h1) (by simp [Ab,closed]) (Pl W s 256) (by simp [Ab,closed]) le ?_)|refine Gn rfl rfl le ?_|refine Gu rfl rfl le ?_
  iterate 2 (refine A4.sq (Hv h1) le ?_)
  refine Ah.ret ⟨[],Or.inr rfl,List.nodup_nil,rfl,trivial,?_⟩
  have hz:H9 s=false:=by unfold H9;rw [decide_eq_true h1];rfl
  simp [Cm,BD,C3,hz]
 ·refine Ah.region A6 ?_
  iterate 3 (refine A4.sq (Hv h1) le ?_)
  first|(refine Gy rfl rfl ?_;refine A4.sq (Hv h1) le ?_)|refine Gn rfl rfl le ?_|refine Gu rfl rfl le ?_
  first|(refine Gy rfl rfl ?_;refine A4.sc0 (Hv h1) (by simp [Ab,closed]) (Pl W s 256) (by simp [Ab,closed]) le ?_)|refine Gn rfl rfl le ?_|refine Gu rfl rfl le ?_
  iterate 2 (refine A4.sq (Hv h1) le ?_)
  refine Ah.ret ⟨[],Or.inr rfl,List.nodup_nil,rfl,trivial,?_⟩
  simp [Cm,BD,C3,H9,h1]
theorem WN {m:Int} (hW:W.cell? ⟨0,0,none⟩=some (.int .i64 m)) (s:ByteArray):Ar Go.Proofs.Tryz.prog W 122 [.s s] (.b (TU s)) []:=path_is W CM (Pu W hW) s
theorem LW {m:Int} (hW:W.cell? ⟨0,0,none⟩=some (.int .i64 m)) (ss:Strs):Ar Go.Proofs.Tryz.prog W 163 [ss.av,.i .i64 8] (.b (Mj ss)) []:=WM W TU (WN W hW) ss 8
theorem KM {m:Int} (hW:W.cell? ⟨0,0,none⟩=some (.int .i64 m)) (e:Ea):Ar Go.Proofs.Tryz.prog W 165 [e.pt] (.b (HB e)) []:=by
 unfold Ea.pt
 refine C8 (fn:=Go.Proofs.Tryz.f165) Go.Proofs.Tryz.func165 rfl (en165 W) (ts:=[2]) rfl le ?_
 refine Ah.seq ?_
 refine Ah.region A6 ?_
 refine A4.sq sm le ?_
 refine Ah.seq (Ah.seq ?_)
 refine Ah.drawn A6 E5 19 (by kernel_rfl) le ?_
 iterate 16 (refine Aw.sq (by simp only [BB,BC,E6,reduceIte,reduceCtorEq,Nat.reduceEqDiff,Nat.reduceAdd,Nat.reduceSub,Nat.reduceMul,Nat.reduceLT,Nat.reduceLeDiff,Ce,Strs.av]<;>rfl) le ?_)
 refine Aw.sn (by simp only [BB,BC,E6,reduceIte,reduceCtorEq,Nat.reduceEqDiff,Nat.reduceAdd,Nat.reduceSub,Nat.reduceMul,Nat.reduceLT,Nat.reduceLeDiff,Ce,Strs.av]<;>rfl) le ?_
 iterate 2 (refine Aw.sq (by simp only [BB,BC,E6,reduceIte,reduceCtorEq,Nat.reduceEqDiff,Nat.reduceAdd,Nat.reduceSub,Nat.reduceMul,Nat.reduceLT,Nat.reduceLeDiff,Ce,Strs.av]<;>rfl) le ?_)
 obtain ⟨L,hL⟩: ∃L:List Strs,L=[e.outs,e.ins,e.implicit,e.order]:=⟨_,rfl⟩
 have hL4:L.length=4:=by rw [hL];rfl
 have hLm:L.map Strs.av=[e.outs.av,e.ins.av,e.implicit.av,e.order.av]:=by rw [hL];rfl
 refine Ah.block (Ah.fits [] (env':=[(0,.pt [e.outs.av,e.ins.av,e.implicit.av,e.order.av,.s e.command,.b e.deps,.s e.pool]),(2,.b false),(21,.sl 1 false (L.map Strs.av)),(22,.i .i64 (4:Nat)),(23,.i .i64 (0:Nat))]) (h':=⟨0,[]⟩) ⟨List.nodup_nil,rfl,trivial,⟨A8 rfl,A8 rfl,?_,A8 rfl,A8 rfl,trivial⟩⟩ B4 (Ah.loop (fun k env h=> ∃i,i+k=4∧h=⟨0,[]⟩∧(L.take i).all Mj=true∧env=[(0,.pt [e.outs.av,e.ins.av,e.implicit.av,e.order.av,.s e.command,.b e.deps,.s e.pool]),(2,.b false),(21,.sl 1 false (L.map Strs.av)),(22,.i .i64 (4:Nat)),(23,.i .i64 i)]) 4 ?_ ?_))
 ·refine (Q1 (off:=0) (len:=4) (xs:=L) rfl rfl (by rw [hLm];rfl) (by omega) (by unfold Gb;omega)).trans ?_
  rw [List.drop_zero,List.take_of_length_le (by omega)]
 ·exact ⟨0,by simp,rfl,rfl,rfl⟩
 ·rintro k env h ⟨i,hk,rfl,hp,rfl⟩
  refine Ah.seq ?_
  refine Ah.region A6 ?_
  refine A4.sq sm le ?_
  refine Ah.seq ?_
  rcases Nat.lt_or_ge i 4 with hlt|hge
  ·refine Ah.cond (t:=true) (by simp only [BB,reduceIte,Nat.reduceEqDiff];simp;omega) (Ah.skip ?_)
   refine Ah.seq (Ah.block (Ah.seq ?_))
   have hx:L[i]? =some L[i]:=List.getElem?_eq_getElem (by omega)
   generalize L[i]=ss at hx
   have hw:=H1 (n:=4) hlt (by omega)
   refine Ah.region A6 ?_
   iterate 3 (refine A4.sq (by simp only [BB,BC,E6,reduceIte,reduceCtorEq,Nat.reduceEqDiff,Nat.reduceAdd,Nat.reduceSub,Nat.reduceMul,Nat.reduceLT,Nat.reduceLeDiff,hx,Strs.av]<;>rfl) le ?_)
   refine Ah.seq ?_
   refine Ah.region A6 ?_
   refine A4.sq sm le ?_
   refine A4.sc0 sm (by simp [Ab,closed,Ce]) (LW W hW ss) (by simp [Ab,closed]) le ?_
   refine A4.sq sm le ?_
   refine LN (t:= !Mj ss) (by simp only [BB,reduceIte,Nat.reduceEqDiff]) (fun ht=>Ah.seq ?_) (fun ht=>Ah.skip ?_)
   ·refine Ah.region A6 ?_
    refine A4.sq sm le ?_
    refine Ah.ret ⟨[],Or.inr rfl,List.nodup_nil,rfl,trivial,?_⟩
    have hz:HB e=false:=by unfold HB;rw [←hL,Kg hx (by simpa using ht)];rfl
    simp only [Cm,BD,C3,reduceIte,Nat.reduceEqDiff,hz]
   ·refine Ah.region A6 ?_
    iterate 2 (refine A4.sq (Hv hw) le ?_)
    refine ⟨[],[(0,.pt [e.outs.av,e.ins.av,e.implicit.av,e.order.av,.s e.command,.b e.deps,.s e.pool]),(2,.b false),(21,.sl 1 false (L.map Strs.av)),(22,.i .i64 (4:Nat)),(23,.i .i64 (i+1:Nat))],⟨0,[]⟩,⟨List.nodup_nil,rfl,trivial,⟨A8 rfl,A8 rfl,A8 rfl,A8 rfl,A8 rfl,trivial⟩⟩,B4,k-1,by omega,i+1,by omega,rfl,Fo hx hp (by simpa using ht),rfl⟩
  ·refine Ah.cond (t:=false) (by simp only [BB,reduceIte,Nat.reduceEqDiff];simp;omega) (Ah.exit ?_)
   refine Ah.seq ?_
   have hall:=H7 hp (by omega)
   rw [hL] at hall
   have he:HB e=(decide ((e.outs.xs.length:Int)>0)&&H9 e.command&&(decide (e.pool=⟨#[]⟩)||Ix e.pool)):=by unfold HB;rw [hall];rfl
   by_cases h1:(0:Int)<e.outs.xs.length
   ·by_cases h2:H9 e.command=true
    ·by_cases h3:e.pool=⟨#[]⟩
     ·refine Ah.region A6 ?_
      iterate 7 (refine A4.sq (by simp only [BB,BC,E6,reduceIte,reduceCtorEq,Nat.reduceEqDiff,Nat.reduceAdd,Nat.reduceSub,Nat.reduceMul,Nat.reduceLT,Nat.reduceLeDiff,Strs.av,h1,h2,h3,decide_true]<;>rfl) le ?_)
      iterate 4 (first|(refine Gy rfl rfl ?_;refine A4.sq (by simp only [BB,BC,E6,reduceIte,reduceCtorEq,Nat.reduceEqDiff,Nat.reduceAdd,Nat.reduceSub,Nat.reduceMul,Nat.reduceLT,Nat.reduceLeDiff,Strs.av,h1,h2,h3,decide_true]<;>rfl) le ?_)|refine Gn rfl rfl le ?_|refine Gu rfl rfl le ?_)
      first|(refine Gy rfl rfl ?_;refine A4.sc0 (by simp only [BB,BC,E6,reduceIte,reduceCtorEq,Nat.reduceEqDiff,Nat.reduceAdd,Nat.reduceSub,Nat.reduceMul,Nat.reduceLT,Nat.reduceLeDiff,Strs.av,h1,h2,h3,decide_true]<;>rfl) (by simp [Ab,closed]) (HX W e.command) (by simp [Ab,closed]) le ?_)|refine Gn rfl rfl le ?_|refine Gu rfl rfl le ?_
      iterate 2 (refine A4.sq (by simp only [BB,BC,E6,reduceIte,reduceCtorEq,Nat.reduceEqDiff,Nat.reduceAdd,Nat.reduceSub,Nat.reduceMul,Nat.reduceLT,Nat.reduceLeDiff,Strs.av,h1,h2,h3,decide_true]<;>rfl) le ?_)
      iterate 10 (first|(refine Gy rfl rfl ?_;refine A4.sq (by simp only [BB,BC,E6,reduceIte,reduceCtorEq,Nat.reduceEqDiff,Nat.reduceAdd,Nat.reduceSub,Nat.reduceMul,Nat.reduceLT,Nat.reduceLeDiff,Strs.av,h1,h2,h3,decide_true]<;>rfl) le ?_)|refine Gn rfl rfl le ?_|refine Gu rfl rfl le ?_)
      first|(refine Gy rfl rfl ?_;refine A4.sc0 (by simp only [BB,BC,E6,reduceIte,reduceCtorEq,Nat.reduceEqDiff,Nat.reduceAdd,Nat.reduceSub,Nat.reduceMul,Nat.reduceLT,Nat.reduceLeDiff,Strs.av,h1,h2,h3,decide_true]<;>rfl) (by simp [Ab,closed]) (Gz W e.pool) (by simp [Ab,closed]) le ?_)|refine Gn rfl rfl le ?_|refine Gu rfl rfl le ?_
      first|(refine Gy rfl rfl ?_;refine A4.sq (by simp only [BB,BC,E6,reduceIte,reduceCtorEq,Nat.reduceEqDiff,Nat.reduceAdd,Nat.reduceSub,Nat.reduceMul,Nat.reduceLT,Nat.reduceLeDiff,Strs.av,h1,h2,h3,decide_true]<;>rfl) le ?_)|refine Gn rfl rfl le ?_|refine Gu rfl rfl le ?_
      iterate 2 (refine A4.sq (by simp only [BB,BC,E6,reduceIte,reduceCtorEq,Nat.reduceEqDiff,Nat.reduceAdd,Nat.reduceSub,Nat.reduceMul,Nat.reduceLT,Nat.reduceLeDiff,Strs.av,h1,h2,h3,decide_true]<;>rfl) le ?_)
      refine Ah.ret ⟨[],Or.inr rfl,List.nodup_nil,rfl,trivial,?_⟩
      have hz:HB e=true:=by rw [he,decide_eq_true h1,decide_eq_true h3,h2];rfl
      simp [Cm,BD,C3,hz]
     ·refine Ah.region A6 ?_
      iterate 7 (refine A4.sq (by simp only [BB,BC,E6,reduceIte,reduceCtorEq,Nat.reduceEqDiff,Nat.reduceAdd,Nat.reduceSub,Nat.reduceMul,Nat.reduceLT,Nat.reduceLeDiff,Strs.av,h1,h2,h3,decide_true,decide_false]<;>rfl) le ?_)
      iterate 4 (first|(refine Gy rfl rfl ?_;refine A4.sq (by simp only [BB,BC,E6,reduceIte,reduceCtorEq,Nat.reduceEqDiff,Nat.reduceAdd,Nat.reduceSub,Nat.reduceMul,Nat.reduceLT,Nat.reduceLeDiff,Strs.av,h1,h2,h3,decide_true,decide_false]<;>rfl) le ?_)|refine Gn rfl rfl le ?_|refine Gu rfl rfl le ?_)
      first|(refine Gy rfl rfl ?_;refine A4.sc0 (by simp only [BB,BC,E6,reduceIte,reduceCtorEq,Nat.reduceEqDiff,Nat.reduceAdd,Nat.reduceSub,Nat.reduceMul,Nat.reduceLT,Nat.reduceLeDiff,Strs.av,h1,h2,h3,decide_true,decide_false]<;>rfl) (by simp [Ab,closed]) (HX W e.command) (by simp [Ab,closed]) le ?_)|refine Gn rfl rfl le ?_|refine Gu rfl rfl le ?_
      iterate 2 (refine A4.sq (by simp only [BB,BC,E6,reduceIte,reduceCtorEq,Nat.reduceEqDiff,Nat.reduceAdd,Nat.reduceSub,Nat.reduceMul,Nat.reduceLT,Nat.reduceLeDiff,Strs.av,h1,h2,h3,decide_true,decide_false]<;>rfl) le ?_)
      iterate 10 (first|(refine Gy rfl rfl ?_;refine A4.sq (by simp only [BB,BC,E6,reduceIte,reduceCtorEq,Nat.reduceEqDiff,Nat.reduceAdd,Nat.reduceSub,Nat.reduceMul,Nat.reduceLT,Nat.reduceLeDiff,Strs.av,h1,h2,h3,decide_true,decide_false]<;>rfl) le ?_)|refine Gn rfl rfl le ?_|refine Gu rfl rfl le ?_)
      first|(refine Gy rfl rfl ?_;refine A4.sc0 (by simp only [BB,BC,E6,reduceIte,reduceCtorEq,Nat.reduceEqDiff,Nat.reduceAdd,Nat.reduceSub,Nat.reduceMul,Nat.reduceLT,Nat.reduceLeDiff,Strs.av,h1,h2,h3,decide_true,decide_false]<;>rfl) (by simp [Ab,closed]) (Gz W e.pool) (by simp [Ab,closed]) le ?_)|refine Gn rfl rfl le ?_|refine Gu rfl rfl le ?_
      first|(refine Gy rfl rfl ?_;refine A4.sq (by simp only [BB,BC,E6,reduceIte,reduceCtorEq,Nat.reduceEqDiff,Nat.reduceAdd,Nat.reduceSub,Nat.reduceMul,Nat.reduceLT,Nat.reduceLeDiff,Strs.av,h1,h2,h3,decide_true,decide_false]<;>rfl) le ?_)|refine Gn rfl rfl le ?_|refine Gu rfl rfl le ?_
      iterate 2 (refine A4.sq (by simp only [BB,BC,E6,reduceIte,reduceCtorEq,Nat.reduceEqDiff,Nat.reduceAdd,Nat.reduceSub,Nat.reduceMul,Nat.reduceLT,Nat.reduceLeDiff,Strs.av,h1,h2,h3,decide_true,decide_false]<;>rfl) le ?_)
      refine Ah.ret ⟨[],Or.inr rfl,List.nodup_nil,rfl,trivial,?_⟩
      have hz:HB e=Ix e.pool:=by rw [he,decide_eq_true h1,decide_eq_false h3,h2];rfl
      simp [Cm,BD,C3,hz]
    ·simp only [Bool.not_eq_true] at h2
     refine Ah.region A6 ?_
     iterate 7 (refine A4.sq (by simp only [BB,BC,E6,reduceIte,reduceCtorEq,Nat.reduceEqDiff,Nat.reduceAdd,Nat.reduceSub,Nat.reduceMul,Nat.reduceLT,Nat.reduceLeDiff,Strs.av,h1,h2,decide_true,Bool.false_eq_true]<;>rfl) le ?_)
     iterate 4 (first|(refine Gy rfl rfl ?_;refine A4.sq (by simp only [BB,BC,E6,reduceIte,reduceCtorEq,Nat.reduceEqDiff,Nat.reduceAdd,Nat.reduceSub,Nat.reduceMul,Nat.reduceLT,Nat.reduceLeDiff,Strs.av,h1,h2,decide_true,Bool.false_eq_true]<;>rfl) le ?_)|refine Gn rfl rfl le ?_|refine Gu rfl rfl le ?_)
     first|(refine Gy rfl rfl ?_;refine A4.sc0 (by simp only [BB,BC,E6,reduceIte,reduceCtorEq,Nat.reduceEqDiff,Nat.reduceAdd,Nat.reduceSub,Nat.reduceMul,Nat.reduceLT,Nat.reduceLeDiff,Strs.av,h1,h2,decide_true,Bool.false_eq_true]<;>rfl) (by simp [Ab,closed]) (HX W e.command) (by simp [Ab,closed]) le ?_)|refine Gn rfl rfl le ?_|refine Gu rfl rfl le ?_
     iterate 2 (refine A4.sq (by simp only [BB,BC,E6,reduceIte,reduceCtorEq,Nat.reduceEqDiff,Nat.reduceAdd,Nat.reduceSub,Nat.reduceMul,Nat.reduceLT,Nat.reduceLeDiff,Strs.av,h1,h2,decide_true,Bool.false_eq_true]<;>rfl) le ?_)
     iterate 10 (first|(refine Gy rfl rfl ?_;refine A4.sq (by simp only [BB,BC,E6,reduceIte,reduceCtorEq,Nat.reduceEqDiff,Nat.reduceAdd,Nat.reduceSub,Nat.reduceMul,Nat.reduceLT,Nat.reduceLeDiff,Strs.av,h1,h2,decide_true,Bool.false_eq_true]<;>rfl) le ?_)|refine Gn rfl rfl le ?_|refine Gu rfl rfl le ?_)
     first|(refine Gy rfl rfl ?_;refine A4.sc0 (by simp only [BB,BC,E6,reduceIte,reduceCtorEq,Nat.reduceEqDiff,Nat.reduceAdd,Nat.reduceSub,Nat.reduceMul,Nat.reduceLT,Nat.reduceLeDiff,Strs.av,h1,h2,decide_true,Bool.false_eq_true]<;>rfl) (by simp [Ab,closed]) (Gz W e.pool) (by simp [Ab,closed]) le ?_)|refine Gn rfl rfl le ?_|refine Gu rfl rfl le ?_
     first|(refine Gy rfl rfl ?_;refine A4.sq (by simp only [BB,BC,E6,reduceIte,reduceCtorEq,Nat.reduceEqDiff,Nat.reduceAdd,Nat.reduceSub,Nat.reduceMul,Nat.reduceLT,Nat.reduceLeDiff,Strs.av,h1,h2,decide_true,Bool.false_eq_true]<;>rfl) le ?_)|refine Gn rfl rfl le ?_|refine Gu rfl rfl le ?_
     iterate 2 (refine A4.sq (by simp only [BB,BC,E6,reduceIte,reduceCtorEq,Nat.reduceEqDiff,Nat.reduceAdd,Nat.reduceSub,Nat.reduceMul,Nat.reduceLT,Nat.reduceLeDiff,Strs.av,h1,h2,decide_true,Bool.false_eq_true]<;>rfl) le ?_)
     refine Ah.ret ⟨[],Or.inr rfl,List.nodup_nil,rfl,trivial,?_⟩
     have hz:HB e=false:=by rw [he,h2,Bool.and_false];rfl
     simp [Cm,BD,C3,hz]
   ·refine Ah.region A6 ?_
    iterate 7 (refine A4.sq (by simp only [BB,BC,E6,reduceIte,reduceCtorEq,Nat.reduceEqDiff,Nat.reduceAdd,Nat.reduceSub,Nat.reduceMul,Nat.reduceLT,Nat.reduceLeDiff,Strs.av,h1,decide_false,Bool.false_eq_true]<;>rfl) le ?_)
    iterate 4 (first|(refine Gy rfl rfl ?_;refine A4.sq (by simp only [BB,BC,E6,reduceIte,reduceCtorEq,Nat.reduceEqDiff,Nat.reduceAdd,Nat.reduceSub,Nat.reduceMul,Nat.reduceLT,Nat.reduceLeDiff,Strs.av,h1,decide_false,Bool.false_eq_true]<;>rfl) le ?_)|refine Gn rfl rfl le ?_|refine Gu rfl rfl le ?_)
    first|(refine Gy rfl rfl ?_;refine A4.sc0 (by simp only [BB,BC,E6,reduceIte,reduceCtorEq,Nat.reduceEqDiff,Nat.reduceAdd,Nat.reduceSub,Nat.reduceMul,Nat.reduceLT,Nat.reduceLeDiff,Strs.av,h1,decide_false,Bool.false_eq_true]<;>rfl) (by simp [Ab,closed]) (HX W e.command) (by simp [Ab,closed]) le ?_)|refine Gn rfl rfl le ?_|refine Gu rfl rfl le ?_
    iterate 2 (refine A4.sq (by simp only [BB,BC,E6,reduceIte,reduceCtorEq,Nat.reduceEqDiff,Nat.reduceAdd,Nat.reduceSub,Nat.reduceMul,Nat.reduceLT,Nat.reduceLeDiff,Strs.av,h1,decide_false,Bool.false_eq_true]<;>rfl) le ?_)
    iterate 10 (first|(refine Gy rfl rfl ?_;refine A4.sq (by simp only [BB,BC,E6,reduceIte,reduceCtorEq,Nat.reduceEqDiff,Nat.reduceAdd,Nat.reduceSub,Nat.reduceMul,Nat.reduceLT,Nat.reduceLeDiff,Strs.av,h1,decide_false,Bool.false_eq_true]<;>rfl) le ?_)|refine Gn rfl rfl le ?_|refine Gu rfl rfl le ?_)
    first|(refine Gy rfl rfl ?_;refine A4.sc0 (by simp only [BB,BC,E6,reduceIte,reduceCtorEq,Nat.reduceEqDiff,Nat.reduceAdd,Nat.reduceSub,Nat.reduceMul,Nat.reduceLT,Nat.reduceLeDiff,Strs.av,h1,decide_false,Bool.false_eq_true]<;>rfl) (by simp [Ab,closed]) (Gz W e.pool) (by simp [Ab,closed]) le ?_)|refine Gn rfl rfl le ?_|refine Gu rfl rfl le ?_
    first|(refine Gy rfl rfl ?_;refine A4.sq (by simp only [BB,BC,E6,reduceIte,reduceCtorEq,Nat.reduceEqDiff,Nat.reduceAdd,Nat.reduceSub,Nat.reduceMul,Nat.reduceLT,Nat.reduceLeDiff,Strs.av,h1,decide_false,Bool.false_eq_true]<;>rfl) le ?_)|refine Gn rfl rfl le ?_|refine Gu rfl rfl le ?_
    iterate 2 (refine A4.sq (by simp only [BB,BC,E6,reduceIte,reduceCtorEq,Nat.reduceEqDiff,Nat.reduceAdd,Nat.reduceSub,Nat.reduceMul,Nat.reduceLT,Nat.reduceLeDiff,Strs.av,h1,decide_false,Bool.false_eq_true]<;>rfl) le ?_)
    refine Ah.ret ⟨[],Or.inr rfl,List.nodup_nil,rfl,trivial,?_⟩
    have hz:HB e=false:=by rw [he,decide_eq_false h1];rfl
    simp [Cm,BD,C3,hz]
end
end Go.Lift
namespace Go.Lift
open Go Go.RowKit
section
variable (W:World)
theorem Lj (g:BW):Ar Go.Proofs.Tryz.prog W 196 [g.pt] (.b (K6 g)) []:=by
 refine Fg (en196 W) fun hl=> ?_
 simp only [Hx,lim,BW.pt,List.length_map] at hl
 have hn:g.pools.length≤281474976710656:=hl.1.2.1.1
 clear hl
 unfold BW.pt
 refine C8 (fn:=Go.Proofs.Tryz.f196) Go.Proofs.Tryz.func196 rfl (en196 W) (ts:=[2]) rfl le ?_
 refine Ah.seq ?_
 refine Ah.region A6 ?_
 refine A4.sq sm le ?_
 refine Ah.seq (Ah.seq ?_)
 refine Ah.region A6 ?_
 iterate 6 (refine A4.sq sm le ?_)
 refine Ah.block (Ah.fits [] (env':=[(0,g.pt),(2,.b false),(8,.sl 2 g.pnl (g.pools.map Fd.av)),(9,.i .i64 g.pools.length),(10,.i .i64 (0:Nat))]) (h':=⟨0,[]⟩) ⟨List.nodup_nil,rfl,trivial,⟨A8 rfl,A8 rfl,A8 rfl,A8 rfl,A8 rfl,trivial⟩⟩ B4 (Ah.loop (fun k env h=> ∃i,i+k=g.pools.length∧h=⟨0,[]⟩∧HH (Mx g) 0 g.pools=HH (Mx g) i (g.pools.drop i)∧env=[(0,g.pt),(2,.b false),(8,.sl 2 g.pnl (g.pools.map Fd.av)),(9,.i .i64 g.pools.length),(10,.i .i64 i)]) g.pools.length ?_ ?_))
 ·exact ⟨0,by simp,rfl,rfl,rfl⟩
 ·rintro k env h ⟨i,hk,rfl,hp,rfl⟩
  refine Ah.seq ?_
  refine Ah.region A6 ?_
  refine A4.sq sm le ?_
  refine Ah.seq ?_
  rcases Nat.lt_or_ge i g.pools.length with hlt|hge
  ·refine Ah.cond (t:=true) (by simp only [BB,reduceIte,Nat.reduceEqDiff];simpa using hlt) (Ah.skip ?_)
   refine Ah.seq (Ah.block (Ah.seq ?_))
   have hx:g.pools[i]? =some g.pools[i]:=List.getElem?_eq_getElem hlt
   rw [Sw hx] at hp
   generalize g.pools[i]=p at hx hp
   have hw:=H1 hlt hn
   refine Ah.region A6 ?_
   iterate 3 (refine A4.sq (by simp only [BB,BC,E6,reduceIte,reduceCtorEq,Nat.reduceEqDiff,Nat.reduceAdd,Nat.reduceSub,Nat.reduceMul,Nat.reduceLT,Nat.reduceLeDiff,hx,Fd.av,I8.eq_1,AV.withCells.eq_1]<;>rfl) le ?_)
   refine A4.sn (by simp only [BB,BC,E6,reduceIte,reduceCtorEq,Nat.reduceEqDiff,Nat.reduceAdd,Nat.reduceSub,Nat.reduceMul,Nat.reduceLT,Nat.reduceLeDiff,hx,Fd.av,I8.eq_1,AV.withCells.eq_1]<;>rfl) le ?_
   refine A4.sq (by simp only [BB,BC,E6,reduceIte,reduceCtorEq,Nat.reduceEqDiff,Nat.reduceAdd,Nat.reduceSub,Nat.reduceMul,Nat.reduceLT,Nat.reduceLeDiff,hx,Fd.av,I8.eq_1,AV.withCells.eq_1]<;>rfl) le ?_
   refine A4.st (by simp only [BB,BC,E6,reduceIte,reduceCtorEq,Nat.reduceEqDiff,Nat.reduceAdd,Nat.reduceSub,Nat.reduceMul,Nat.reduceLT,Nat.reduceLeDiff,hx,Fd.av,I8.eq_1,AV.withCells.eq_1]<;>rfl) ?_
   refine Ah.seq ?_
   by_cases hok:Mx g i p=true
   ·have hok':=hok
    unfold Mx at hok'
    simp only [Bool.and_eq_true,Bool.not_eq_true',decide_eq_false_iff_not,decide_eq_true_eq] at hok'
    obtain ⟨⟨⟨hm,h2⟩,h3⟩,h4⟩:=hok'
    have h3': ¬(8:Int)<p.depth:=h3
    refine Ah.region A6 ?_
    iterate 2 (refine A4.sq (PW hm h2 h3' h4) le ?_)
    refine A4.sc0 (PW hm h2 h3' h4) (by simp [Ab,closed,KJ]) (Gz W p.name) (by simp [Ab,closed]) le ?_
    iterate 2 (refine A4.sq (PW hm h2 h3' h4) le ?_)
    iterate 3 (first|(refine Gy rfl rfl ?_;refine A4.sq (PW hm h2 h3' h4) le ?_)|refine Gn rfl rfl le ?_|refine Gu rfl rfl le ?_)
    iterate 2 (refine A4.sq (PW hm h2 h3' h4) le ?_)
    iterate 3 (first|(refine Gy rfl rfl ?_;refine A4.sq (PW hm h2 h3' h4) le ?_)|refine Gn rfl rfl le ?_|refine Gu rfl rfl le ?_)
    iterate 2 (refine A4.sq (PW hm h2 h3' h4) le ?_)
    iterate 3 (first|(refine Gy rfl rfl ?_;refine A4.sq (PW hm h2 h3' h4) le ?_)|refine Gn rfl rfl le ?_|refine Gu rfl rfl le ?_)
    first|(refine Gy rfl rfl ?_;refine A4.sc0 (PW hm h2 h3' h4) (by simp [Ab,closed,KJ]) (HJ W g p.name) (by simp [Ab,closed]) le ?_)|refine Gn rfl rfl le ?_|refine Gu rfl rfl le ?_
    iterate 2 (first|(refine Gy rfl rfl ?_;refine A4.sq (PW hm h2 h3' h4) le ?_)|refine Gn rfl rfl le ?_|refine Gu rfl rfl le ?_)
    refine A4.sq (PW hm h2 h3' h4) le ?_
    refine Ah.cond (t:=false) (by simp only [BB,reduceIte,Nat.reduceEqDiff]) (Ah.skip ?_)
    refine Ah.region A6 ?_
    iterate 2 (refine A4.sq (Hv hw) le ?_)
    rw [hok,Bool.true_and] at hp
    refine ⟨[],[(0,g.pt),(2,.b false),(8,.sl 2 g.pnl (g.pools.map Fd.av)),(9,.i .i64 g.pools.length),(10,.i .i64 (i+1:Nat))],⟨0,[]⟩,⟨List.nodup_nil,rfl,trivial,⟨A8 rfl,A8 rfl,A8 rfl,A8 rfl,A8 rfl,trivial⟩⟩,B4,k-1,by omega,i+1,by omega,rfl,hp,rfl⟩
   ·simp only [Bool.not_eq_true] at hok
    rw [hok,Bool.false_and] at hp
    have hz:K6 g=false:=by unfold K6;rw [hp];rfl
    cases hm:Ix p.name<;>by_cases h2:p.depth<1<;>by_cases h3:(8:Int)<p.depth<;>by_cases h4:Iy g p.name=i
    all_goals try (exfalso;omega)
    all_goals try (exfalso;unfold Mx at hok;rw [hm,decide_eq_false h2,decide_eq_false (p:=p.depth>8) h3,decide_eq_true h4] at hok;cases hok;done)
    all_goals
     refine Ah.region A6 ?_
     iterate 2 (refine A4.sq (PW hm h2 h3 h4) le ?_)
     refine A4.sc0 (PW hm h2 h3 h4) (by simp [Ab,closed,KJ]) (Gz W p.name) (by simp [Ab,closed]) le ?_
     iterate 2 (refine A4.sq (PW hm h2 h3 h4) le ?_)
     iterate 3 (first|(refine Gy rfl rfl ?_;refine A4.sq (PW hm h2 h3 h4) le ?_)|refine Gn rfl rfl le ?_|refine Gu rfl rfl le ?_)
     iterate 2 (refine A4.sq (PW hm h2 h3 h4) le ?_)
     iterate 3 (first|(refine Gy rfl rfl ?_;refine A4.sq (PW hm h2 h3 h4) le ?_)|refine Gn rfl rfl le ?_|refine Gu rfl rfl le ?_)
     iterate 2 (refine A4.sq (PW hm h2 h3 h4) le ?_)
     iterate 3 (first|(refine Gy rfl rfl ?_;refine A4.sq (PW hm h2 h3 h4) le ?_)|refine Gn rfl rfl le ?_|refine Gu rfl rfl le ?_)
     first|(refine Gy rfl rfl ?_;refine A4.sc0 (PW hm h2 h3 h4) (by simp [Ab,closed,KJ]) (HJ W g p.name) (by simp [Ab,closed]) le ?_)|refine Gn rfl rfl le ?_|refine Gu rfl rfl le ?_
     iterate 2 (first|(refine Gy rfl rfl ?_;refine A4.sq (PW hm h2 h3 h4) le ?_)|refine Gn rfl rfl le ?_|refine Gu rfl rfl le ?_)
     refine A4.sq (PW hm h2 h3 h4) le ?_
     refine Ah.cond (t:=true) (by simp only [BB,reduceIte,Nat.reduceEqDiff]) (Ah.seq ?_)
     refine Ah.region A6 ?_
     refine A4.sq sm le ?_
     refine Ah.ret ⟨[],Or.inr rfl,List.nodup_nil,rfl,trivial,?_⟩
     simp only [Cm,BD,C3,reduceIte,Nat.reduceEqDiff,hz]
  ·refine Ah.cond (t:=false) (by simp only [BB,reduceIte,Nat.reduceEqDiff];simpa using hge) (Ah.exit ?_)
   rw [List.drop_eq_nil_of_le hge] at hp
   refine Ah.seq ?_
   refine Ah.region A6 ?_
   iterate 7 (refine A4.sq (by simp only [BB,BC,E6,reduceIte,reduceCtorEq,Nat.reduceEqDiff,Nat.reduceAdd,Nat.reduceSub,Nat.reduceMul,Nat.reduceLT,Nat.reduceLeDiff,BW.pt]<;>rfl) le ?_)
   refine Ah.ret ⟨[],Or.inr rfl,List.nodup_nil,rfl,trivial,?_⟩
   have hz:K6 g=decide ((g.pools.length:Int)≤4):=by unfold K6;rw [hp];rfl
   simp only [Cm,BD,C3,reduceIte,Nat.reduceEqDiff,hz]
end
end Go.Lift
namespace Go.Lift
open Go Go.RowKit
section
variable (W:World)
theorem UX {m:Int} (hW:W.cell? ⟨0,0,none⟩=some (.int .i64 m)) (g:BW):Ar Go.Proofs.Tryz.prog W 152 [g.av] (.b (NG g)) []:=by
 refine Fg (en152 W) fun hl=> ?_
 simp only [Hx,lim,BW.av,List.length_map] at hl
 have hn:g.edges.length≤281474976710656:=hl.1.1.1
 clear hl
 refine C8 (fn:=Go.Proofs.Tryz.f152) Go.Proofs.Tryz.func152 rfl (en152 W) (ts:=[2]) rfl le ?_
 refine Ah.seq ?_
 refine Ah.region A6 ?_
 refine A4.sn (by simp only [BB,BC,E6,reduceIte,reduceCtorEq,Nat.reduceEqDiff,Nat.reduceAdd,Nat.reduceSub,Nat.reduceMul,Nat.reduceLT,Nat.reduceLeDiff,H8,BW.av]<;>rfl) le ?_
 refine A4.sq (by simp only [BB,BC,E6,reduceIte,reduceCtorEq,Nat.reduceEqDiff,Nat.reduceAdd,Nat.reduceSub,Nat.reduceMul,Nat.reduceLT,Nat.reduceLeDiff,H8,BW.av]<;>rfl) le ?_
 refine Ah.seq (Ah.seq ?_)
 refine Ah.region A6 ?_
 iterate 4 (refine A4.sq (by simp only [BB,BC,E6,reduceIte,reduceCtorEq,Nat.reduceEqDiff,Nat.reduceAdd,Nat.reduceSub,Nat.reduceMul,Nat.reduceLT,Nat.reduceLeDiff,BW.av]<;>rfl) le ?_)
 refine Ah.block (Ah.fits [0] (env':=[(1,.loc 0 0 0),(2,.b false),(7,.i .i64 g.edges.length),(8,.i .i64 (0:Nat))]) (h':=⟨1,[(0,some ⟨26,3,[g.av]⟩)]⟩) ⟨by simp,rfl,⟨Oz (ob:=⟨26,3,[g.av]⟩) rfl rfl rfl,trivial⟩,⟨rfl,A8 rfl,A8 rfl,A8 rfl,trivial⟩⟩ B4 (Ah.loop (fun k env h=> ∃i,i+k=g.edges.length∧h=⟨1,[(0,some ⟨26,3,[g.av]⟩)]⟩∧(g.edges.take i).all (GL g)=true∧env=[(1,.loc 0 0 0),(2,.b false),(7,.i .i64 g.edges.length),(8,.i .i64 i)]) g.edges.length ?_ ?_))
 ·exact ⟨0,by simp,rfl,rfl,rfl⟩
 ·rintro k env h ⟨i,hk,rfl,hp,rfl⟩
  have hsg: ∀(s:ByteArray),mapC (BU [] ⟨1,[(0,some ⟨26,3,[g.av]⟩)]⟩ 8) [.loc 0 0 0,.s s]=some [g.pt,.s s]:=fun s=>snap_gs rfl
  have hs1:mapC (BU [] ⟨1,[(0,some ⟨26,3,[g.av]⟩)]⟩ 8) [.loc 0 0 0]=some [g.pt]:=WX rfl
  refine Ah.seq ?_
  refine Ah.region A6 ?_
  refine A4.sq sm le ?_
  refine Ah.seq ?_
  rcases Nat.lt_or_ge i g.edges.length with hlt|hge
  ·refine Ah.cond (t:=true) (by simp only [BB,reduceIte,Nat.reduceEqDiff];simpa using hlt) (Ah.skip ?_)
   refine Ah.seq (Ah.block (Ah.seq ?_))
   have hx:g.edges[i]? =some g.edges[i]:=List.getElem?_eq_getElem hlt
   generalize g.edges[i]=e at hx
   have hw:=H1 hlt hn
   refine Ah.region A6 ?_
   iterate 2 (refine A4.sq sm le ?_)
   refine Ah.seq ?_
   refine Ah.region A6 ?_
   iterate 5 (refine A4.sq (by simp only [BB,BC,E6,reduceIte,reduceCtorEq,Nat.reduceEqDiff,Nat.reduceAdd,Nat.reduceSub,Nat.reduceMul,Nat.reduceLT,Nat.reduceLeDiff,hx,BW.av,Ea.av]<;>rfl) le ?_)
   refine Ah.seq ?_
   by_cases hok:GL g e=true
   ·have hok':=hok
    unfold GL at hok'
    simp only [Bool.and_eq_true,Bool.or_eq_true,decide_eq_true_eq,Bool.not_eq_true',decide_eq_false_iff_not] at hok'
    obtain ⟨h1,h2⟩:=hok'
    by_cases h3:e.pool=⟨#[]⟩
    ·have h3d:=decide_eq_true h3
     refine Ah.region A6 ?_
     refine A4.sq (NQ h1 h3d) le ?_
     refine A4.sc0 (NQ h1 h3d) (by simp [Ab,closed,Ce,KI]) (KM W hW e) (by simp [Ab,closed]) le ?_
     iterate 2 (refine A4.sq (NQ h1 h3d) le ?_)
     iterate 10 (first|(refine Gy rfl rfl ?_;refine A4.sq (NQ h1 h3d) le ?_)|refine Gn rfl rfl le ?_|refine Gu rfl rfl le ?_)
     first|(refine Gy rfl rfl ?_;refine A4.sf0 (NQ h1 h3d) (by exact hsg _) (HJ W g e.pool) (by simp [flat,flat.flat1,flat.flat2]) (by simp [Ab,closed]) le ?_)|refine Gn rfl rfl le ?_|refine Gu rfl rfl le ?_
     iterate 2 (first|(refine Gy rfl rfl ?_;refine A4.sq (NQ h1 h3d) le ?_)|refine Gn rfl rfl le ?_|refine Gu rfl rfl le ?_)
     refine A4.sq (NQ h1 h3d) le ?_
     refine Ah.cond (t:=false) (by simp only [BB,reduceIte,Nat.reduceEqDiff]) (Ah.skip ?_)
     refine Ah.region A6 ?_
     iterate 2 (refine A4.sq (Hv hw) le ?_)
     refine ⟨[0],[(1,.loc 0 0 0),(2,.b false),(7,.i .i64 g.edges.length),(8,.i .i64 (i+1:Nat))],⟨1,[(0,some ⟨26,3,[g.av]⟩)]⟩,⟨by simp,rfl,⟨Oz (ob:=⟨26,3,[g.av]⟩) rfl rfl rfl,trivial⟩,⟨rfl,A8 rfl,A8 rfl,A8 rfl,trivial⟩⟩,B4,k-1,by omega,i+1,by omega,rfl,Fo hx hp hok,rfl⟩
    ·have h4:=h2.resolve_left h3
     refine Ah.region A6 ?_
     refine A4.sq (JP h1 h3 h4) le ?_
     refine A4.sc0 (JP h1 h3 h4) (by simp [Ab,closed,Ce,KI]) (KM W hW e) (by simp [Ab,closed]) le ?_
     iterate 2 (refine A4.sq (JP h1 h3 h4) le ?_)
     iterate 10 (first|(refine Gy rfl rfl ?_;refine A4.sq (JP h1 h3 h4) le ?_)|refine Gn rfl rfl le ?_|refine Gu rfl rfl le ?_)
     first|(refine Gy rfl rfl ?_;refine A4.sf0 (JP h1 h3 h4) (by exact hsg _) (HJ W g e.pool) (by simp [flat,flat.flat1,flat.flat2]) (by simp [Ab,closed]) le ?_)|refine Gn rfl rfl le ?_|refine Gu rfl rfl le ?_
     iterate 2 (first|(refine Gy rfl rfl ?_;refine A4.sq (JP h1 h3 h4) le ?_)|refine Gn rfl rfl le ?_|refine Gu rfl rfl le ?_)
     refine A4.sq (JP h1 h3 h4) le ?_
     refine Ah.cond (t:=false) (by simp only [BB,reduceIte,Nat.reduceEqDiff]) (Ah.skip ?_)
     refine Ah.region A6 ?_
     iterate 2 (refine A4.sq (Hv hw) le ?_)
     refine ⟨[0],[(1,.loc 0 0 0),(2,.b false),(7,.i .i64 g.edges.length),(8,.i .i64 (i+1:Nat))],⟨1,[(0,some ⟨26,3,[g.av]⟩)]⟩,⟨by simp,rfl,⟨Oz (ob:=⟨26,3,[g.av]⟩) rfl rfl rfl,trivial⟩,⟨rfl,A8 rfl,A8 rfl,A8 rfl,trivial⟩⟩,B4,k-1,by omega,i+1,by omega,rfl,Fo hx hp hok,rfl⟩
   ·simp only [Bool.not_eq_true] at hok
    have hz:NG g=false:=by unfold NG;rw [Kg hx hok];rfl
    cases h1:HB e
    ·refine Ah.region A6 ?_
     refine A4.sq (Hv h1) le ?_
     refine A4.sc0 (Hv h1) (by simp [Ab,closed,Ce,KI]) (KM W hW e) (by simp [Ab,closed]) le ?_
     iterate 2 (refine A4.sq (Hv h1) le ?_)
     iterate 10 (first|(refine Gy rfl rfl ?_;refine A4.sq (Hv h1) le ?_)|refine Gn rfl rfl le ?_|refine Gu rfl rfl le ?_)
     first|(refine Gy rfl rfl ?_;refine A4.sf0 (Hv h1) (by exact hsg _) (HJ W g e.pool) (by simp [flat,flat.flat1,flat.flat2]) (by simp [Ab,closed]) le ?_)|refine Gn rfl rfl le ?_|refine Gu rfl rfl le ?_
     iterate 2 (first|(refine Gy rfl rfl ?_;refine A4.sq (Hv h1) le ?_)|refine Gn rfl rfl le ?_|refine Gu rfl rfl le ?_)
     refine A4.sq (Hv h1) le ?_
     refine Ah.cond (t:=true) (by simp only [BB,reduceIte,Nat.reduceEqDiff]) (Ah.seq ?_)
     refine Ah.region A6 ?_
     refine A4.sq sm le ?_
     refine Ah.ret ⟨[],Or.inr rfl,List.nodup_nil,rfl,trivial,?_⟩
     simp only [Cm,BD,C3,reduceIte,Nat.reduceEqDiff,hz]
    ·have h3: ¬e.pool=⟨#[]⟩:=fun q=>by unfold GL at hok;rw [h1,decide_eq_true q] at hok;cases hok
     have h4:Iy g e.pool<0:=Decidable.byContradiction fun q=>by unfold GL at hok;rw [h1,decide_eq_false h3,decide_eq_false q] at hok;cases hok
     refine Ah.region A6 ?_
     refine A4.sq (JP h1 h3 h4) le ?_
     refine A4.sc0 (JP h1 h3 h4) (by simp [Ab,closed,Ce,KI]) (KM W hW e) (by simp [Ab,closed]) le ?_
     iterate 2 (refine A4.sq (JP h1 h3 h4) le ?_)
     iterate 10 (first|(refine Gy rfl rfl ?_;refine A4.sq (JP h1 h3 h4) le ?_)|refine Gn rfl rfl le ?_|refine Gu rfl rfl le ?_)
     first|(refine Gy rfl rfl ?_;refine A4.sf0 (JP h1 h3 h4) (by exact hsg _) (HJ W g e.pool) (by simp [flat,flat.flat1,flat.flat2]) (by simp [Ab,closed]) le ?_)|refine Gn rfl rfl le ?_|refine Gu rfl rfl le ?_
     iterate 2 (first|(refine Gy rfl rfl ?_;refine A4.sq (JP h1 h3 h4) le ?_)|refine Gn rfl rfl le ?_|refine Gu rfl rfl le ?_)
     refine A4.sq (JP h1 h3 h4) le ?_
     refine Ah.cond (t:=true) (by simp only [BB,reduceIte,Nat.reduceEqDiff]) (Ah.seq ?_)
     refine Ah.region A6 ?_
     refine A4.sq sm le ?_
     refine Ah.ret ⟨[],Or.inr rfl,List.nodup_nil,rfl,trivial,?_⟩
     simp only [Cm,BD,C3,reduceIte,Nat.reduceEqDiff,hz]
  ·refine Ah.cond (t:=false) (by simp only [BB,reduceIte,Nat.reduceEqDiff];simpa using hge) (Ah.exit ?_)
   refine Ah.seq ?_
   have hall:=H7 hp hge
   have hz:NG g=(decide ((g.edges.length:Int)≤16)&&K6 g&&Mj g.defaults):=by unfold NG;rw [hall];rfl
   by_cases h1:(g.edges.length:Int)≤16
   ·cases h2:K6 g
    ·refine Ah.region A6 ?_
     iterate 5 (refine A4.sq (by simp only [BB,BC,E6,reduceIte,reduceCtorEq,Nat.reduceEqDiff,Nat.reduceAdd,Nat.reduceSub,Nat.reduceMul,Nat.reduceLT,Nat.reduceLeDiff,BW.av,h1,h2,decide_true,Bool.false_eq_true]<;>rfl) le ?_)
     first|(refine Gy rfl rfl ?_;refine A4.sf0 (by simp only [BB,BC,E6,reduceIte,reduceCtorEq,Nat.reduceEqDiff,Nat.reduceAdd,Nat.reduceSub,Nat.reduceMul,Nat.reduceLT,Nat.reduceLeDiff,BW.av,h1,h2,decide_true,Bool.false_eq_true]<;>rfl) (by exact hs1) (Lj W g) (by simp [flat,flat.flat1,flat.flat2]) (by simp [Ab,closed]) le ?_)|refine Gn rfl rfl le ?_|refine Gu rfl rfl le ?_
     iterate 2 (refine A4.sq (by simp only [BB,BC,E6,reduceIte,reduceCtorEq,Nat.reduceEqDiff,Nat.reduceAdd,Nat.reduceSub,Nat.reduceMul,Nat.reduceLT,Nat.reduceLeDiff,BW.av,h1,h2,decide_true,Bool.false_eq_true]<;>rfl) le ?_)
     iterate 2 (first|(refine Gy rfl rfl ?_;refine A4.sq (by simp only [BB,BC,E6,reduceIte,reduceCtorEq,Nat.reduceEqDiff,Nat.reduceAdd,Nat.reduceSub,Nat.reduceMul,Nat.reduceLT,Nat.reduceLeDiff,BW.av,h1,h2,decide_true,Bool.false_eq_true]<;>rfl) le ?_)|refine Gn rfl rfl le ?_|refine Gu rfl rfl le ?_)
     first|(refine Gy rfl rfl ?_;refine A4.sc0 (by simp only [BB,BC,E6,reduceIte,reduceCtorEq,Nat.reduceEqDiff,Nat.reduceAdd,Nat.reduceSub,Nat.reduceMul,Nat.reduceLT,Nat.reduceLeDiff,BW.av,h1,h2,decide_true,Bool.false_eq_true]<;>rfl) (by simp [Ab,closed,Ce]) (LW W hW g.defaults) (by simp [Ab,closed]) le ?_)|refine Gn rfl rfl le ?_|refine Gu rfl rfl le ?_
     iterate 2 (refine A4.sq (by simp only [BB,BC,E6,reduceIte,reduceCtorEq,Nat.reduceEqDiff,Nat.reduceAdd,Nat.reduceSub,Nat.reduceMul,Nat.reduceLT,Nat.reduceLeDiff,BW.av,h1,h2,decide_true,Bool.false_eq_true]<;>rfl) le ?_)
     refine Ah.ret ⟨[],Or.inr rfl,List.nodup_nil,rfl,trivial,?_⟩
     simp only [Cm,BD,C3,reduceIte,Nat.reduceEqDiff,hz,h2,Bool.and_false,Bool.false_and]
    ·refine Ah.region A6 ?_
     iterate 5 (refine A4.sq (by simp only [BB,BC,E6,reduceIte,reduceCtorEq,Nat.reduceEqDiff,Nat.reduceAdd,Nat.reduceSub,Nat.reduceMul,Nat.reduceLT,Nat.reduceLeDiff,BW.av,h1,h2,decide_true]<;>rfl) le ?_)
     first|(refine Gy rfl rfl ?_;refine A4.sf0 (by simp only [BB,BC,E6,reduceIte,reduceCtorEq,Nat.reduceEqDiff,Nat.reduceAdd,Nat.reduceSub,Nat.reduceMul,Nat.reduceLT,Nat.reduceLeDiff,BW.av,h1,h2,decide_true]<;>rfl) (by exact hs1) (Lj W g) (by simp [flat,flat.flat1,flat.flat2]) (by simp [Ab,closed]) le ?_)|refine Gn rfl rfl le ?_|refine Gu rfl rfl le ?_
     iterate 2 (refine A4.sq (by simp only [BB,BC,E6,reduceIte,reduceCtorEq,Nat.reduceEqDiff,Nat.reduceAdd,Nat.reduceSub,Nat.reduceMul,Nat.reduceLT,Nat.reduceLeDiff,BW.av,h1,h2,decide_true]<;>rfl) le ?_)
     iterate 2 (first|(refine Gy rfl rfl ?_;refine A4.sq (by simp only [BB,BC,E6,reduceIte,reduceCtorEq,Nat.reduceEqDiff,Nat.reduceAdd,Nat.reduceSub,Nat.reduceMul,Nat.reduceLT,Nat.reduceLeDiff,BW.av,h1,h2,decide_true]<;>rfl) le ?_)|refine Gn rfl rfl le ?_|refine Gu rfl rfl le ?_)
     first|(refine Gy rfl rfl ?_;refine A4.sc0 (by simp only [BB,BC,E6,reduceIte,reduceCtorEq,Nat.reduceEqDiff,Nat.reduceAdd,Nat.reduceSub,Nat.reduceMul,Nat.reduceLT,Nat.reduceLeDiff,BW.av,h1,h2,decide_true]<;>rfl) (by simp [Ab,closed,Ce]) (LW W hW g.defaults) (by simp [Ab,closed]) le ?_)|refine Gn rfl rfl le ?_|refine Gu rfl rfl le ?_
     iterate 2 (refine A4.sq (by simp only [BB,BC,E6,reduceIte,reduceCtorEq,Nat.reduceEqDiff,Nat.reduceAdd,Nat.reduceSub,Nat.reduceMul,Nat.reduceLT,Nat.reduceLeDiff,BW.av,h1,h2,decide_true]<;>rfl) le ?_)
     refine Ah.ret ⟨[],Or.inr rfl,List.nodup_nil,rfl,trivial,?_⟩
     simp only [Cm,BD,C3,reduceIte,Nat.reduceEqDiff,hz,h2,h1,decide_true,Bool.true_and]
   ·refine Ah.region A6 ?_
    iterate 5 (refine A4.sq (by simp only [BB,BC,E6,reduceIte,reduceCtorEq,Nat.reduceEqDiff,Nat.reduceAdd,Nat.reduceSub,Nat.reduceMul,Nat.reduceLT,Nat.reduceLeDiff,BW.av,h1,decide_false,Bool.false_eq_true]<;>rfl) le ?_)
    first|(refine Gy rfl rfl ?_;refine A4.sf0 (by simp only [BB,BC,E6,reduceIte,reduceCtorEq,Nat.reduceEqDiff,Nat.reduceAdd,Nat.reduceSub,Nat.reduceMul,Nat.reduceLT,Nat.reduceLeDiff,BW.av,h1,decide_false,Bool.false_eq_true]<;>rfl) (by exact hs1) (Lj W g) (by simp [flat,flat.flat1,flat.flat2]) (by simp [Ab,closed]) le ?_)|refine Gn rfl rfl le ?_|refine Gu rfl rfl le ?_
    iterate 2 (refine A4.sq (by simp only [BB,BC,E6,reduceIte,reduceCtorEq,Nat.reduceEqDiff,Nat.reduceAdd,Nat.reduceSub,Nat.reduceMul,Nat.reduceLT,Nat.reduceLeDiff,BW.av,h1,decide_false,Bool.false_eq_true]<;>rfl) le ?_)
    iterate 2 (first|(refine Gy rfl rfl ?_;refine A4.sq (by simp only [BB,BC,E6,reduceIte,reduceCtorEq,Nat.reduceEqDiff,Nat.reduceAdd,Nat.reduceSub,Nat.reduceMul,Nat.reduceLT,Nat.reduceLeDiff,BW.av,h1,decide_false,Bool.false_eq_true]<;>rfl) le ?_)|refine Gn rfl rfl le ?_|refine Gu rfl rfl le ?_)
    first|(refine Gy rfl rfl ?_;refine A4.sc0 (by simp only [BB,BC,E6,reduceIte,reduceCtorEq,Nat.reduceEqDiff,Nat.reduceAdd,Nat.reduceSub,Nat.reduceMul,Nat.reduceLT,Nat.reduceLeDiff,BW.av,h1,decide_false,Bool.false_eq_true]<;>rfl) (by simp [Ab,closed,Ce]) (LW W hW g.defaults) (by simp [Ab,closed]) le ?_)|refine Gn rfl rfl le ?_|refine Gu rfl rfl le ?_
    iterate 2 (refine A4.sq (by simp only [BB,BC,E6,reduceIte,reduceCtorEq,Nat.reduceEqDiff,Nat.reduceAdd,Nat.reduceSub,Nat.reduceMul,Nat.reduceLT,Nat.reduceLeDiff,BW.av,h1,decide_false,Bool.false_eq_true]<;>rfl) le ?_)
    refine Ah.ret ⟨[],Or.inr rfl,List.nodup_nil,rfl,trivial,?_⟩
    simp only [Cm,BD,C3,reduceIte,Nat.reduceEqDiff,hz,h1,decide_false,Bool.false_and]
end
end Go.Lift
namespace Go.Lift
open Go Go.RowKit
section
variable (W:World)
theorem TS (g:BW) (hsz:(EM g.edges).length*16≤140737488355328):Ar Go.Proofs.Tryz.prog W 153 [g.pt] (rowR (EM g.edges)) (rowS 9 (EM g.edges)):=by
 refine Fg (en153 W) fun hl=> ?_
 simp only [Hx,lim,BW.pt,List.length_map] at hl
 have hn:g.edges.length≤281474976710656:=hl.1.1.1
 clear hl
 unfold BW.pt
 refine C8 (fn:=Go.Proofs.Tryz.f153) Go.Proofs.Tryz.func153 rfl (en153 W) (ts:=[2]) rfl le ?_
 refine Ah.seq ?_
 refine Ah.region A6 ?_
 refine A4.sq sm le ?_
 refine Ah.seq ?_
 refine Ah.region A6 ?_
 refine A4.sq sm le ?_
 refine Ah.seq (Ah.seq ?_)
 refine Ah.region A6 ?_
 iterate 6 (refine A4.sq sm le ?_)
 refine Ah.block (Ah.fits [] (env':=[(2,.sl 1 true []),(3,.sl 1 true []),(9,.sl 7 g.enl (g.edges.map Ea.av)),(10,.i .i64 g.edges.length),(11,.i .i64 (0:Nat))]) (h':=⟨0,[]⟩) ⟨List.nodup_nil,rfl,trivial,⟨A8 rfl,A8 rfl,A8 rfl,A8 rfl,A8 rfl,trivial⟩⟩ B4 (Ah.loop (fun k env h=> ∃i x,i+k=g.edges.length∧RowIs 9 x h (EM (g.edges.take i))∧env=[(2,.sl 1 true []),(3,x),(9,.sl 7 g.enl (g.edges.map Ea.av)),(10,.i .i64 g.edges.length),(11,.i .i64 i)]) g.edges.length ?_ ?_))
 ·exact ⟨0,_,by simp,Or.inl ⟨rfl,rfl,rfl⟩,rfl⟩
 ·rintro k env h ⟨i,x,hk,hK,rfl⟩
  refine Ah.seq ?_
  refine Ah.region A6 ?_
  refine A4.sq sm le ?_
  refine Ah.seq ?_
  rcases Nat.lt_or_ge i g.edges.length with hlt|hge
  ·refine Ah.cond (t:=true) (by simp only [BB,reduceIte,Nat.reduceEqDiff];simpa using hlt) (Ah.skip ?_)
   refine Ah.seq (Ah.block (Ah.seq ?_))
   have hx:g.edges[i]? =some g.edges[i]:=List.getElem?_eq_getElem hlt
   generalize g.edges[i]=e at hx
   have hw:=H1 hlt hn
   have ho:=Ta hx
   have hle:=U4 (es:=g.edges) (i+1)
   rw [ho,List.length_append] at hle
   rcases hK with ⟨rfl,h1,rfl⟩|⟨hne,rfl,rfl⟩
   ·rw [h1,List.nil_append] at ho
    rw [h1,List.length_nil] at hle
    refine Ah.region A6 ?_
    iterate 2 (refine A4.sq (by simp only [BB,BC,E6,reduceIte,reduceCtorEq,Nat.reduceEqDiff,Nat.reduceAdd,Nat.reduceSub,Nat.reduceMul,Nat.reduceLT,Nat.reduceLeDiff,hx,Ea.av,Ce,I8.eq_1,AV.withCells.eq_1]<;>rfl) le ?_)
    refine A4.sn (by simp only [BB,BC,E6,reduceIte,reduceCtorEq,Nat.reduceEqDiff,Nat.reduceAdd,Nat.reduceSub,Nat.reduceMul,Nat.reduceLT,Nat.reduceLeDiff,hx,Ea.av,Ce,I8.eq_1,AV.withCells.eq_1]<;>rfl) le ?_
    refine A4.st (by simp only [BB,BC,E6,reduceIte,reduceCtorEq,Nat.reduceEqDiff,Nat.reduceAdd,Nat.reduceSub,Nat.reduceMul,Nat.reduceLT,Nat.reduceLeDiff,hx,Ea.av,Ce,I8.eq_1,AV.withCells.eq_1]<;>rfl) ?_
    cases hc:e.outs.xs with
    |nil=>
     refine Ah.region A6 ?_
     iterate 3 (refine A4.sq (by simp only [BB,BC,E6,reduceIte,reduceCtorEq,Nat.reduceEqDiff,Nat.reduceAdd,Nat.reduceSub,Nat.reduceMul,Nat.reduceLT,Nat.reduceLeDiff,Strs.av,hc,List.map_nil,Nat.zero_mul,Nat.zero_le]<;>rfl) le ?_)
     refine A4.se (by simp only [BB,BC,E6,reduceIte,reduceCtorEq,Nat.reduceEqDiff,Nat.reduceAdd,Nat.reduceSub,Nat.reduceMul,Nat.reduceLT,Nat.reduceLeDiff,Strs.av,hc,List.map_nil,Nat.zero_mul,Nat.zero_le]<;>rfl) le ?_
     refine A4.sq (by simp only [BB,BC,E6,reduceIte,reduceCtorEq,Nat.reduceEqDiff,Nat.reduceAdd,Nat.reduceSub,Nat.reduceMul,Nat.reduceLT,Nat.reduceLeDiff,Strs.av,hc,List.map_nil,Nat.zero_mul,Nat.zero_le]<;>rfl) le ?_
     refine Ah.region A6 ?_
     iterate 2 (refine A4.sq (Hv hw) le ?_)
     rw [hc] at ho
     refine ⟨[],[(2,.sl 1 true []),(3,.sl 1 true []),(9,.sl 7 g.enl (g.edges.map Ea.av)),(10,.i .i64 g.edges.length),(11,.i .i64 (i+1:Nat))],⟨0,[]⟩,⟨List.nodup_nil,rfl,trivial,⟨A8 rfl,A8 rfl,A8 rfl,A8 rfl,A8 rfl,trivial⟩⟩,B4,k-1,by omega,i+1,_,by omega,Or.inl ⟨rfl,ho,rfl⟩,rfl⟩
    |cons y ys=>
     rw [hc] at hle ho
     have hA:(ys.length+1)*16≤140737488355328:=by simp at hle;omega
     have hB:ys.length+1≤Gb:=by unfold Gb;omega
     refine Ah.region A6 ?_
     iterate 3 (refine A4.sq (by simp only [BB,BC,E6,reduceIte,reduceCtorEq,Nat.reduceEqDiff,Nat.reduceAdd,Nat.reduceSub,Nat.reduceMul,Nat.reduceLT,Nat.reduceLeDiff,Strs.av,hc,List.map_cons,hA,hB]<;>rfl) le ?_)
     refine A4.se (by simp only [BB,BC,E6,reduceIte,reduceCtorEq,Nat.reduceEqDiff,Nat.reduceAdd,Nat.reduceSub,Nat.reduceMul,Nat.reduceLT,Nat.reduceLeDiff,Strs.av,hc,List.map_cons,hA,hB]<;>rfl) le ?_
     refine A4.sq (by simp only [BB,BC,E6,reduceIte,reduceCtorEq,Nat.reduceEqDiff,Nat.reduceAdd,Nat.reduceSub,Nat.reduceMul,Nat.reduceLT,Nat.reduceLeDiff,Strs.av,hc,List.map_cons,hA,hB]<;>rfl) le ?_
     refine Ah.region A6 ?_
     iterate 2 (refine A4.sq (Hv hw) le ?_)
     refine ⟨[1],[(2,.sl 1 true []),(3,.own 0 0 (ys.length+1)),(9,.sl 7 g.enl (g.edges.map Ea.av)),(10,.i .i64 g.edges.length),(11,.i .i64 (i+1:Nat))],⟨1,[(0,some ⟨9,1,(y::ys).map AV.s⟩)]⟩,⟨by simp,rfl,⟨Ju (xs:=y::ys) rfl rfl,trivial⟩,⟨A8 rfl,rfl,A8 rfl,A8 rfl,A8 rfl,trivial⟩⟩,B4,k-1,by omega,i+1,_,by omega,Or.inr ⟨by rw [ho];simp,by rw [ho];rfl,by rw [ho]⟩,rfl⟩
   ·generalize EM (g.edges.take i)=kept at*
    have hA:(kept.length+e.outs.xs.length)*16≤140737488355328:=by omega
    have hB:kept.length+e.outs.xs.length≤Gb:=by unfold Gb;omega
    have hT:List.take kept.length (kept.map AV.s)=kept.map AV.s:=by rw [List.take_of_length_le (by simp)]
    refine Ah.region A6 ?_
    iterate 2 (refine A4.sq (by simp only [BB,BC,E6,reduceIte,reduceCtorEq,Nat.reduceEqDiff,Nat.reduceAdd,Nat.reduceSub,Nat.reduceMul,Nat.reduceLT,Nat.reduceLeDiff,hx,Ea.av,Ce,I8.eq_1,AV.withCells.eq_1]<;>rfl) le ?_)
    refine A4.sn (by simp only [BB,BC,E6,reduceIte,reduceCtorEq,Nat.reduceEqDiff,Nat.reduceAdd,Nat.reduceSub,Nat.reduceMul,Nat.reduceLT,Nat.reduceLeDiff,hx,Ea.av,Ce,I8.eq_1,AV.withCells.eq_1]<;>rfl) le ?_
    refine A4.st (by simp only [BB,BC,E6,reduceIte,reduceCtorEq,Nat.reduceEqDiff,Nat.reduceAdd,Nat.reduceSub,Nat.reduceMul,Nat.reduceLT,Nat.reduceLeDiff,hx,Ea.av,Ce,I8.eq_1,AV.withCells.eq_1]<;>rfl) ?_
    refine Ah.region A6 ?_
    iterate 3 (refine A4.sq (by simp only [BB,BC,E6,reduceIte,reduceCtorEq,Nat.reduceEqDiff,Nat.reduceAdd,Nat.reduceSub,Nat.reduceMul,Nat.reduceLT,Nat.reduceLeDiff,Strs.av,hA,hB,hT,Nat.le_refl]<;>rfl) le ?_)
    refine A4.se (by simp only [BB,BC,E6,reduceIte,reduceCtorEq,Nat.reduceEqDiff,Nat.reduceAdd,Nat.reduceSub,Nat.reduceMul,Nat.reduceLT,Nat.reduceLeDiff,Strs.av,hA,hB,hT,Nat.le_refl]<;>rfl) le ?_
    refine A4.sq (by simp only [BB,BC,E6,reduceIte,reduceCtorEq,Nat.reduceEqDiff,Nat.reduceAdd,Nat.reduceSub,Nat.reduceMul,Nat.reduceLT,Nat.reduceLeDiff,Strs.av,hA,hB,hT,Nat.le_refl]<;>rfl) le ?_
    refine Ah.region A6 ?_
    iterate 2 (refine A4.sq (Hv hw) le ?_)
    refine ⟨[2],[(2,.sl 1 true []),(3,.own 0 0 (kept.length+e.outs.xs.length)),(9,.sl 7 g.enl (g.edges.map Ea.av)),(10,.i .i64 g.edges.length),(11,.i .i64 (i+1:Nat))],⟨1,[(0,some ⟨9,1,(kept++e.outs.xs).map AV.s⟩)]⟩,⟨by simp,rfl,⟨Ju (xs:=kept++e.outs.xs) (by rw [List.map_append];rfl) rfl,trivial⟩,⟨A8 rfl,rfl,A8 rfl,A8 rfl,A8 rfl,trivial⟩⟩,B4,k-1,by omega,i+1,_,by omega,Or.inr ⟨by rw [ho];simp [hne],by rw [ho,List.length_append],by rw [ho]⟩,rfl⟩
  ·refine Ah.cond (t:=false) (by simp only [BB,reduceIte,Nat.reduceEqDiff];simpa using hge) (Ah.exit ?_)
   rw [List.take_of_length_le hge] at hK
   refine Ah.seq ?_
   rcases hK with ⟨rfl,h1,rfl⟩|⟨hne,rfl,rfl⟩
   ·rw [h1,Th,Tj]
    refine Ah.region A6 ?_
    iterate 2 (refine A4.sq sm le ?_)
    refine Ah.ret ⟨[],Or.inr rfl,List.nodup_nil,rfl,trivial,?_⟩
    simp only [Cm,BD,C3,reduceIte,Nat.reduceEqDiff]
   ·rw [Ti hne,Tk hne]
    refine Ah.region A6 ?_
    iterate 2 (refine A4.sq sm le ?_)
    refine Ah.ret ⟨[0],Or.inr rfl,by simp,rfl,⟨Ju (xs:=EM g.edges) rfl (TR _),trivial⟩,?_⟩
    simp only [Cm,BD,reduceIte,Nat.reduceEqDiff]
    rfl
end
end Go.Lift
namespace Go.Lift
open Go Go.RowKit
section
variable (W:World)
theorem Wu {h:A7} {id:Nat} {xs:List ByteArray} (hg:h.get id=some ⟨9,1,xs.map .s⟩) (hne:xs≠ []) (hn:xs.length≤281474976710656):
  Sk Go.Proofs.Tryz.prog W 83 [.own id 0 xs.length] h (.tup []) (h.put id (some ⟨9,1,((xs.map (·.data.toList)).mergeSort fun x y=>decide (x≤y)).map (fun y=>AV.s (H2 y))⟩)) where
 enters:=en83 W
 small:=by decide
 calls:=fun w0 μ w vs hG hs hfr hvr=>by
  simp only [D2] at hvr
  obtain ⟨v,r,rfl,hv,rfl⟩:=hvr
  obtain ⟨b,c,rfl,h1,h2,h3,h4,h5,-,hstep⟩:=Tn hs hg hne hv
  have:=Go.Proofs.Tryz.slices_Sort_string b 0 c (xs.map (·.data.toList)) w h4 h3 (by rw [List.length_map];omega)
  rw [List.length_map] at this
  refine this.mono ?_
  rintro e w' ⟨rfl,n,os,rfl⟩
  have st:=hstep ((xs.map (·.data.toList)).mergeSort fun x y=>decide (x≤y)) n (by rw [List.length_mergeSort,List.length_map]) (fun y hy=>by
   rw [List.mem_mergeSort] at hy
   obtain ⟨x,hx,rfl⟩:=List.mem_map.1 hy
   rw [Gv];exact h5 x hx)
  exact ⟨_,μ,rfl,by simp only [VR,D2];exact ⟨#[],rfl,rfl⟩,st.trans (Vy st.sim os)⟩
theorem SO {h:A7} {id:Nat} {xs:List ByteArray} (hg:h.get id=some ⟨9,1,xs.map .s⟩) (hne:xs≠ []) (hn:xs.length≤281474976710656)
  (hle:(Lib.compact (xs.map (fun x:ByteArray=>x.data.toList))).length≤xs.length) (hmem: ∀y∈Lib.compact (xs.map (fun x:ByteArray=>x.data.toList)),y∈xs.map (fun x:ByteArray=>x.data.toList)):
  Sk Go.Proofs.Tryz.prog W 84 [.own id 0 xs.length] h (.own id 0 (Lib.compact (xs.map (fun x:ByteArray=>x.data.toList))).length) (h.put id (some ⟨9,1,(Lib.compact (xs.map (fun x:ByteArray=>x.data.toList))++List.replicate (xs.length-(Lib.compact (xs.map (fun x:ByteArray=>x.data.toList))).length) []).map (fun y=>AV.s (H2 y))⟩)) where
 enters:=en84 W
 small:=by decide
 calls:=fun w0 μ w vs hG hs hfr hvr=>by
  simp only [D2] at hvr
  obtain ⟨v,r,rfl,hv,rfl⟩:=hvr
  obtain ⟨b,c,rfl,h1,h2,h3,h4,h5,⟨sl,hm,hb,hc,hk⟩,hstep⟩:=Tn hs hg hne hv
  have:=Go.Proofs.Tryz.slices_Compact_string b 0 c (xs.map (fun x:ByteArray=>x.data.toList)) w h4 (by rw [List.length_map];omega) (by rw [List.length_map];exact h1)
  rw [List.length_map] at this
  refine this.mono ?_
  rintro e w' ⟨rfl,n,rfl⟩
  have st:=hstep (Lib.compact (xs.map (fun x:ByteArray=>x.data.toList))++List.replicate (xs.length-(Lib.compact (xs.map (fun x:ByteArray=>x.data.toList))).length) []) n (by rw [List.length_append,List.length_replicate];omega) (fun y hy=>by
   rcases List.mem_append.1 hy with hy|hy
   ·obtain ⟨x,hx,rfl⟩:=List.mem_map.1 (hmem y hy)
    rw [Gv];exact h5 x hx
   ·have:=List.eq_of_mem_replicate hy
    subst this;exact Nat.zero_le _)
  refine ⟨_,μ,rfl,?_,st⟩
  simp only [VR,hm]
  exact ⟨_,c,rfl,by omega,by omega,by rw [hb],fun _=>by rw [hb,Nat.zero_mul]⟩
theorem QF (xs:List ByteArray) (hne:xs≠ []) (hn:xs.length*16≤140737488355328):
  Ar Go.Proofs.Tryz.prog W 154 [.sl 1 false (xs.map .s)] (.own 0 0 xs.length) [⟨9,1,xs.map .s⟩]:=by
 have key:=O2 (P:=Go.Proofs.Tryz.prog) (W:=W) (f:=154) (Wd W) (args:=[.sl 1 false (xs.map .s)]) (et:=9) (k:=1) (by omega) (els:=xs.map .s) fun w Y vs hG hvs=>by
  simp only [H3,IO,Qv,List.length_map] at hvs
  obtain ⟨v1,r1,rfl,h1,rfl⟩:=hvs
  rcases h1 with ⟨h,_⟩|⟨_,a,c,rfl,hc,hl,hrows⟩
  ·exact absurd (by simpa using h) hne
  ·obtain ⟨h1,h2,h3⟩:=NW hrows hne
   rw [h1]
   refine (Go.Proofs.Tryz.slices_Clone_string a.block a.off xs.length c xs w (Nat.le_refl _) hn (fun j hj=> ?_)).mono ?_
   ·rw [List.getD_eq_getElem?_getD,List.getElem?_eq_getElem hj]
    exact (h3 j _ (List.getElem?_eq_getElem hj)).1
   ·rintro e w' ⟨v',rfl,ho,hnn,hb⟩
    rw [List.take_length] at ho
    refine ⟨v',_,rfl,by rw [List.length_map];exact ho,hnn,hb,fun j x hx=> ?_⟩
    obtain ⟨q,hq,rfl⟩:=OR hx
    refine ⟨rfl,fun i y hy=> ?_⟩
    cases i with
    |succ i=>simp [AV.cells] at hy
    |zero=>
     simp [AV.cells] at hy
     subst hy
     refine ⟨.string q,by rw [Nat.mul_one,Nat.add_zero,List.getElem?_map,hq];rfl,?_,rfl⟩
     rw [Tw];exact ⟨rfl,(h3 j q hq).2⟩
 rwa [List.length_map] at key
theorem Q3:Ar Go.Proofs.Tryz.prog W 154 [.sl 1 true []] (.sl 1 true []) []:=by
 refine DE (Wd W) fun w Y vs hG hvs=> ?_
 simp only [H3,IO,Qv] at hvs
 obtain ⟨v1,r1,rfl,h1,rfl⟩:=hvs
 rcases h1 with ⟨_,rfl⟩|⟨h,_⟩
 ·refine (Go.Proofs.Tryz.slices_Clone_string_nil 0 0 w).mono ?_
  rintro e w' ⟨rfl,rfl⟩
  exact ⟨_,rfl,by simp only [VR,CR];exact Or.inl ⟨trivial,trivial⟩,Below.refl _ _⟩
 ·cases h
theorem Oc:Ar Go.Proofs.Tryz.prog W 84 [.sl 1 true []] (.sl 1 true []) []:=by
 refine DE (en84 W) fun w Y vs hG hvs=> ?_
 simp only [H3,IO,Qv] at hvs
 obtain ⟨v1,r1,rfl,h1,rfl⟩:=hvs
 rcases h1 with ⟨_,rfl⟩|⟨h,_⟩
 ·refine (Go.Proofs.Tryz.slices_Compact_string_empty none 0 w).mono ?_
  rintro e w' ⟨rfl,rfl⟩
  exact ⟨_,rfl,by simp only [VR,CR];exact Or.inl ⟨trivial,trivial⟩,Below.refl _ _⟩
 ·cases h
theorem RM:Ar Go.Proofs.Tryz.prog W 83 [.sl 1 true []] (.tup []) []:=by
 refine DE (en83 W) fun w Y vs hG hvs=> ?_
 simp only [H3,IO,Qv] at hvs
 obtain ⟨v1,r1,rfl,h1,rfl⟩:=hvs
 rcases h1 with ⟨_,rfl⟩|⟨h,_⟩
 ·refine (Go.Proofs.Tryz.slices_Sort_string_none none 0 w).mono ?_
  rintro e w' ⟨rfl,rfl⟩
  exact ⟨_,rfl,by simp only [VR,D2];exact ⟨#[],rfl,rfl⟩,Below.refl _ _⟩
 ·cases h
theorem V1 {h:A7} {id:Nat} {xs:List ByteArray} (hg:h.get id=some ⟨9,1,xs.map .s⟩) (hne:xs≠ []) (hn:xs.length≤281474976710656):
  Sk Go.Proofs.Tryz.prog W 83 [.own id 0 xs.length] h (.tup []) (h.put id (some ⟨9,1,((KC (xs.map fun x=>x.data.toList)).map H2).map .s⟩)):=by
 have:=Wu W hg hne hn
 rw [List.map_map];exact this
theorem SH {m:Int} (hW:W.cell? ⟨0,0,none⟩=some (.int .i64 m)) (g:BW):Ar Go.Proofs.Tryz.prog W 104 [g.av] (.i .i64 (Ld g)) []:=by
 refine C8 (fn:=Go.Proofs.Tryz.f104) Go.Proofs.Tryz.func104 rfl (en104 W) (ts:=[2]) rfl le ?_
 refine Ah.seq ?_
 refine Ah.region A6 ?_
 refine A4.sn (by simp only [BB,BC,E6,reduceIte,reduceCtorEq,Nat.reduceEqDiff,Nat.reduceAdd,Nat.reduceSub,Nat.reduceMul,Nat.reduceLT,Nat.reduceLeDiff,H8,BW.av]<;>rfl) le ?_
 refine A4.sq (by simp only [BB,BC,E6,reduceIte,reduceCtorEq,Nat.reduceEqDiff,Nat.reduceAdd,Nat.reduceSub,Nat.reduceMul,Nat.reduceLT,Nat.reduceLeDiff,H8,BW.av]<;>rfl) le ?_
 refine Ah.seq (Ah.seq ?_)
 refine Ah.region A6 ?_
 refine A4.sq (by simp only [BB,BC,E6,reduceIte,reduceCtorEq,Nat.reduceEqDiff,Nat.reduceAdd,Nat.reduceSub,Nat.reduceMul,Nat.reduceLT,Nat.reduceLeDiff,BW.av]<;>rfl) le ?_
 refine A4.sc0 (by simp only [BB,BC,E6,reduceIte,reduceCtorEq,Nat.reduceEqDiff,Nat.reduceAdd,Nat.reduceSub,Nat.reduceMul,Nat.reduceLT,Nat.reduceLeDiff,BW.av]<;>rfl) (by simp [Ab,closed,Ce,H8]) (UX W hW g) (by simp [Ab,closed]) le ?_
 refine A4.sq (by simp only [BB,BC,E6,reduceIte,reduceCtorEq,Nat.reduceEqDiff,Nat.reduceAdd,Nat.reduceSub,Nat.reduceMul,Nat.reduceLT,Nat.reduceLeDiff,BW.av]<;>rfl) le ?_
 cases hm:NG g with
 |false=>
  refine Ah.cond (t:=true) (by simp only [BB,reduceIte,Nat.reduceEqDiff,hm,Bool.not_false]) (Ah.seq ?_)
  refine Ah.region A6 ?_
  refine A4.sq sm le ?_
  refine Ah.ret ⟨[],Or.inr rfl,List.nodup_nil,rfl,trivial,?_⟩
  have hz:Ld g=900:=by unfold Ld;rw [if_pos hm]
  simp only [Cm,BD,C3,reduceIte,Nat.reduceEqDiff,hz]
 |true=>
  refine Ah.cond (t:=false) (by simp only [BB,reduceIte,Nat.reduceEqDiff,hm,Bool.not_true]) (Ah.skip ?_)
  have hle:=Vm hm
  have ho:=TS W g (by omega)
  have hz:Ld g=if K1 ((EM g.edges).map fun x=>x.data.toList) then 901 else 0:=by unfold Ld;rw [if_neg (by rw [hm];simp)]
  rw [←WZ] at hz
  generalize EM g.edges=xs at hle ho hz
  refine Ah.fits [0] (env':=[(1,.loc 0 0 0)]) (h':=⟨1,[(0,some ⟨26,3,[g.av]⟩)]⟩) ⟨by simp,rfl,⟨Oz (ob:=⟨26,3,[g.av]⟩) rfl rfl rfl,trivial⟩,⟨rfl,trivial⟩⟩ B4 ?_
  have hs1:mapC (BU [] ⟨1,[(0,some ⟨26,3,[g.av]⟩)]⟩ 8) [.loc 0 0 0]=some [g.pt]:=WX rfl
  refine Ah.seq ?_
  by_cases hne:xs=[]
  ·subst hne
   rw [Th,Tj] at ho
   refine Ah.region A6 ?_
   refine A4.sf0 sm (by exact hs1) ho (by simp [flat,flat.flat1,flat.flat2]) (by simp [Ab,closed]) le ?_
   refine A4.sq sm le ?_
   refine Ah.seq ?_
   refine Ah.region A6 ?_
   refine A4.sq sm le ?_
   refine A4.sc0 sm (by simp [Ab,closed]) (RM W) (by simp [Ab,closed]) le ?_
   refine Ah.seq (Ah.seq ?_)
   refine Ah.region A6 ?_
   refine A4.sq sm le ?_
   refine A4.sc0 sm (by simp [Ab,closed]) (Q3 W) (by simp [Ab,closed]) le ?_
   refine A4.sc0 sm (by simp [Ab,closed]) (Oc W) (by simp [Ab,closed]) le ?_
   iterate 4 (refine A4.sq sm le ?_)
   refine Ah.cond (t:=false) (by simp [BB]) (Ah.skip ?_)
   refine Ah.seq ?_
   refine Ah.region A6 ?_
   refine A4.sq sm le ?_
   refine Ah.ret ⟨[],Or.inr rfl,List.nodup_nil,rfl,trivial,?_⟩
   simp [Cm,BD,C3,hz]
  ·rw [Ti hne,Tk hne] at ho
   refine Ah.region A6 ?_
   refine Sd sm (by exact hs1) ho (by exact J2 _) (by simp [AV.cells,flat]) le ?_
   refine A4.sq sm le ?_
   refine Ah.seq ?_
   refine Ah.region A6 ?_
   refine A4.sq sm le ?_
   refine A4.sm sm (V1 W (id:=1) rfl hne (by omega)) le ?_
   obtain ⟨ys,hys⟩: ∃ys,ys=(KC (xs.map fun x=>x.data.toList)).map H2:=⟨_,rfl⟩
   have hyl:ys.length=xs.length:=by rw [hys,List.length_map,Vx,List.length_map]
   have hyne:ys≠ []:=fun e=>hne (List.length_eq_zero_iff.1 (by rw [←hyl,e];rfl))
   have hyd:ys.map (fun x:ByteArray=>x.data.toList)=KC (xs.map fun x=>x.data.toList):=by rw [hys,Qe]
   rw [←hys]
   refine Ah.seq (Ah.seq ?_)
   refine Ah.region A6 ?_
   refine A4.sq sm le ?_
   refine Sd sm (by exact WY rfl hyl.symm (by unfold Gb;omega)) (QF W ys hyne (by omega)) (by exact J2 _) (by simp [AV.cells,flat]) le ?_
   refine A4.sm sm (SO W (id:=2) (xs:=ys) rfl hyne (by omega) (by rw [←List.length_map (f:=fun x:ByteArray=>x.data.toList)];exact TF _) (SB _)) le ?_
   iterate 4 (refine A4.sq sm le ?_)
   rw [hyd]
   have hlt:decide (((Lib.compact (KC (xs.map fun x=>x.data.toList))).length:Int)<(xs.length:Int))=decide ((Lib.compact (KC (xs.map fun x=>x.data.toList))).length<(xs.map fun x=>x.data.toList).length):=by
    rw [List.length_map,decide_eq_decide];omega
   rw [←hlt] at hz
   refine LN (t:=decide (((Lib.compact (KC (xs.map fun x=>x.data.toList))).length:Int)<(xs.length:Int))) (by simp only [BB,reduceIte,Nat.reduceEqDiff]) (fun ht=>Ah.seq ?_) (fun ht=>Ah.skip (Ah.seq ?_))
   ·refine Ah.region A6 ?_
    refine A4.sq sm le ?_
    refine Ah.ret ⟨[],Or.inr rfl,List.nodup_nil,rfl,trivial,?_⟩
    simp only [Cm,BD,C3,reduceIte,Nat.reduceEqDiff,hz,ht]
   ·refine Ah.region A6 ?_
    refine A4.sq sm le ?_
    refine Ah.ret ⟨[],Or.inr rfl,List.nodup_nil,rfl,trivial,?_⟩
    simp only [Cm,BD,C3,reduceIte,Nat.reduceEqDiff,hz,ht,Bool.false_eq_true]
end
end Go.Lift
