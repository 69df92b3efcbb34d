/- Contracts of functions that the claimed law reaches, part 1; each states its own conditions. -/
import Derived.Test.YtmdbpbncdkdipaaDoorProg
import Derived.Test.YtmdbpbncdkdipaaDoorAslB
import Derived.KernelRfl
set_option linter.unusedVariables false
set_option linter.unusedSimpArgs false
/- The context of this seat: its types, its functions' entries. Printed by ctx.py (own work of this place). -/
namespace Go.Proofs.YtmdbpbncdkdipaaDoor
open Go.Asl
def tbl : List (Nat × TI) := [
  (1, ⟨1, 8, [.nilfn], .other⟩),
  (2, ⟨1, 8, [.int .i64 0], .int .i64⟩),
  (3, ⟨1, 8, [.int .i64 0], .int .i64⟩),
  (4, ⟨1, 1, [.bool false], .bool⟩),
  (5, ⟨1, 1, [.int .u8 0], .int .u8⟩),
  (6, ⟨1, 1, [.int .u8 0], .int .u8⟩),
  (7, ⟨4, 24, [.int .i64 0, .int .i64 0, .bool false, .int .u8 0], .struct [(0, 2), (1, 3), (2, 4), (3, 6)]⟩),
  (8, ⟨4, 24, [.int .i64 0, .int .i64 0, .bool false, .int .u8 0], .struct [(0, 2), (1, 3), (2, 4), (3, 6)]⟩),
  (9, ⟨1, 16, [.str ⟨#[]⟩], .string⟩),
  (10, ⟨1, 16, [.str ⟨#[]⟩], .string⟩),
  (11, ⟨1, 16, [.str ⟨#[]⟩], .string⟩),
  (12, ⟨1, 8, [.int .u64 0], .int .u64⟩),
  (13, ⟨2, 24, [.str ⟨#[]⟩, .int .u64 0], .struct [(0, 9), (1, 12)]⟩),
  (14, ⟨2, 24, [.str ⟨#[]⟩, .int .u64 0], .struct [(0, 9), (1, 12)]⟩),
  (21, ⟨1, 4, [.int .i32 0], .int .i32⟩),
  (22, ⟨1, 24, [.nils], .slice 110⟩),
  (23, ⟨1, 24, [.nils], .slice 84⟩),
  (24, ⟨1, 24, [.nils], .slice 54⟩),
  (25, ⟨1, 24, [.nils], .slice 3⟩),
  (26, ⟨1, 24, [.nils], .slice 101⟩),
  (27, ⟨1, 8, [.nilfn], .other⟩),
  (28, ⟨1, 24, [.nils], .slice 74⟩),
  (29, ⟨1, 8, [.nilfn], .other⟩),
  (31, ⟨1, 8, [.nilfn], .other⟩),
  (32, ⟨1, 8, [.nilfn], .other⟩),
  (33, ⟨1, 8, [.nilfn], .other⟩),
  (34, ⟨1, 24, [.nils], .slice 28⟩),
  (35, ⟨1, 8, [.nilfn], .other⟩),
  (36, ⟨4, 32, [.bool false, .int .i64 0, .int .i64 0, .int .i64 0], .struct [(0, 4), (1, 3), (2, 3), (3, 3)]⟩),
  (37, ⟨4, 32, [.bool false, .int .i64 0, .int .i64 0, .int .i64 0], .struct [(0, 4), (1, 3), (2, 3), (3, 3)]⟩),
  (38, ⟨1, 8, [.int .i64 0], .int .i64⟩),
  (40, ⟨1, 8, [.nilfn], .other⟩),
  (41, ⟨1, 8, [.nilfn], .other⟩),
  (42, ⟨1, 24, [.nils], .slice 79⟩),
  (44, ⟨1, 8, [.nilfn], .other⟩),
  (45, ⟨1, 8, [.nilfn], .other⟩),
  (46, ⟨1, 24, [.nils], .slice 66⟩),
  (47, ⟨2, 32, [.int .i64 0, .nils], .struct [(0, 3), (1, 46)]⟩),
  (48, ⟨2, 32, [.int .i64 0, .nils], .struct [(0, 3), (1, 46)]⟩),
  (50, ⟨1, 8, [.nilfn], .other⟩),
  (51, ⟨1, 8, [.nilfn], .other⟩),
  (52, ⟨1, 8, [.nilfn], .other⟩),
  (53, ⟨2, 16, [.int .i64 0, .int .i64 0], .struct [(0, 3), (1, 3)]⟩),
  (54, ⟨2, 16, [.int .i64 0, .int .i64 0], .struct [(0, 3), (1, 3)]⟩),
  (55, ⟨1, 8, [.nilfn], .other⟩),
  (56, ⟨1, 8, [.nilfn], .other⟩),
  (57, ⟨1, 24, [.nils], .slice 48⟩),
  (59, ⟨1, 8, [.nilfn], .other⟩),
  (60, ⟨1, 8, [.nilfn], .other⟩),
  (61, ⟨1, 8, [.nilfn], .other⟩),
  (62, ⟨1, 8, [.nilfn], .other⟩),
  (63, ⟨1, 8, [.nilfn], .other⟩),
  (64, ⟨1, 8, [.nilfn], .other⟩),
  (65, ⟨5, 48, [.int .i64 0, .int .i64 0, .int .i64 0, .int .i64 0, .str ⟨#[]⟩], .struct [(0, 3), (1, 3), (2, 3), (3, 3), (4, 9)]⟩),
  (66, ⟨5, 48, [.int .i64 0, .int .i64 0, .int .i64 0, .int .i64 0, .str ⟨#[]⟩], .struct [(0, 3), (1, 3), (2, 3), (3, 3), (4, 9)]⟩),
  (67, ⟨1, 8, [.nilfn], .other⟩),
  (68, ⟨1, 8, [.nilfn], .other⟩),
  (70, ⟨1, 8, [.nilfn], .other⟩),
  (71, ⟨1, 8, [.nilfn], .other⟩),
  (72, ⟨1, 8, [.nilfn], .other⟩),
  (73, ⟨3, 24, [.int .i64 0, .int .i64 0, .int .i64 0], .struct [(0, 3), (1, 3), (2, 3)]⟩),
  (74, ⟨3, 24, [.int .i64 0, .int .i64 0, .int .i64 0], .struct [(0, 3), (1, 3), (2, 3)]⟩),
  (75, ⟨1, 8, [.nilfn], .other⟩),
  (76, ⟨1, 8, [.nilfn], .other⟩),
  (77, ⟨1, 8, [.nilfn], .other⟩),
  (78, ⟨2, 16, [.int .i64 0, .int .i64 0], .struct [(0, 3), (1, 3)]⟩),
  (79, ⟨2, 16, [.int .i64 0, .int .i64 0], .struct [(0, 3), (1, 3)]⟩),
  (80, ⟨1, 8, [.nilfn], .other⟩),
  (82, ⟨1, 8, [.nilfn], .other⟩),
  (83, ⟨1, 8, [.nilfn], .other⟩),
  (84, ⟨2, 16, [.int .i64 0, .int .i64 0], .array 2 3⟩),
  (85, ⟨4, 80, [.nils, .int .i64 0, .nils, .nils], .struct [(0, 28), (1, 3), (2, 24), (3, 24)]⟩),
  (86, ⟨4, 80, [.nils, .int .i64 0, .nils, .nils], .struct [(0, 28), (1, 3), (2, 24), (3, 24)]⟩),
  (87, ⟨1, 8, [.nilfn], .other⟩),
  (88, ⟨1, 8, [.nilfn], .other⟩),
  (89, ⟨1, 8, [.nilfn], .other⟩),
  (90, ⟨4, 32, [.int .i64 0, .int .i64 0, .int .i64 0, .int .i64 0], .struct [(0, 3), (1, 3), (2, 54)]⟩),
  (91, ⟨4, 32, [.int .i64 0, .int .i64 0, .int .i64 0, .int .i64 0], .struct [(0, 3), (1, 3), (2, 54)]⟩),
  (92, ⟨1, 8, [.nilfn], .other⟩),
  (93, ⟨1, 8, [.nilfn], .other⟩),
  (94, ⟨1, 8, [.nilfn], .other⟩),
  (95, ⟨1, 8, [.nilfn], .other⟩),
  (96, ⟨1, 8, [.nilfn], .other⟩),
  (97, ⟨1, 8, [.nilfn], .other⟩),
  (98, ⟨2, 16, [.bool false, .nilfn], .struct [(0, 4), (1, 97)]⟩),
  (99, ⟨2, 16, [.bool false, .nilfn], .struct [(0, 4), (1, 97)]⟩),
  (100, ⟨1, 8, [.nilfn], .other⟩),
  (101, ⟨5, 40, [.int .i64 0, .int .i64 0, .int .i64 0, .int .i64 0, .int .i64 0], .array 5 3⟩),
  (102, ⟨1, 8, [.nilfn], .other⟩),
  (103, ⟨4, 32, [.int .i64 0, .int .i64 0, .int .i64 0, .int .i64 0], .array 4 3⟩),
  (104, ⟨1, 24, [.nils], .slice 5⟩),
  (105, ⟨1, 8, [.nilfn], .other⟩),
  (106, ⟨1, 8, [.nilfn], .other⟩),
  (107, ⟨1, 8, [.nilfn], .other⟩),
  (108, ⟨1, 8, [.nilfn], .other⟩),
  (109, ⟨1, 8, [.nilfn], .other⟩),
  (110, ⟨3, 24, [.int .i64 0, .int .i64 0, .int .i64 0], .array 3 3⟩),
  (111, ⟨1, 8, [.nilfn], .other⟩),
  (112, ⟨1, 8, [.nilfn], .other⟩),
  (113, ⟨1, 24, [.nils], .struct [(0, 28)]⟩),
  (114, ⟨1, 24, [.nils], .struct [(0, 28)]⟩),
  (115, ⟨1, 8, [.nilfn], .other⟩),
  (116, ⟨1, 8, [.nilfn], .other⟩),
  (117, ⟨1, 8, [.nilfn], .other⟩),
  (118, ⟨1, 8, [.nilfn], .other⟩),
  (119, ⟨1, 8, [.nilfn], .other⟩),
  (120, ⟨10, 80, [.bool false, .nilfn, .bool false, .nilfn, .bool false, .nilfn, .bool false, .nilfn, .bool false, .nilfn], .array 5 99⟩),
  (121, ⟨1, 8, [.nilfn], .other⟩),
  (122, ⟨1, 8, [.nilfn], .other⟩),
  (123, ⟨1, 8, [.nilfn], .other⟩),
  (125, ⟨1, 8, [.nilfn], .other⟩),
  (127, ⟨1, 8, [.nilfn], .other⟩),
  (128, ⟨1, 8, [.nilfn], .other⟩),
  (131, ⟨0, 0, [], .array 0 16⟩),
  (134, ⟨1, 8, [.nilfn], .other⟩),
  (135, ⟨1, 4, [.int .u32 0], .int .u32⟩),
  (136, ⟨1, 1, [.int .u8 0], .int .u8⟩),
  (137, ⟨1, 1, [.int .u8 0], .int .u8⟩),
  (138, ⟨1, 8, [.nilfn], .other⟩),
  (140, ⟨1, 4, [.int .i32 0], .int .i32⟩),
  (141, ⟨1, 4, [.int .i32 0], .int .i32⟩),
  (145, ⟨1, 8, [.nilfn], .other⟩),
  (146, ⟨1, 8, [.nilfn], .other⟩)]
theorem tbl_ok : (tbl.all fun x => checkT Tryd.prog x.1 x.2) = true := by kernel_rfl
/-- The table of rules: whether a second can be sure, and who it speaks against. -/
def rulesA : AV := .agg [.bool false, .fn 96 [] [], .bool true, .fn 97 [] [], .bool true, .fn 98 [] [], .bool false, .fn 96 [] [], .bool false, .fn 96 [] []]
def gls (g : Nat) : Option AV := match Nat.beq g 0 with
  | true => some rulesA
  | false => none
noncomputable def Kx : Ctx := mkCtx Tryd.prog tbl gls
theorem Kx_ok : Kx.Ok := mkCtx_ok tbl_ok
theorem ent3 : Ent Kx.P 3 := Ent_of Tryd.func3 (by kernel_rfl) rfl
theorem ent4 : Ent Kx.P 4 := Ent_of Tryd.func4 (by kernel_rfl) rfl
theorem ent5 : Ent Kx.P 5 := Ent_of Tryd.func5 (by kernel_rfl) rfl
theorem ent6 : Ent Kx.P 6 := Ent_of Tryd.func6 (by kernel_rfl) rfl
theorem ent7 : Ent Kx.P 7 := Ent_of Tryd.func7 (by kernel_rfl) rfl
theorem ent8 : Ent Kx.P 8 := Ent_of Tryd.func8 (by kernel_rfl) rfl
theorem ent9 : Ent Kx.P 9 := Ent_of Tryd.func9 (by kernel_rfl) rfl
theorem ent10 : Ent Kx.P 10 := Ent_of Tryd.func10 (by kernel_rfl) rfl
theorem ent11 : Ent Kx.P 11 := Ent_of Tryd.func11 (by kernel_rfl) rfl
theorem ent12 : Ent Kx.P 12 := Ent_of Tryd.func12 (by kernel_rfl) rfl
theorem ent13 : Ent Kx.P 13 := Ent_of Tryd.func13 (by kernel_rfl) rfl
theorem ent14 : Ent Kx.P 14 := Ent_of Tryd.func14 (by kernel_rfl) rfl
theorem ent15 : Ent Kx.P 15 := Ent_of Tryd.func15 (by kernel_rfl) rfl
theorem ent16 : Ent Kx.P 16 := Ent_of Tryd.func16 (by kernel_rfl) rfl
theorem ent17 : Ent Kx.P 17 := Ent_of Tryd.func17 (by kernel_rfl) rfl
theorem ent18 : Ent Kx.P 18 := Ent_of Tryd.func18 (by kernel_rfl) rfl
theorem ent19 : Ent Kx.P 19 := Ent_of Tryd.func19 (by kernel_rfl) rfl
theorem ent20 : Ent Kx.P 20 := Ent_of Tryd.func20 (by kernel_rfl) rfl
theorem ent21 : Ent Kx.P 21 := Ent_of Tryd.func21 (by kernel_rfl) rfl
theorem ent22 : Ent Kx.P 22 := Ent_of Tryd.func22 (by kernel_rfl) rfl
theorem ent23 : Ent Kx.P 23 := Ent_of Tryd.func23 (by kernel_rfl) rfl
theorem ent24 : Ent Kx.P 24 := Ent_of Tryd.func24 (by kernel_rfl) rfl
theorem ent25 : Ent Kx.P 25 := Ent_of Tryd.func25 (by kernel_rfl) rfl
theorem ent26 : Ent Kx.P 26 := Ent_of Tryd.func26 (by kernel_rfl) rfl
theorem ent27 : Ent Kx.P 27 := Ent_of Tryd.func27 (by kernel_rfl) rfl
theorem ent28 : Ent Kx.P 28 := Ent_of Tryd.func28 (by kernel_rfl) rfl
theorem ent29 : Ent Kx.P 29 := Ent_of Tryd.func29 (by kernel_rfl) rfl
theorem ent30 : Ent Kx.P 30 := Ent_of Tryd.func30 (by kernel_rfl) rfl
theorem ent31 : Ent Kx.P 31 := Ent_of Tryd.func31 (by kernel_rfl) rfl
theorem ent32 : Ent Kx.P 32 := Ent_of Tryd.func32 (by kernel_rfl) rfl
theorem ent33 : Ent Kx.P 33 := Ent_of Tryd.func33 (by kernel_rfl) rfl
theorem ent34 : Ent Kx.P 34 := Ent_of Tryd.func34 (by kernel_rfl) rfl
theorem ent35 : Ent Kx.P 35 := Ent_of Tryd.func35 (by kernel_rfl) rfl
theorem ent36 : Ent Kx.P 36 := Ent_of Tryd.func36 (by kernel_rfl) rfl
theorem ent37 : Ent Kx.P 37 := Ent_of Tryd.func37 (by kernel_rfl) rfl
theorem ent38 : Ent Kx.P 38 := Ent_of Tryd.func38 (by kernel_rfl) rfl
theorem ent39 : Ent Kx.P 39 := Ent_of Tryd.func39 (by kernel_rfl) rfl
theorem ent40 : Ent Kx.P 40 := Ent_of Tryd.func40 (by kernel_rfl) rfl
theorem ent41 : Ent Kx.P 41 := Ent_of Tryd.func41 (by kernel_rfl) rfl
theorem ent42 : Ent Kx.P 42 := Ent_of Tryd.func42 (by kernel_rfl) rfl
theorem ent43 : Ent Kx.P 43 := Ent_of Tryd.func43 (by kernel_rfl) rfl
theorem ent44 : Ent Kx.P 44 := Ent_of Tryd.func44 (by kernel_rfl) rfl
theorem ent45 : Ent Kx.P 45 := Ent_of Tryd.func45 (by kernel_rfl) rfl
theorem ent46 : Ent Kx.P 46 := Ent_of Tryd.func46 (by kernel_rfl) rfl
theorem ent47 : Ent Kx.P 47 := Ent_of Tryd.func47 (by kernel_rfl) rfl
theorem ent48 : Ent Kx.P 48 := Ent_of Tryd.func48 (by kernel_rfl) rfl
theorem ent49 : Ent Kx.P 49 := Ent_of Tryd.func49 (by kernel_rfl) rfl
theorem ent50 : Ent Kx.P 50 := Ent_of Tryd.func50 (by kernel_rfl) rfl
theorem ent51 : Ent Kx.P 51 := Ent_of Tryd.func51 (by kernel_rfl) rfl
theorem ent52 : Ent Kx.P 52 := Ent_of Tryd.func52 (by kernel_rfl) rfl
theorem ent53 : Ent Kx.P 53 := Ent_of Tryd.func53 (by kernel_rfl) rfl
theorem ent54 : Ent Kx.P 54 := Ent_of Tryd.func54 (by kernel_rfl) rfl
theorem ent55 : Ent Kx.P 55 := Ent_of Tryd.func55 (by kernel_rfl) rfl
theorem ent56 : Ent Kx.P 56 := Ent_of Tryd.func56 (by kernel_rfl) rfl
theorem ent57 : Ent Kx.P 57 := Ent_of Tryd.func57 (by kernel_rfl) rfl
theorem ent58 : Ent Kx.P 58 := Ent_of Tryd.func58 (by kernel_rfl) rfl
theorem ent59 : Ent Kx.P 59 := Ent_of Tryd.func59 (by kernel_rfl) rfl
theorem ent60 : Ent Kx.P 60 := Ent_of Tryd.func60 (by kernel_rfl) rfl
theorem ent61 : Ent Kx.P 61 := Ent_of Tryd.func61 (by kernel_rfl) rfl
theorem ent62 : Ent Kx.P 62 := Ent_of Tryd.func62 (by kernel_rfl) rfl
theorem ent63 : Ent Kx.P 63 := Ent_of Tryd.func63 (by kernel_rfl) rfl
theorem ent64 : Ent Kx.P 64 := Ent_of Tryd.func64 (by kernel_rfl) rfl
theorem ent65 : Ent Kx.P 65 := Ent_of Tryd.func65 (by kernel_rfl) rfl
theorem ent66 : Ent Kx.P 66 := Ent_of Tryd.func66 (by kernel_rfl) rfl
theorem ent67 : Ent Kx.P 67 := Ent_of Tryd.func67 (by kernel_rfl) rfl
theorem ent68 : Ent Kx.P 68 := Ent_of Tryd.func68 (by kernel_rfl) rfl
theorem ent69 : Ent Kx.P 69 := Ent_of Tryd.func69 (by kernel_rfl) rfl
theorem ent70 : Ent Kx.P 70 := Ent_of Tryd.func70 (by kernel_rfl) rfl
theorem ent71 : Ent Kx.P 71 := Ent_of Tryd.func71 (by kernel_rfl) rfl
theorem ent72 : Ent Kx.P 72 := Ent_of Tryd.func72 (by kernel_rfl) rfl
theorem ent73 : Ent Kx.P 73 := Ent_of Tryd.func73 (by kernel_rfl) rfl
theorem ent74 : Ent Kx.P 74 := Ent_of Tryd.func74 (by kernel_rfl) rfl
theorem ent75 : Ent Kx.P 75 := Ent_of Tryd.func75 (by kernel_rfl) rfl
theorem ent76 : Ent Kx.P 76 := Ent_of Tryd.func76 (by kernel_rfl) rfl
theorem ent77 : Ent Kx.P 77 := Ent_of Tryd.func77 (by kernel_rfl) rfl
theorem ent78 : Ent Kx.P 78 := Ent_of Tryd.func78 (by kernel_rfl) rfl
theorem ent79 : Ent Kx.P 79 := Ent_of Tryd.func79 (by kernel_rfl) rfl
theorem ent96 : Ent Kx.P 96 := Ent_of Tryd.func96 (by kernel_rfl) rfl
theorem ent97 : Ent Kx.P 97 := Ent_of Tryd.func97 (by kernel_rfl) rfl
theorem ent98 : Ent Kx.P 98 := Ent_of Tryd.func98 (by kernel_rfl) rfl
theorem ent99 : Ent Kx.P 99 := Ent_of Tryd.func99 (by kernel_rfl) rfl
theorem ent100 : Ent Kx.P 100 := Ent_of Tryd.func100 (by kernel_rfl) rfl
end Go.Proofs.YtmdbpbncdkdipaaDoor
namespace Go.Proofs.YtmdbpbncdkdipaaDoor
open Go.Asl
set_option maxRecDepth 100000

structure Spn where
  f : Int
  t : Int
  o : Int
  deriving DecidableEq
def spA (s : Spn) : AV := .agg [.int .i64 s.f, .int .i64 s.t, .int .i64 s.o]
def spL (xs : List Spn) : AV := .lst (xs.map spA)

def isOwn (n : Int) : Bool := decide (0 ≤ n) && decide (n ≤ 2999)
/-- The end of a list of spans. -/
def endOf (xs : List Spn) : Int := match xs.getLast? with
  | some s => s.t
  | none => 0

theorem c_timeline_isOwner (n : Int) : FnP Kx 63 [.int .i64 n] (.bool (isOwn n)) := by
  refine FnT_of_body ent63 Tryd.func63 rfl Tryd.ntmps63 rfl (fun C0 hC0 => ?_)
  repeat (first | refine G_pure Kx_ok rfl rfl ?_ | refine G_nil ?_ | refine G_seq ?_ | refine G_region rfl ?_)
  by_cases h : 0 ≤ n
  · refine G_bool (t := 5) rfl (decide_eq_true h) ?_
    repeat (first | refine G_pure Kx_ok rfl rfl ?_ | refine G_run rfl rfl rfl ?_ | refine G_nil ?_)
    refine G_ret (G_leave ?_)
    refine G_return Kx_ok rfl ?_
    simp [resV, isOwn, h]
  · refine G_bool (t := 5) rfl (decide_eq_false h) ?_
    repeat (first | refine G_pure Kx_ok rfl rfl ?_ | refine G_not rfl rfl rfl rfl ?_ | refine G_nil ?_)
    refine G_ret (G_leave ?_)
    refine G_return Kx_ok rfl ?_
    simp [resV, isOwn, h]

theorem c_timeline_end (xs : List Spn) (hl : xs.length ≤ 4611686018427387904) : FnP Kx 66 [spL xs] (.int .i64 (endOf xs)) := by
  refine FnT_of_body ent66 Tryd.func66 rfl Tryd.ntmps66 rfl (fun C0 hC0 => ?_)
  repeat (first | refine G_pure Kx_ok rfl rfl ?_ | refine G_nil ?_ | refine G_seq ?_ | refine G_region rfl ?_)
  refine G_cond rfl (fun h => ?_) (fun h => ?_)
  · have h := of_decide_eq_true h
    repeat (first | refine G_pure Kx_ok rfl rfl ?_ | refine G_nil ?_ | refine G_seq ?_ | refine G_region rfl ?_)
    refine G_ret (G_leave ?_)
    refine G_return Kx_ok rfl ?_
    have : xs = [] := by
      cases xs with
      | nil => rfl
      | cons x r => simp at h; omega
    subst this
    simp [resV, endOf]
  · have h := of_decide_eq_false h
    refine G_skip ?_
    repeat (first | refine G_pure Kx_ok rfl rfl ?_ | refine G_nil ?_ | refine G_seq ?_ | refine G_region rfl ?_)
    have hne : xs ≠ [] := fun e => h (by rw [e]; rfl)
    have hpos := List.length_pos_iff.2 hne
    refine G_int (t := 9) (b := ((xs.length - 1 : Nat) : Int)) rfl (by rw [w64] <;> simp <;> omega) ?_
    refine G_index_lst Kx_ok rfl rfl rfl rfl rfl (map_get (x := xs.getLast hne) (by rw [List.getLast_eq_getElem]; simp)) (by omega) rfl rfl rfl ?_
    repeat (first | refine G_pure Kx_ok rfl rfl ?_ | refine G_nil ?_ | refine G_seq ?_ | refine G_region rfl ?_)
    refine G_ret (G_leave ?_)
    refine G_return Kx_ok rfl ?_
    simp [resV, endOf, List.getLast?_eq_some_getLast hne]
end Go.Proofs.YtmdbpbncdkdipaaDoor
namespace Go.Proofs.YtmdbpbncdkdipaaDoor
open Go.Asl
set_option maxRecDepth 100000

theorem Kx_mixed : Kx.P.follows .mixedOrders = true := by kernel_rfl

def isIn (xs : List Spn) (f t : Int) : Bool := decide (0 ≤ f) && decide (f < t) && decide (t ≤ endOf xs)
theorem c_timeline_isInside (xs : List Spn) (f t : Int) (hl : xs.length ≤ 4611686018427387904) : FnP Kx 62 [spL xs, .int .i64 f, .int .i64 t] (.bool (isIn xs f t)) := by
  refine FnT_of_body ent62 Tryd.func62 rfl Tryd.ntmps62 rfl (fun C0 hC0 => ?_)
  repeat (first | refine G_pure Kx_ok rfl rfl ?_ | refine G_nil ?_ | refine G_seq ?_ | refine G_region rfl ?_)
  by_cases h : 0 ≤ f
  · refine G_bool (t := 9) rfl (decide_eq_true h) ?_
    repeat (first | refine G_pure Kx_ok rfl rfl ?_ | refine G_run rfl rfl rfl ?_)
    by_cases h2 : f < t
    · refine G_bool (t := 14) rfl (decide_eq_true h2) ?_
      repeat (first | refine G_pure Kx_ok rfl rfl ?_ | refine G_run rfl rfl rfl ?_)
      refine G_callP rfl rfl rfl rfl (c_timeline_end xs hl) rfl rfl rfl ?_
      repeat (first | refine G_pure Kx_ok rfl rfl ?_ | refine G_run rfl rfl rfl ?_ | refine G_nil ?_)
      refine G_ret (G_leave ?_)
      refine G_return Kx_ok rfl ?_
      simp [resV, isIn, h, h2]
    · refine G_bool (t := 14) rfl (decide_eq_false h2) ?_
      repeat (first | refine G_pure Kx_ok rfl rfl ?_ | refine G_not rfl rfl rfl rfl ?_ | refine G_nil ?_)
      refine G_ret (G_leave ?_)
      refine G_return Kx_ok rfl ?_
      simp [resV, isIn, h, h2]
  · refine G_bool (t := 9) rfl (decide_eq_false h) ?_
    repeat (first | refine G_pure Kx_ok rfl rfl ?_ | refine G_not rfl rfl rfl rfl ?_ | refine G_nil ?_)
    refine G_ret (G_leave ?_)
    refine G_return Kx_ok rfl ?_
    simp [resV, isIn, h]

def validG : Int → Int → List Spn → Bool
  | _, _, [] => true
  | a, w, s :: r => decide (s.f = a) && decide (a < s.t) && decide (s.t ≤ 10000000) && isOwn s.o && decide (s.o ≠ w) && validG s.t s.o r
def valid (xs : List Spn) : Bool := validG 0 (-1) xs && decide (xs.length ≤ 200)

theorem c_timeline_Valid (xs : List Spn) (hl : xs.length ≤ 4611686018427387904) : FnP Kx 49 [spL xs] (.bool (valid xs)) := by
  refine FnT_of_body ent49 Tryd.func49 rfl Tryd.ntmps49 rfl (fun C0 hC0 => ?_)
  repeat (first | refine G_pure Kx_ok rfl rfl ?_ | refine G_nil ?_ | refine G_seq ?_ | refine G_region rfl ?_)
  refine G_block ?_
  refine G_loop (fun m fr L => ∃ (i : Nat) (a w : Int), i ≤ xs.length ∧ m = xs.length - i ∧ L = [] ∧ validG 0 (-1) xs = validG a w (xs.drop i) ∧
    fr = ⟨[(0, spL xs), (3, .int .i64 a), (4, .int .i64 w), (7, spL xs), (8, .int .i64 xs.length), (9, .int .i64 i)], 48, (C0.w.heap.size, 0)⟩) (m := xs.length) ?_ ?_
  · refine G_weak [] [(0, spL xs), (3, .int .i64 0), (4, .int .i64 (-1)), (7, spL xs), (8, .int .i64 xs.length), (9, .int .i64 0)] [] hC0 ⟨⟨rfl, rfl⟩, ⟨rfl, rfl⟩, ⟨rfl, rfl⟩, ⟨rfl, rfl⟩, ⟨by simp [spL]; rfl, rfl⟩, ⟨rfl, rfl⟩, trivial⟩ trivial trivial rfl ?_
    exact G_at ⟨0, 0, -1, by omega, by omega, rfl, rfl, rfl⟩
  · rintro m fr L ⟨i, a, w, hi, rfl, rfl, hv, rfl⟩
    repeat (first | refine G_pure Kx_ok rfl rfl ?_ | refine G_nil ?_ | refine G_seq ?_ | refine G_region rfl ?_)
    refine G_cond rfl (fun h => ?_) (fun h => ?_)
    · have h := of_decide_eq_true h
      refine G_skip ?_
      have hlt : i < xs.length := by omega
      obtain ⟨s, hs⟩ : ∃ s, xs[i]? = some s := ⟨xs[i], List.getElem?_eq_getElem hlt⟩
      have hdrop : xs.drop i = s :: xs.drop (i + 1) := by
        rw [List.drop_eq_getElem_cons hlt]
        rw [List.getElem?_eq_getElem hlt] at hs
        simp only [Option.some.injEq] at hs
        rw [hs]
      rw [hdrop, validG] at hv
      refine G_seq ?_
      refine G_block ?_
      refine G_seq ?_
      refine G_region rfl ?_
      refine G_index_lst Kx_ok rfl rfl rfl rfl rfl (map_get (x := s) (by simpa using hs)) (by omega) rfl rfl rfl ?_
      refine G_pure Kx_ok rfl rfl ?_
      refine G_alloc Kx_ok 1 rfl rfl rfl rfl ?_
      refine G_store Kx_ok rfl rfl rfl rfl rfl rfl rfl rfl ?_
      refine G_nil ?_
      repeat (first | refine G_pure Kx_ok rfl rfl ?_ | refine G_run rfl rfl rfl ?_ | refine G_nil ?_ | refine G_seq ?_ | refine G_region rfl ?_)
      by_cases h1 : s.f ≠ a
      · refine G_bool (t := 17) rfl (decide_eq_true h1) ?_
        repeat (first | refine G_pure Kx_ok rfl rfl ?_ | refine G_not rfl rfl rfl rfl ?_ | refine G_nil ?_ | refine G_seq ?_ | refine G_region rfl ?_)
        refine G_cond_t rfl ?_
        repeat (first | refine G_pure Kx_ok rfl rfl ?_ | refine G_not rfl rfl rfl rfl ?_ | refine G_nil ?_ | refine G_seq ?_ | refine G_region rfl ?_)
        refine G_ret (G_leave ?_)
        refine G_return Kx_ok rfl ?_
        simp [resV, valid, hv, h1]
      refine G_bool (t := 17) rfl (decide_eq_false h1) ?_
      repeat (first | refine G_pure Kx_ok rfl rfl ?_ | refine G_run rfl rfl rfl ?_ | refine G_nil ?_ | refine G_seq ?_ | refine G_region rfl ?_)
      by_cases h2 : s.t ≤ a
      · refine G_bool (t := 23) rfl (decide_eq_true h2) ?_
        repeat (first | refine G_pure Kx_ok rfl rfl ?_ | refine G_not rfl rfl rfl rfl ?_ | refine G_nil ?_ | refine G_seq ?_ | refine G_region rfl ?_)
        refine G_cond_t rfl ?_
        repeat (first | refine G_pure Kx_ok rfl rfl ?_ | refine G_not rfl rfl rfl rfl ?_ | refine G_nil ?_ | refine G_seq ?_ | refine G_region rfl ?_)
        refine G_ret (G_leave ?_)
        refine G_return Kx_ok rfl ?_
        simp [resV, valid, hv, show ¬ a < s.t by omega]
      refine G_bool (t := 23) rfl (decide_eq_false h2) ?_
      repeat (first | refine G_pure Kx_ok rfl rfl ?_ | refine G_run rfl rfl rfl ?_ | refine G_nil ?_ | refine G_seq ?_ | refine G_region rfl ?_)
      by_cases h3 : 10000000 < s.t
      · refine G_bool (t := 28) rfl (decide_eq_true h3) ?_
        repeat (first | refine G_pure Kx_ok rfl rfl ?_ | refine G_not rfl rfl rfl rfl ?_ | refine G_nil ?_ | refine G_seq ?_ | refine G_region rfl ?_)
        refine G_cond_t rfl ?_
        repeat (first | refine G_pure Kx_ok rfl rfl ?_ | refine G_not rfl rfl rfl rfl ?_ | refine G_nil ?_ | refine G_seq ?_ | refine G_region rfl ?_)
        refine G_ret (G_leave ?_)
        refine G_return Kx_ok rfl ?_
        simp [resV, valid, hv, show ¬ s.t ≤ 10000000 by omega]
      refine G_bool (t := 28) rfl (decide_eq_false h3) ?_
      repeat (first | refine G_pure Kx_ok rfl rfl ?_ | refine G_run rfl rfl rfl ?_ | refine G_nil ?_ | refine G_seq ?_ | refine G_region rfl ?_)
      refine G_callP rfl rfl rfl rfl (c_timeline_isOwner s.o) rfl rfl rfl ?_
      repeat (first | refine G_pure Kx_ok rfl rfl ?_ | refine G_run rfl rfl rfl ?_ | refine G_nil ?_ | refine G_seq ?_ | refine G_region rfl ?_)
      by_cases h4 : isOwn s.o = true
      case' neg =>
        refine G_bool (t := 34) (b := true) rfl (by simp [h4]) ?_
        repeat (first | refine G_pure Kx_ok rfl rfl ?_ | refine G_not rfl rfl rfl rfl ?_ | refine G_nil ?_ | refine G_seq ?_ | refine G_region rfl ?_)
        refine G_cond_t rfl ?_
        repeat (first | refine G_pure Kx_ok rfl rfl ?_ | refine G_not rfl rfl rfl rfl ?_ | refine G_nil ?_ | refine G_seq ?_ | refine G_region rfl ?_)
        refine G_ret (G_leave ?_)
        refine G_return Kx_ok rfl ?_
        simp [resV, valid, hv, h4]
      refine G_bool (t := 34) (b := false) rfl (by simp [h4]) ?_
      repeat (first | refine G_pure Kx_ok rfl rfl ?_ | refine G_run rfl rfl rfl ?_ | refine G_nil ?_ | refine G_seq ?_ | refine G_region rfl ?_)
      by_cases h5 : s.o = w
      · refine G_cond_t (congrArg AV.bool (decide_eq_true h5)) ?_
        repeat (first | refine G_pure Kx_ok rfl rfl ?_ | refine G_not rfl rfl rfl rfl ?_ | refine G_nil ?_ | refine G_seq ?_ | refine G_region rfl ?_)
        refine G_ret (G_leave ?_)
        refine G_return Kx_ok rfl ?_
        simp [resV, valid, hv, h5]
      refine G_cond_f (congrArg AV.bool (decide_eq_false h5)) ?_
      refine G_skip ?_
      refine G_drawn Kx_mixed rfl ?_
      repeat refine D_pure Kx_ok rfl rfl rfl rfl ?_
      refine D_nil rfl ?_
      repeat (first | refine G_pure Kx_ok rfl rfl ?_ | refine G_run rfl rfl rfl ?_ | refine G_nil ?_ | refine G_seq ?_ | refine G_region rfl ?_)
      refine G_int (t := 9) (b := ((i + 1 : Nat) : Int)) rfl (by rw [w64] <;> omega) ?_
      refine G_weak [] [(0, spL xs), (3, .int .i64 s.t), (4, .int .i64 s.o), (7, spL xs), (8, .int .i64 xs.length), (9, .int .i64 ((i + 1 : Nat) : Int))] [] hC0 ⟨⟨rfl, rfl⟩, ⟨rfl, rfl⟩, ⟨rfl, rfl⟩, ⟨rfl, rfl⟩, ⟨rfl, rfl⟩, ⟨rfl, rfl⟩, trivial⟩ trivial trivial rfl ?_
      refine G_again (m' := xs.length - (i + 1)) (by omega) (G_at ⟨i + 1, s.t, s.o, by omega, rfl, rfl, ?_, rfl⟩)
      rw [hv]
      simp only [ne_eq, Decidable.not_not, Int.not_le, Int.not_lt] at h1 h2 h3
      simp [h1, h2, h3, h4, h5]
    · have h := of_decide_eq_false h
      refine G_exit ?_
      have hii : i = xs.length := by omega
      rw [hii, List.drop_length, validG] at hv
      repeat (first | refine G_pure Kx_ok rfl rfl ?_ | refine G_run rfl rfl rfl ?_ | refine G_nil ?_ | refine G_seq ?_ | refine G_region rfl ?_)
      refine G_ret (G_leave ?_)
      refine G_return Kx_ok rfl ?_
      simp [resV, valid, hv]
      omega
end Go.Proofs.YtmdbpbncdkdipaaDoor
namespace Go.Proofs.YtmdbpbncdkdipaaDoor
open Go.Asl
set_option maxRecDepth 100000
attribute [local irreducible] Go.Asl.wpG Go.Code.wpIn Go.Asl.DrawG Go.Asl.LvX Go.Asl.G


def R64 (n : Int) : Prop := -9223372036854775808 ≤ n ∧ n ≤ 9223372036854775807
abbrev Big : Nat := 4611686018427387904
def pickI (c n : Int) : Int := (if c < 0 then -(c + 1) else c).tmod n

theorem c_ref15_pick (c n : Int) (hc : R64 c) (hn : n ≠ 0) : FnP Kx 40 [.int .i64 c, .int .i64 n] (.int .i64 (pickI c n)) := by
  refine FnT_of_body ent40 Tryd.func40 rfl Tryd.ntmps40 rfl (fun C0 hC0 => ?_)
  obtain ⟨hc1, hc2⟩ := hc
  repeat' (first | refine G_pure Kx_ok rfl rfl ?_ | refine G_run rfl rfl rfl ?_ | refine G_not rfl rfl rfl rfl ?_ | refine G_nil ?_ | refine G_seq ?_ | refine G_region rfl ?_ | refine G_skip ?_ | refine G_block ?_ | refine G_drawn Kx_mixed rfl ?_ | refine D_pure Kx_ok rfl rfl rfl rfl ?_ | refine D_not rfl rfl rfl rfl rfl ?_ | refine D_none rfl rfl rfl rfl ?_ | refine G_gnone rfl rfl rfl ?_ | refine D_nil rfl ?_ | refine G_cond_t rfl ?_ | refine G_cond_f rfl ?_ | refine G_box Kx_ok 1 rfl rfl rfl rfl rfl ?_ | refine G_alloc Kx_ok 1 rfl rfl rfl rfl ?_ | refine G_lit Kx_ok 1 rfl rfl rfl rfl rfl rfl rfl ?_ | refine G_box Kx_ok 2 rfl rfl rfl rfl rfl ?_ | refine G_alloc Kx_ok 2 rfl rfl rfl rfl ?_ | refine G_lit Kx_ok 2 rfl rfl rfl rfl rfl rfl rfl ?_ | refine G_box Kx_ok 3 rfl rfl rfl rfl rfl ?_ | refine G_alloc Kx_ok 3 rfl rfl rfl rfl ?_ | refine G_lit Kx_ok 3 rfl rfl rfl rfl rfl rfl rfl ?_ | refine G_box Kx_ok 4 rfl rfl rfl rfl rfl ?_ | refine G_alloc Kx_ok 4 rfl rfl rfl rfl ?_ | refine G_lit Kx_ok 4 rfl rfl rfl rfl rfl rfl rfl ?_ | refine G_store Kx_ok rfl rfl rfl rfl rfl rfl rfl rfl ?_ | refine G_rem rfl rfl rfl hn rfl ?_ | (refine G_split rfl (fun h => ?_) (fun h => ?_) <;> (first | refine G_run rfl rfl rfl ?_; refine G_pure Kx_ok rfl rfl ?_ | refine G_not rfl rfl rfl rfl ?_)) | (refine D_split rfl (fun h => ?_) (fun h => ?_) <;> (first | refine D_pure Kx_ok rfl rfl rfl rfl ?_ | refine D_not rfl rfl rfl rfl rfl ?_)) | refine G_cond rfl (fun h => ?_) (fun h => ?_) | refine G_ret (G_leave ?_) | refine G_return Kx_ok rfl ?_)
  · have h' := of_decide_eq_true ‹_›
    simp only [resV, pickI, if_pos h']
    rw [w64 (n := c + 1) (by omega) (by omega), w64 (by omega) (by omega)]
    congr 2; omega
  · have h' := of_decide_eq_false ‹_›
    simp only [resV, pickI, if_neg h']
theorem c_timeline_End (xs : List Spn) (hl : xs.length ≤ Big) : FnP Kx 71 [spL xs] (.int .i64 (if valid xs then endOf xs else -1)) := by
  refine FnT_of_body ent71 Tryd.func71 rfl Tryd.ntmps71 rfl (fun C0 hC0 => ?_)
  repeat' (first | refine G_pure Kx_ok rfl rfl ?_ | refine G_run rfl rfl rfl ?_ | refine G_not rfl rfl rfl rfl ?_ | refine G_nil ?_ | refine G_seq ?_ | refine G_region rfl ?_ | refine G_skip ?_ | refine G_block ?_ | refine G_drawn Kx_mixed rfl ?_ | refine D_pure Kx_ok rfl rfl rfl rfl ?_ | refine D_not rfl rfl rfl rfl rfl ?_ | refine D_none rfl rfl rfl rfl ?_ | refine G_gnone rfl rfl rfl ?_ | refine D_nil rfl ?_ | refine G_cond_t rfl ?_ | refine G_cond_f rfl ?_ | refine G_box Kx_ok 1 rfl rfl rfl rfl rfl ?_ | refine G_alloc Kx_ok 1 rfl rfl rfl rfl ?_ | refine G_lit Kx_ok 1 rfl rfl rfl rfl rfl rfl rfl ?_ | refine G_box Kx_ok 2 rfl rfl rfl rfl rfl ?_ | refine G_alloc Kx_ok 2 rfl rfl rfl rfl ?_ | refine G_lit Kx_ok 2 rfl rfl rfl rfl rfl rfl rfl ?_ | refine G_box Kx_ok 3 rfl rfl rfl rfl rfl ?_ | refine G_alloc Kx_ok 3 rfl rfl rfl rfl ?_ | refine G_lit Kx_ok 3 rfl rfl rfl rfl rfl rfl rfl ?_ | refine G_box Kx_ok 4 rfl rfl rfl rfl rfl ?_ | refine G_alloc Kx_ok 4 rfl rfl rfl rfl ?_ | refine G_lit Kx_ok 4 rfl rfl rfl rfl rfl rfl rfl ?_ | refine G_store Kx_ok rfl rfl rfl rfl rfl rfl rfl rfl ?_ | refine G_callP rfl rfl rfl rfl (c_timeline_Valid xs hl) rfl rfl rfl ?_ | refine D_call rfl rfl rfl rfl rfl (c_timeline_Valid xs hl) rfl rfl rfl rfl ?_ | refine G_callP rfl rfl rfl rfl (c_timeline_end xs hl) rfl rfl rfl ?_ | refine D_call rfl rfl rfl rfl rfl (c_timeline_end xs hl) rfl rfl rfl rfl ?_ | (refine G_split rfl (fun h => ?_) (fun h => ?_) <;> (first | refine G_run rfl rfl rfl ?_; refine G_pure Kx_ok rfl rfl ?_ | refine G_not rfl rfl rfl rfl ?_)) | (refine D_split rfl (fun h => ?_) (fun h => ?_) <;> (first | refine D_pure Kx_ok rfl rfl rfl rfl ?_ | refine D_not rfl rfl rfl rfl rfl ?_)) | refine G_cond rfl (fun h => ?_) (fun h => ?_) | refine G_ret (G_leave ?_) | refine G_return Kx_ok rfl ?_)
  all_goals simp_all [resV]
/-- A list and an error number. -/
def okR (xs : List Spn) : AV := .tup [spL xs, .int .i64 0]
def errR : AV := .tup [spL [], .int .i64 150]
def newS (e w : Int) : Option (List Spn) := if 0 ≤ e ∧ e ≤ 10000000 ∧ isOwn w = true then some (if e = 0 then [] else [⟨0, e, w⟩]) else none
def optR : Option (List Spn) → AV
  | some xs => okR xs
  | none => errR
theorem c_timeline_New (e w : Int) : FnP Kx 68 [.int .i64 e, .int .i64 w] (optR (newS e w)) := by
  refine FnT_of_body ent68 Tryd.func68 rfl Tryd.ntmps68 rfl (fun C0 hC0 => ?_)
  repeat' (first | refine G_pure Kx_ok rfl rfl ?_ | refine G_run rfl rfl rfl ?_ | refine G_not rfl rfl rfl rfl ?_ | refine G_nil ?_ | refine G_seq ?_ | refine G_region rfl ?_ | refine G_skip ?_ | refine G_block ?_ | refine G_drawn Kx_mixed rfl ?_ | refine D_pure Kx_ok rfl rfl rfl rfl ?_ | refine D_not rfl rfl rfl rfl rfl ?_ | refine D_none rfl rfl rfl rfl ?_ | refine G_gnone rfl rfl rfl ?_ | refine D_nil rfl ?_ | refine G_cond_t rfl ?_ | refine G_cond_f rfl ?_ | refine G_box Kx_ok 1 rfl rfl rfl rfl rfl ?_ | refine G_alloc Kx_ok 1 rfl rfl rfl rfl ?_ | refine G_lit Kx_ok 1 rfl rfl rfl rfl rfl rfl rfl ?_ | refine G_box Kx_ok 2 rfl rfl rfl rfl rfl ?_ | refine G_alloc Kx_ok 2 rfl rfl rfl rfl ?_ | refine G_lit Kx_ok 2 rfl rfl rfl rfl rfl rfl rfl ?_ | refine G_box Kx_ok 3 rfl rfl rfl rfl rfl ?_ | refine G_alloc Kx_ok 3 rfl rfl rfl rfl ?_ | refine G_lit Kx_ok 3 rfl rfl rfl rfl rfl rfl rfl ?_ | refine G_box Kx_ok 4 rfl rfl rfl rfl rfl ?_ | refine G_alloc Kx_ok 4 rfl rfl rfl rfl ?_ | refine G_lit Kx_ok 4 rfl rfl rfl rfl rfl rfl rfl ?_ | refine G_store Kx_ok rfl rfl rfl rfl rfl rfl rfl rfl ?_ | refine G_callP rfl rfl rfl rfl (c_timeline_isOwner w) rfl rfl rfl ?_ | refine D_call rfl rfl rfl rfl rfl (c_timeline_isOwner w) rfl rfl rfl rfl ?_ | (refine G_split rfl (fun h => ?_) (fun h => ?_) <;> (first | refine G_run rfl rfl rfl ?_; refine G_pure Kx_ok rfl rfl ?_ | refine G_not rfl rfl rfl rfl ?_)) | (refine D_split rfl (fun h => ?_) (fun h => ?_) <;> (first | refine D_pure Kx_ok rfl rfl rfl rfl ?_ | refine D_not rfl rfl rfl rfl rfl ?_)) | refine G_cond rfl (fun h => ?_) (fun h => ?_) | refine G_ret (G_leave ?_) | refine G_freeze (m := 1) 4 rfl rfl ?_ | refine G_lst_nil (t := 4) rfl ?_ | refine G_return Kx_ok rfl ?_)
  · have h1 := of_decide_eq_true ‹_›
    simp [resV, newS, optR, errR, spL, show ¬ 0 ≤ e by omega]
  · have h1 := of_decide_eq_true h
    simp [resV, newS, optR, errR, spL, show ¬ e ≤ 10000000 by omega]
  · simp_all [resV, newS, optR, errR, spL]
  · have h1 := of_decide_eq_true h
    simp_all [resV, newS, optR, okR, spL]
  · rename_i h1 h2 h3
    have h1 := of_decide_eq_false h1
    have h2 := of_decide_eq_false h2
    have h4 := of_decide_eq_false h
    simp only [Bool.not_eq_false'] at h3
    have hc : 0 ≤ e ∧ e ≤ 10000000 ∧ isOwn w = true := ⟨by omega, by omega, h3⟩
    simp [resV, newS, optR, okR, spL, spA, hc, h4]
end Go.Proofs.YtmdbpbncdkdipaaDoor
namespace Go.Proofs.YtmdbpbncdkdipaaDoor
open Go.Asl
set_option maxRecDepth 100000
attribute [local irreducible] Go.Asl.wpG Go.Code.wpIn Go.Asl.DrawG Go.Asl.LvX Go.Asl.G


/-- The reference's add. -/
def addS (xs : List Spn) (s : Spn) : List Spn :=
  if s.t ≤ s.f then xs else match xs.getLast? with
    | some l => if l.o = s.o then xs.dropLast ++ [⟨l.f, s.t, l.o⟩] else xs ++ [s]
    | none => [s]
def ownO (xs : List Spn) : AObj := .arr 74 3 (xs.map spA)
theorem last_set (xs : List Spn) (y : Spn) (h : xs ≠ []) : xs.set (xs.length - 1) y = xs.dropLast ++ [y] := by
  have h1 := List.dropLast_concat_getLast h
  have hl : xs.dropLast.length = xs.length - 1 := by simp
  conv => lhs; rw [← h1]
  rw [show (xs.dropLast ++ [xs.getLast h]).length - 1 = xs.dropLast.length by simp]
  rw [List.set_append_right _ _ (Nat.le_refl _)]
  simp
theorem map_set {f : Spn → AV} (xs : List Spn) (i : Nat) (y : Spn) : (xs.map f).set i (f y) = (xs.set i y).map f := by
  rw [List.map_set]

theorem c_ref15_add (xs : List Spn) (s : Spn) (hl : xs.length ≤ 1000000000) : FnS Kx 76 [.own 0, spA s] [(0, ownO xs)] (.own 1) [(1, ownO (addS xs s)), (0, .dead)] := by
  refine FnT_of_body ent76 Tryd.func76 rfl Tryd.ntmps76 rfl (fun C0 hC0 => ?_)
  repeat' (first | refine G_pure Kx_ok rfl rfl ?_ | refine G_run rfl rfl rfl ?_ | refine G_not rfl rfl rfl rfl ?_ | refine G_nil ?_ | refine G_seq ?_ | refine G_region rfl ?_ | refine G_skip ?_ | refine G_block ?_ | refine G_drawn Kx_mixed rfl ?_ | refine D_pure Kx_ok rfl rfl rfl rfl ?_ | refine D_not rfl rfl rfl rfl rfl ?_ | refine D_none rfl rfl rfl rfl ?_ | refine G_gnone rfl rfl rfl ?_ | refine D_nil rfl ?_ | refine G_cond_t rfl ?_ | refine G_cond_f rfl ?_ | refine G_box Kx_ok 2 rfl rfl rfl rfl rfl ?_ | refine G_alloc Kx_ok 2 rfl rfl rfl rfl ?_ | refine G_lit Kx_ok 2 rfl rfl rfl rfl rfl rfl rfl ?_ | refine G_box Kx_ok 3 rfl rfl rfl rfl rfl ?_ | refine G_alloc Kx_ok 3 rfl rfl rfl rfl ?_ | refine G_lit Kx_ok 3 rfl rfl rfl rfl rfl rfl rfl ?_ | refine G_store Kx_ok rfl rfl rfl rfl rfl rfl rfl rfl ?_ | (refine G_split rfl (fun h => ?_) (fun h => ?_) <;> (first | refine G_run rfl rfl rfl ?_; refine G_pure Kx_ok rfl rfl ?_ | refine G_not rfl rfl rfl rfl ?_)) | (refine D_split rfl (fun h => ?_) (fun h => ?_) <;> (first | refine D_pure Kx_ok rfl rfl rfl rfl ?_ | refine D_not rfl rfl rfl rfl rfl ?_)) | refine G_cond rfl (fun h => ?_) (fun h => ?_) | refine G_ret (G_leave ?_) | fail | fail)
  · have h := of_decide_eq_true h
    refine G_weak [(1, 0)] [(4, .own 1)] [(1, ownO xs), (0, .dead)] hC0 ⟨⟨rfl, rfl⟩, trivial⟩ ⟨.inr ⟨rfl, rfl⟩, .inl rfl, trivial⟩ ⟨⟨rfl, rfl⟩, trivial⟩ rfl ?_
    refine G_return Kx_ok rfl ⟨rfl, ?_⟩
    simp [addS, h]
  · rename_i h0
    have h0 := of_decide_eq_false h0
    have h := of_decide_eq_true h
    have hpos : 0 < xs.length := by simp at h; omega
    have hne : xs ≠ [] := List.length_pos_iff.1 hpos
    obtain ⟨l, hlast⟩ : ∃ l, l = xs.getLast hne := ⟨_, rfl⟩
    have hget : xs[xs.length - 1]? = some l := by rw [hlast, List.getLast_eq_getElem]; simp
    have hgl : xs.getLast? = some l := by rw [hlast]; exact List.getLast?_eq_some_getLast hne
    refine D_int (t := 18) (b := ((xs.length - 1 : Nat) : Int)) rfl (by rw [w64] <;> simp <;> omega) ?_
    refine D_index_own Kx_ok rfl rfl rfl rfl rfl rfl rfl rfl (by omega) (by simp; omega) rfl rfl ?_
    refine D_pure Kx_ok rfl rfl rfl rfl ?_
    refine D_load_elem Kx_ok rfl rfl rfl rfl rfl (map_get (x := l) (by simpa using hget)) rfl rfl rfl rfl rfl ?_
    repeat' (first | refine G_pure Kx_ok rfl rfl ?_ | refine G_run rfl rfl rfl ?_ | refine G_not rfl rfl rfl rfl ?_ | refine G_nil ?_ | refine G_seq ?_ | refine G_region rfl ?_ | refine G_skip ?_ | refine G_block ?_ | refine G_drawn Kx_mixed rfl ?_ | refine D_pure Kx_ok rfl rfl rfl rfl ?_ | refine D_not rfl rfl rfl rfl rfl ?_ | refine D_none rfl rfl rfl rfl ?_ | refine G_gnone rfl rfl rfl ?_ | refine D_nil rfl ?_ | refine G_cond_t rfl ?_ | refine G_cond_f rfl ?_ | refine G_box Kx_ok 2 rfl rfl rfl rfl rfl ?_ | refine G_alloc Kx_ok 2 rfl rfl rfl rfl ?_ | refine G_lit Kx_ok 2 rfl rfl rfl rfl rfl rfl rfl ?_ | refine G_box Kx_ok 3 rfl rfl rfl rfl rfl ?_ | refine G_alloc Kx_ok 3 rfl rfl rfl rfl ?_ | refine G_lit Kx_ok 3 rfl rfl rfl rfl rfl rfl rfl ?_ | refine G_store Kx_ok rfl rfl rfl rfl rfl rfl rfl rfl ?_ | (refine G_split rfl (fun h => ?_) (fun h => ?_) <;> (first | refine G_run rfl rfl rfl ?_; refine G_pure Kx_ok rfl rfl ?_ | refine G_not rfl rfl rfl rfl ?_)) | (refine D_split rfl (fun h => ?_) (fun h => ?_) <;> (first | refine D_pure Kx_ok rfl rfl rfl rfl ?_ | refine D_not rfl rfl rfl rfl rfl ?_)) | refine G_cond rfl (fun h => ?_) (fun h => ?_) | refine G_ret (G_leave ?_) | fail | fail)
    · have h2 := of_decide_eq_true ‹decide (l.o = s.o) = true›
      refine G_int (t := 29) (b := ((xs.length - 1 : Nat) : Int)) rfl (by rw [w64] <;> simp <;> omega) ?_
      repeat' (first | refine G_pure Kx_ok rfl rfl ?_ | refine G_run rfl rfl rfl ?_ | refine G_not rfl rfl rfl rfl ?_ | refine G_nil ?_ | refine G_seq ?_ | refine G_region rfl ?_ | refine G_skip ?_ | refine G_block ?_ | refine G_drawn Kx_mixed rfl ?_ | refine D_pure Kx_ok rfl rfl rfl rfl ?_ | refine D_not rfl rfl rfl rfl rfl ?_ | refine D_none rfl rfl rfl rfl ?_ | refine G_gnone rfl rfl rfl ?_ | refine D_nil rfl ?_ | refine G_cond_t rfl ?_ | refine G_cond_f rfl ?_ | refine G_box Kx_ok 2 rfl rfl rfl rfl rfl ?_ | refine G_alloc Kx_ok 2 rfl rfl rfl rfl ?_ | refine G_lit Kx_ok 2 rfl rfl rfl rfl rfl rfl rfl ?_ | refine G_box Kx_ok 3 rfl rfl rfl rfl rfl ?_ | refine G_alloc Kx_ok 3 rfl rfl rfl rfl ?_ | refine G_lit Kx_ok 3 rfl rfl rfl rfl rfl rfl rfl ?_ | refine G_store Kx_ok rfl rfl rfl rfl rfl rfl rfl rfl ?_ | (refine G_split rfl (fun h => ?_) (fun h => ?_) <;> (first | refine G_run rfl rfl rfl ?_; refine G_pure Kx_ok rfl rfl ?_ | refine G_not rfl rfl rfl rfl ?_)) | (refine D_split rfl (fun h => ?_) (fun h => ?_) <;> (first | refine D_pure Kx_ok rfl rfl rfl rfl ?_ | refine D_not rfl rfl rfl rfl rfl ?_)) | refine G_cond rfl (fun h => ?_) (fun h => ?_) | refine G_ret (G_leave ?_) | fail | fail)
      refine G_index_own Kx_ok rfl rfl rfl rfl rfl rfl rfl (by omega) (by simp; omega) rfl ?_
      repeat' (first | refine G_pure Kx_ok rfl rfl ?_ | refine G_run rfl rfl rfl ?_ | refine G_not rfl rfl rfl rfl ?_ | refine G_nil ?_ | refine G_seq ?_ | refine G_region rfl ?_ | refine G_skip ?_ | refine G_block ?_ | refine G_drawn Kx_mixed rfl ?_ | refine D_pure Kx_ok rfl rfl rfl rfl ?_ | refine D_not rfl rfl rfl rfl rfl ?_ | refine D_none rfl rfl rfl rfl ?_ | refine G_gnone rfl rfl rfl ?_ | refine D_nil rfl ?_ | refine G_cond_t rfl ?_ | refine G_cond_f rfl ?_ | refine G_box Kx_ok 2 rfl rfl rfl rfl rfl ?_ | refine G_alloc Kx_ok 2 rfl rfl rfl rfl ?_ | refine G_lit Kx_ok 2 rfl rfl rfl rfl rfl rfl rfl ?_ | refine G_box Kx_ok 3 rfl rfl rfl rfl rfl ?_ | refine G_alloc Kx_ok 3 rfl rfl rfl rfl ?_ | refine G_lit Kx_ok 3 rfl rfl rfl rfl rfl rfl rfl ?_ | refine G_store Kx_ok rfl rfl rfl rfl rfl rfl rfl rfl ?_ | (refine G_split rfl (fun h => ?_) (fun h => ?_) <;> (first | refine G_run rfl rfl rfl ?_; refine G_pure Kx_ok rfl rfl ?_ | refine G_not rfl rfl rfl rfl ?_)) | (refine D_split rfl (fun h => ?_) (fun h => ?_) <;> (first | refine D_pure Kx_ok rfl rfl rfl rfl ?_ | refine D_not rfl rfl rfl rfl rfl ?_)) | refine G_cond rfl (fun h => ?_) (fun h => ?_) | refine G_ret (G_leave ?_) | fail | fail)
      refine G_store_elem Kx_ok rfl rfl rfl rfl (map_get (x := l) (by simpa using hget)) rfl rfl rfl rfl rfl rfl ?_
      repeat' (first | refine G_pure Kx_ok rfl rfl ?_ | refine G_run rfl rfl rfl ?_ | refine G_not rfl rfl rfl rfl ?_ | refine G_nil ?_ | refine G_seq ?_ | refine G_region rfl ?_ | refine G_skip ?_ | refine G_block ?_ | refine G_drawn Kx_mixed rfl ?_ | refine D_pure Kx_ok rfl rfl rfl rfl ?_ | refine D_not rfl rfl rfl rfl rfl ?_ | refine D_none rfl rfl rfl rfl ?_ | refine G_gnone rfl rfl rfl ?_ | refine D_nil rfl ?_ | refine G_cond_t rfl ?_ | refine G_cond_f rfl ?_ | refine G_box Kx_ok 2 rfl rfl rfl rfl rfl ?_ | refine G_alloc Kx_ok 2 rfl rfl rfl rfl ?_ | refine G_lit Kx_ok 2 rfl rfl rfl rfl rfl rfl rfl ?_ | refine G_box Kx_ok 3 rfl rfl rfl rfl rfl ?_ | refine G_alloc Kx_ok 3 rfl rfl rfl rfl ?_ | refine G_lit Kx_ok 3 rfl rfl rfl rfl rfl rfl rfl ?_ | refine G_store Kx_ok rfl rfl rfl rfl rfl rfl rfl rfl ?_ | (refine G_split rfl (fun h => ?_) (fun h => ?_) <;> (first | refine G_run rfl rfl rfl ?_; refine G_pure Kx_ok rfl rfl ?_ | refine G_not rfl rfl rfl rfl ?_)) | (refine D_split rfl (fun h => ?_) (fun h => ?_) <;> (first | refine D_pure Kx_ok rfl rfl rfl rfl ?_ | refine D_not rfl rfl rfl rfl rfl ?_)) | refine G_cond rfl (fun h => ?_) (fun h => ?_) | refine G_ret (G_leave ?_) | fail | fail)
      refine G_arr (t := 0) (ys' := (addS xs s).map spA) rfl ?_ ?_
      · have e1 : addS xs s = xs.set (xs.length - 1) ⟨l.f, s.t, l.o⟩ := by rw [last_set _ _ hne]; simp [addS, h0, hgl, h2]
        rw [e1, ← map_set]; simp [spA, putAt]
      refine G_weak [(1, 0)] [(4, .own 1)] [(1, ownO (addS xs s)), (0, .dead)] hC0 ⟨⟨rfl, rfl⟩, trivial⟩ ⟨.inr ⟨rfl, rfl⟩, .inl rfl, trivial⟩ ⟨⟨rfl, rfl⟩, trivial⟩ rfl ?_
      exact G_return Kx_ok rfl ⟨rfl, rfl⟩
    · have h2 := of_decide_eq_false ‹decide (l.o = s.o) = false›
      refine G_append Kx_ok 1 rfl rfl rfl rfl rfl rfl rfl rfl rfl rfl (fun zs e => by cases e) rfl (by simp; omega) rfl rfl ?_
      repeat' (first | refine G_pure Kx_ok rfl rfl ?_ | refine G_run rfl rfl rfl ?_ | refine G_not rfl rfl rfl rfl ?_ | refine G_nil ?_ | refine G_seq ?_ | refine G_region rfl ?_ | refine G_skip ?_ | refine G_block ?_ | refine G_drawn Kx_mixed rfl ?_ | refine D_pure Kx_ok rfl rfl rfl rfl ?_ | refine D_not rfl rfl rfl rfl rfl ?_ | refine D_none rfl rfl rfl rfl ?_ | refine G_gnone rfl rfl rfl ?_ | refine D_nil rfl ?_ | refine G_cond_t rfl ?_ | refine G_cond_f rfl ?_ | refine G_box Kx_ok 2 rfl rfl rfl rfl rfl ?_ | refine G_alloc Kx_ok 2 rfl rfl rfl rfl ?_ | refine G_lit Kx_ok 2 rfl rfl rfl rfl rfl rfl rfl ?_ | refine G_box Kx_ok 3 rfl rfl rfl rfl rfl ?_ | refine G_alloc Kx_ok 3 rfl rfl rfl rfl ?_ | refine G_lit Kx_ok 3 rfl rfl rfl rfl rfl rfl rfl ?_ | refine G_store Kx_ok rfl rfl rfl rfl rfl rfl rfl rfl ?_ | (refine G_split rfl (fun h => ?_) (fun h => ?_) <;> (first | refine G_run rfl rfl rfl ?_; refine G_pure Kx_ok rfl rfl ?_ | refine G_not rfl rfl rfl rfl ?_)) | (refine D_split rfl (fun h => ?_) (fun h => ?_) <;> (first | refine D_pure Kx_ok rfl rfl rfl rfl ?_ | refine D_not rfl rfl rfl rfl rfl ?_)) | refine G_cond rfl (fun h => ?_) (fun h => ?_) | refine G_ret (G_leave ?_) | fail | fail)
      refine G_arr (t := 1) (ys' := (addS xs s).map spA) rfl ?_ ?_
      · have e1 : addS xs s = xs ++ [s] := by simp [addS, h0, hgl, h2]
        rw [e1, List.map_append]; rfl
      refine G_weak [] [(4, .own 1)] [(1, ownO (addS xs s)), (0, .dead)] hC0 ⟨⟨rfl, rfl⟩, trivial⟩ ⟨.inr ⟨rfl, rfl⟩, .inl rfl, trivial⟩ ⟨⟨rfl, rfl⟩, trivial⟩ rfl ?_
      exact G_return Kx_ok rfl ⟨rfl, rfl⟩
  · rename_i h0
    have h0 := of_decide_eq_false h0
    have h := of_decide_eq_false h
    have hnil : xs = [] := by
      cases xs with
      | nil => rfl
      | cons x r => simp at h
    refine G_append Kx_ok 1 rfl rfl rfl rfl rfl rfl rfl rfl rfl rfl (fun zs e => by cases e) rfl (by simp; omega) rfl rfl ?_
    repeat' (first | refine G_pure Kx_ok rfl rfl ?_ | refine G_run rfl rfl rfl ?_ | refine G_not rfl rfl rfl rfl ?_ | refine G_nil ?_ | refine G_seq ?_ | refine G_region rfl ?_ | refine G_skip ?_ | refine G_block ?_ | refine G_drawn Kx_mixed rfl ?_ | refine D_pure Kx_ok rfl rfl rfl rfl ?_ | refine D_not rfl rfl rfl rfl rfl ?_ | refine D_none rfl rfl rfl rfl ?_ | refine G_gnone rfl rfl rfl ?_ | refine D_nil rfl ?_ | refine G_cond_t rfl ?_ | refine G_cond_f rfl ?_ | refine G_box Kx_ok 2 rfl rfl rfl rfl rfl ?_ | refine G_alloc Kx_ok 2 rfl rfl rfl rfl ?_ | refine G_lit Kx_ok 2 rfl rfl rfl rfl rfl rfl rfl ?_ | refine G_box Kx_ok 3 rfl rfl rfl rfl rfl ?_ | refine G_alloc Kx_ok 3 rfl rfl rfl rfl ?_ | refine G_lit Kx_ok 3 rfl rfl rfl rfl rfl rfl rfl ?_ | refine G_store Kx_ok rfl rfl rfl rfl rfl rfl rfl rfl ?_ | (refine G_split rfl (fun h => ?_) (fun h => ?_) <;> (first | refine G_run rfl rfl rfl ?_; refine G_pure Kx_ok rfl rfl ?_ | refine G_not rfl rfl rfl rfl ?_)) | (refine D_split rfl (fun h => ?_) (fun h => ?_) <;> (first | refine D_pure Kx_ok rfl rfl rfl rfl ?_ | refine D_not rfl rfl rfl rfl rfl ?_)) | refine G_cond rfl (fun h => ?_) (fun h => ?_) | refine G_ret (G_leave ?_) | fail | fail)
    refine G_arr (t := 1) (ys' := (addS xs s).map spA) rfl ?_ ?_
    · subst hnil
      simp [addS, h0, spA]
    refine G_weak [] [(4, .own 1)] [(1, ownO (addS xs s)), (0, .dead)] hC0 ⟨⟨rfl, rfl⟩, trivial⟩ ⟨.inr ⟨rfl, rfl⟩, .inl rfl, trivial⟩ ⟨⟨rfl, rfl⟩, trivial⟩ rfl ?_
    exact G_return Kx_ok rfl ⟨rfl, rfl⟩
end Go.Proofs.YtmdbpbncdkdipaaDoor
namespace Go.Proofs.YtmdbpbncdkdipaaDoor
open Go.Asl
set_option maxRecDepth 100000
attribute [local irreducible] Go.Asl.wpG Go.Code.wpIn Go.Asl.DrawG Go.Asl.LvX Go.Asl.G


def cut (a b : Int) (s : Spn) : Spn := ⟨if a < s.f then s.f else a, if s.t < b then s.t else b, s.o⟩
def partS (xs ys : List Spn) (a b : Int) : List Spn := ys.foldl (fun acc s => addS acc (cut a b s)) xs
theorem addS_len (xs : List Spn) (s : Spn) : (addS xs s).length ≤ xs.length + 1 := by
  unfold addS
  split
  · omega
  · split
    · split
      · simp
      · simp
    · simp
theorem partS_len (ys : List Spn) (a b : Int) : ∀ xs : List Spn, (partS xs ys a b).length ≤ xs.length + ys.length := by
  induction ys with
  | nil => intro xs; simp [partS]
  | cons s ys ih =>
    intro xs
    have h1 := ih (addS xs (cut a b s))
    have h2 := addS_len xs (cut a b s)
    have : partS xs (s :: ys) a b = partS (addS xs (cut a b s)) ys a b := rfl
    rw [this]; simp; omega

theorem c_ref15_part (xs ys : List Spn) (a b : Int) (hl : xs.length + ys.length ≤ 1000000000) : FnS Kx 75 [.own 0, spL ys, .int .i64 a, .int .i64 b] [(0, ownO xs)] (.own 1) [(1, ownO (partS xs ys a b)), (0, .dead)] := by
  refine FnT_of_body ent75 Tryd.func75 rfl Tryd.ntmps75 rfl (fun C0 hC0 => ?_)
  repeat' (first | refine G_pure Kx_ok rfl rfl ?_ | refine G_run rfl rfl rfl ?_ | refine G_not rfl rfl rfl rfl ?_ | refine G_nil ?_ | refine G_seq ?_ | refine G_region rfl ?_ | refine G_skip ?_ | refine G_block ?_ | refine G_drawn Kx_mixed rfl ?_ | refine D_pure Kx_ok rfl rfl rfl rfl ?_ | refine D_not rfl rfl rfl rfl rfl ?_ | refine D_none rfl rfl rfl rfl ?_ | refine G_gnone rfl rfl rfl ?_ | refine D_nil rfl ?_ | refine G_cond_t rfl ?_ | refine G_cond_f rfl ?_ | refine G_box Kx_ok 5 rfl rfl rfl rfl rfl ?_ | refine G_alloc Kx_ok 5 rfl rfl rfl rfl ?_ | refine G_lit Kx_ok 5 rfl rfl rfl rfl rfl rfl rfl ?_ | refine G_box Kx_ok 6 rfl rfl rfl rfl rfl ?_ | refine G_alloc Kx_ok 6 rfl rfl rfl rfl ?_ | refine G_lit Kx_ok 6 rfl rfl rfl rfl rfl rfl rfl ?_ | refine G_store Kx_ok rfl rfl rfl rfl rfl rfl rfl rfl ?_ | (refine G_split rfl (fun h => ?_) (fun h => ?_) <;> (first | refine G_run rfl rfl rfl ?_; refine G_pure Kx_ok rfl rfl ?_ | refine G_not rfl rfl rfl rfl ?_)) | (refine D_split rfl (fun h => ?_) (fun h => ?_) <;> (first | refine D_pure Kx_ok rfl rfl rfl rfl ?_ | refine D_not rfl rfl rfl rfl rfl ?_)) | refine G_cond rfl (fun h => ?_) (fun h => ?_) | refine G_ret (G_leave ?_) | fail | fail)
  refine G_loop (fun m fr L => ∃ (i : Nat) (acc : List Spn), i ≤ ys.length ∧ m = ys.length - i ∧ L = [(1, ownO acc), (0, .dead)] ∧ acc = partS xs (ys.take i) a b ∧
    fr = ⟨[(0, .own 1), (1, spL ys), (2, .int .i64 a), (3, .int .i64 b), (9, .int .i64 i)], 39, (C0.w.heap.size, 0)⟩) (m := ys.length) ?_ ?_
  · refine G_weak [(1, 0)] [(0, .own 1), (1, spL ys), (2, .int .i64 a), (3, .int .i64 b), (9, .int .i64 0)] [(1, ownO xs), (0, .dead)] hC0 ⟨⟨rfl, rfl⟩, ⟨rfl, rfl⟩, ⟨rfl, rfl⟩, ⟨rfl, rfl⟩, ⟨rfl, rfl⟩, trivial⟩ ⟨.inr ⟨rfl, rfl⟩, .inl rfl, trivial⟩ ⟨⟨rfl, rfl⟩, trivial⟩ rfl ?_
    exact G_at ⟨0, xs, by omega, by omega, rfl, rfl, rfl⟩
  · rintro m fr L ⟨i, acc, hi, rfl, rfl, hacc, rfl⟩
    have hal : acc.length ≤ xs.length + i := by
      have := partS_len (ys.take i) a b xs
      rw [← hacc] at this
      simp at this; omega
    repeat' (first | refine G_pure Kx_ok rfl rfl ?_ | refine G_run rfl rfl rfl ?_ | refine G_not rfl rfl rfl rfl ?_ | refine G_nil ?_ | refine G_seq ?_ | refine G_region rfl ?_ | refine G_skip ?_ | refine G_block ?_ | refine G_drawn Kx_mixed rfl ?_ | refine D_pure Kx_ok rfl rfl rfl rfl ?_ | refine D_not rfl rfl rfl rfl rfl ?_ | refine D_none rfl rfl rfl rfl ?_ | refine G_gnone rfl rfl rfl ?_ | refine D_nil rfl ?_ | refine G_cond_t rfl ?_ | refine G_cond_f rfl ?_ | refine G_box Kx_ok 5 rfl rfl rfl rfl rfl ?_ | refine G_alloc Kx_ok 5 rfl rfl rfl rfl ?_ | refine G_lit Kx_ok 5 rfl rfl rfl rfl rfl rfl rfl ?_ | refine G_box Kx_ok 6 rfl rfl rfl rfl rfl ?_ | refine G_alloc Kx_ok 6 rfl rfl rfl rfl ?_ | refine G_lit Kx_ok 6 rfl rfl rfl rfl rfl rfl rfl ?_ | refine G_store Kx_ok rfl rfl rfl rfl rfl rfl rfl rfl ?_ | (refine G_split rfl (fun h => ?_) (fun h => ?_) <;> (first | refine G_run rfl rfl rfl ?_; refine G_pure Kx_ok rfl rfl ?_ | refine G_not rfl rfl rfl rfl ?_)) | (refine D_split rfl (fun h => ?_) (fun h => ?_) <;> (first | refine D_pure Kx_ok rfl rfl rfl rfl ?_ | refine D_not rfl rfl rfl rfl rfl ?_)) | refine G_cond rfl (fun h => ?_) (fun h => ?_) | refine G_ret (G_leave ?_) | fail | fail)
    · have h := of_decide_eq_true ‹_›
      simp only [List.length_map] at h
      have hlt : i < ys.length := by omega
      obtain ⟨s, hs⟩ : ∃ s, ys[i]? = some s := ⟨ys[i], List.getElem?_eq_getElem hlt⟩
      have htake : ys.take (i + 1) = ys.take i ++ [s] := by rw [List.take_add_one, hs]; rfl
      repeat' (first | refine G_pure Kx_ok rfl rfl ?_ | refine G_run rfl rfl rfl ?_ | refine G_not rfl rfl rfl rfl ?_ | refine G_nil ?_ | refine G_seq ?_ | refine G_region rfl ?_ | refine G_skip ?_ | refine G_block ?_ | refine G_drawn Kx_mixed rfl ?_ | refine D_pure Kx_ok rfl rfl rfl rfl ?_ | refine D_not rfl rfl rfl rfl rfl ?_ | refine D_none rfl rfl rfl rfl ?_ | refine G_gnone rfl rfl rfl ?_  | refine G_cond_t rfl ?_ | refine G_cond_f rfl ?_ | refine G_box Kx_ok 5 rfl rfl rfl rfl rfl ?_ | refine G_alloc Kx_ok 5 rfl rfl rfl rfl ?_ | refine G_lit Kx_ok 5 rfl rfl rfl rfl rfl rfl rfl ?_ | refine G_box Kx_ok 6 rfl rfl rfl rfl rfl ?_ | refine G_alloc Kx_ok 6 rfl rfl rfl rfl ?_ | refine G_lit Kx_ok 6 rfl rfl rfl rfl rfl rfl rfl ?_ | refine G_store Kx_ok rfl rfl rfl rfl rfl rfl rfl rfl ?_ | (refine D_index_lst Kx_ok _ rfl rfl rfl rfl rfl rfl (map_get (x := s) (by simpa using hs)) (by omega) rfl rfl rfl rfl ?_) | (refine G_split rfl (fun h => ?_) (fun h => ?_) <;> (first | refine G_run rfl rfl rfl ?_; refine G_pure Kx_ok rfl rfl ?_ | refine G_not rfl rfl rfl rfl ?_)) | (fail; refine D_split rfl (fun h => ?_) (fun h => ?_) <;> (first | refine D_pure Kx_ok rfl rfl rfl rfl ?_ | refine D_not rfl rfl rfl rfl rfl ?_)) | refine G_cond rfl (fun h => ?_) (fun h => ?_) | refine G_ret (G_leave ?_) | fail | fail)
      refine D_callS [(0, 1), (1, 2)] (c_ref15_add acc (cut a b s) (by omega)) rfl rfl rfl rfl rfl rfl ⟨⟨rfl, rfl, rfl⟩, trivial⟩ rfl ⟨.inr rfl, .inl rfl, trivial⟩ rfl rfl rfl rfl ?_
      repeat' (first | refine G_pure Kx_ok rfl rfl ?_ | refine G_run rfl rfl rfl ?_ | refine G_not rfl rfl rfl rfl ?_ | refine G_nil ?_ | refine G_seq ?_ | refine G_region rfl ?_ | refine G_skip ?_ | refine G_block ?_ | refine G_drawn Kx_mixed rfl ?_ | refine D_pure Kx_ok rfl rfl rfl rfl ?_ | refine D_not rfl rfl rfl rfl rfl ?_ | refine D_none rfl rfl rfl rfl ?_ | refine G_gnone rfl rfl rfl ?_ | refine D_nil rfl ?_ | refine G_cond_t rfl ?_ | refine G_cond_f rfl ?_ | refine G_box Kx_ok 5 rfl rfl rfl rfl rfl ?_ | refine G_alloc Kx_ok 5 rfl rfl rfl rfl ?_ | refine G_lit Kx_ok 5 rfl rfl rfl rfl rfl rfl rfl ?_ | refine G_box Kx_ok 6 rfl rfl rfl rfl rfl ?_ | refine G_alloc Kx_ok 6 rfl rfl rfl rfl ?_ | refine G_lit Kx_ok 6 rfl rfl rfl rfl rfl rfl rfl ?_ | refine G_store Kx_ok rfl rfl rfl rfl rfl rfl rfl rfl ?_ | (refine G_split rfl (fun h => ?_) (fun h => ?_) <;> (first | refine G_run rfl rfl rfl ?_; refine G_pure Kx_ok rfl rfl ?_ | refine G_not rfl rfl rfl rfl ?_)) | (refine D_split rfl (fun h => ?_) (fun h => ?_) <;> (first | refine D_pure Kx_ok rfl rfl rfl rfl ?_ | refine D_not rfl rfl rfl rfl rfl ?_)) | refine G_cond rfl (fun h => ?_) (fun h => ?_) | refine G_ret (G_leave ?_) | fail | fail)
      refine G_int (t := 9) (b := ((i + 1 : Nat) : Int)) rfl (by rw [w64] <;> omega) ?_
      refine G_weak [(1, 2)] [(0, .own 1), (1, spL ys), (2, .int .i64 a), (3, .int .i64 b), (9, .int .i64 ((i + 1 : Nat) : Int))] [(1, ownO (addS acc (cut a b s))), (0, .dead)] hC0 ⟨⟨rfl, rfl⟩, ⟨rfl, rfl⟩, ⟨rfl, rfl⟩, ⟨rfl, rfl⟩, ⟨rfl, rfl⟩, trivial⟩ ⟨.inr ⟨rfl, rfl⟩, .inl rfl, trivial⟩ ⟨⟨rfl, rfl⟩, trivial⟩ rfl ?_
      refine G_again (m' := ys.length - (i + 1)) (by omega) (G_at ⟨i + 1, addS acc (cut a b s), by omega, rfl, rfl, ?_, rfl⟩)
      rw [htake, hacc]
      simp [partS]
    · have h := of_decide_eq_false ‹_›
      simp only [List.length_map] at h
      have hii : i = ys.length := by omega
      rw [hii, List.take_length] at hacc
      subst hacc
      refine G_exit ?_
      repeat' (first | refine G_pure Kx_ok rfl rfl ?_ | refine G_run rfl rfl rfl ?_ | refine G_not rfl rfl rfl rfl ?_ | refine G_nil ?_ | refine G_seq ?_ | refine G_region rfl ?_ | refine G_skip ?_ | refine G_block ?_ | refine G_drawn Kx_mixed rfl ?_ | refine D_pure Kx_ok rfl rfl rfl rfl ?_ | refine D_not rfl rfl rfl rfl rfl ?_ | refine D_none rfl rfl rfl rfl ?_ | refine G_gnone rfl rfl rfl ?_ | refine D_nil rfl ?_ | refine G_cond_t rfl ?_ | refine G_cond_f rfl ?_ | refine G_box Kx_ok 5 rfl rfl rfl rfl rfl ?_ | refine G_alloc Kx_ok 5 rfl rfl rfl rfl ?_ | refine G_lit Kx_ok 5 rfl rfl rfl rfl rfl rfl rfl ?_ | refine G_box Kx_ok 6 rfl rfl rfl rfl rfl ?_ | refine G_alloc Kx_ok 6 rfl rfl rfl rfl ?_ | refine G_lit Kx_ok 6 rfl rfl rfl rfl rfl rfl rfl ?_ | refine G_store Kx_ok rfl rfl rfl rfl rfl rfl rfl rfl ?_ | (refine G_split rfl (fun h => ?_) (fun h => ?_) <;> (first | refine G_run rfl rfl rfl ?_; refine G_pure Kx_ok rfl rfl ?_ | refine G_not rfl rfl rfl rfl ?_)) | (refine D_split rfl (fun h => ?_) (fun h => ?_) <;> (first | refine D_pure Kx_ok rfl rfl rfl rfl ?_ | refine D_not rfl rfl rfl rfl rfl ?_)) | refine G_cond rfl (fun h => ?_) (fun h => ?_) | refine G_ret (G_leave ?_) | fail | fail)
      refine G_weak [] [(8, .own 1)] [(1, ownO (partS xs ys a b)), (0, .dead)] hC0 ⟨⟨rfl, rfl⟩, trivial⟩ ⟨.inr ⟨rfl, rfl⟩, .inl rfl, trivial⟩ ⟨⟨rfl, rfl⟩, trivial⟩ rfl ?_
      exact G_return Kx_ok rfl ⟨rfl, rfl⟩
end Go.Proofs.YtmdbpbncdkdipaaDoor
namespace Go.Proofs.YtmdbpbncdkdipaaDoor
open Go.Asl
set_option maxRecDepth 100000
attribute [local irreducible] Go.Asl.wpG Go.Code.wpIn Go.Asl.DrawG Go.Asl.LvX Go.Asl.G


theorem c_ref15_addn (s : Spn) : FnS Kx 76 [.nils, spA s] [] (.own 1) [(1, ownO (addS [] s)), (0, .dead)] := FnT.own_nil (pre := []) 0 74 3 (c_ref15_add [] s (by simp)) rfl
theorem c_ref15_partn (ys : List Spn) (a b : Int) (hl : ys.length ≤ 1000000000) : FnS Kx 75 [.nils, spL ys, .int .i64 a, .int .i64 b] [] (.own 1) [(1, ownO (partS [] ys a b)), (0, .dead)] := FnT.own_nil (pre := []) 0 74 3 (c_ref15_part [] ys a b (by simpa using hl)) rfl

theorem c_ref15_end (xs : List Spn) (hl : xs.length ≤ 4611686018427387904) : FnP Kx 44 [spL xs] (.int .i64 (endOf xs)) := by
  refine FnT_of_body ent44 Tryd.func44 rfl Tryd.ntmps44 rfl (fun C0 hC0 => ?_)
  repeat' (first | refine G_pure Kx_ok rfl rfl ?_ | refine G_run rfl rfl rfl ?_ | refine G_not rfl rfl rfl rfl ?_ | refine G_nil ?_ | refine G_seq ?_ | refine G_region rfl ?_ | refine G_skip ?_ | refine G_block ?_ | refine G_drawn Kx_mixed rfl ?_ | refine D_pure Kx_ok rfl rfl rfl rfl ?_ | refine D_not rfl rfl rfl rfl rfl ?_ | refine D_none rfl rfl rfl rfl ?_ | refine G_gnone rfl rfl rfl ?_ | refine D_nil rfl ?_ | refine G_cond_t rfl ?_ | refine G_cond_f rfl ?_ | refine G_box Kx_ok 1 rfl rfl rfl rfl rfl ?_ | refine G_alloc Kx_ok 1 rfl rfl rfl rfl ?_ | refine G_lit Kx_ok 1 rfl rfl rfl rfl rfl rfl rfl ?_ | refine G_box Kx_ok 2 rfl rfl rfl rfl rfl ?_ | refine G_alloc Kx_ok 2 rfl rfl rfl rfl ?_ | refine G_lit Kx_ok 2 rfl rfl rfl rfl rfl rfl rfl ?_ | refine G_box Kx_ok 3 rfl rfl rfl rfl rfl ?_ | refine G_alloc Kx_ok 3 rfl rfl rfl rfl ?_ | refine G_lit Kx_ok 3 rfl rfl rfl rfl rfl rfl rfl ?_ | refine G_box Kx_ok 4 rfl rfl rfl rfl rfl ?_ | refine G_alloc Kx_ok 4 rfl rfl rfl rfl ?_ | refine G_lit Kx_ok 4 rfl rfl rfl rfl rfl rfl rfl ?_ | refine G_store Kx_ok rfl rfl rfl rfl rfl rfl rfl rfl ?_ | (refine G_split rfl (fun h => ?_) (fun h => ?_) <;> (first | refine G_run rfl rfl rfl ?_; refine G_pure Kx_ok rfl rfl ?_ | refine G_not rfl rfl rfl rfl ?_)) | (refine D_split rfl (fun h => ?_) (fun h => ?_) <;> (first | refine D_pure Kx_ok rfl rfl rfl rfl ?_ | refine D_not rfl rfl rfl rfl rfl ?_)) | refine G_cond rfl (fun h => ?_) (fun h => ?_) | refine G_ret (G_leave ?_) | refine G_return Kx_ok rfl ?_)
  · have h := of_decide_eq_true ‹_›
    have : xs = [] := by
      cases xs with
      | nil => rfl
      | cons x r => simp at h; omega
    subst this
    simp [resV, endOf]
  · have h := of_decide_eq_false ‹_›
    have hne : xs ≠ [] := fun e => h (by rw [e]; rfl)
    have hpos := List.length_pos_iff.2 hne
    refine G_int (t := 9) (b := ((xs.length - 1 : Nat) : Int)) rfl (by rw [w64] <;> simp <;> omega) ?_
    refine G_index_lst Kx_ok rfl rfl rfl rfl rfl (map_get (x := xs.getLast hne) (by rw [List.getLast_eq_getElem]; simp)) (by omega) rfl rfl rfl ?_
    repeat' (first | refine G_pure Kx_ok rfl rfl ?_ | refine G_run rfl rfl rfl ?_ | refine G_not rfl rfl rfl rfl ?_ | refine G_nil ?_ | refine G_seq ?_ | refine G_region rfl ?_ | refine G_skip ?_ | refine G_block ?_ | refine G_drawn Kx_mixed rfl ?_ | refine D_pure Kx_ok rfl rfl rfl rfl ?_ | refine D_not rfl rfl rfl rfl rfl ?_ | refine D_none rfl rfl rfl rfl ?_ | refine G_gnone rfl rfl rfl ?_ | refine D_nil rfl ?_ | refine G_cond_t rfl ?_ | refine G_cond_f rfl ?_ | refine G_box Kx_ok 1 rfl rfl rfl rfl rfl ?_ | refine G_alloc Kx_ok 1 rfl rfl rfl rfl ?_ | refine G_lit Kx_ok 1 rfl rfl rfl rfl rfl rfl rfl ?_ | refine G_box Kx_ok 2 rfl rfl rfl rfl rfl ?_ | refine G_alloc Kx_ok 2 rfl rfl rfl rfl ?_ | refine G_lit Kx_ok 2 rfl rfl rfl rfl rfl rfl rfl ?_ | refine G_box Kx_ok 3 rfl rfl rfl rfl rfl ?_ | refine G_alloc Kx_ok 3 rfl rfl rfl rfl ?_ | refine G_lit Kx_ok 3 rfl rfl rfl rfl rfl rfl rfl ?_ | refine G_box Kx_ok 4 rfl rfl rfl rfl rfl ?_ | refine G_alloc Kx_ok 4 rfl rfl rfl rfl ?_ | refine G_lit Kx_ok 4 rfl rfl rfl rfl rfl rfl rfl ?_ | refine G_store Kx_ok rfl rfl rfl rfl rfl rfl rfl rfl ?_ | (refine G_split rfl (fun h => ?_) (fun h => ?_) <;> (first | refine G_run rfl rfl rfl ?_; refine G_pure Kx_ok rfl rfl ?_ | refine G_not rfl rfl rfl rfl ?_)) | (refine D_split rfl (fun h => ?_) (fun h => ?_) <;> (first | refine D_pure Kx_ok rfl rfl rfl rfl ?_ | refine D_not rfl rfl rfl rfl rfl ?_)) | refine G_cond rfl (fun h => ?_) (fun h => ?_) | refine G_ret (G_leave ?_) | refine G_return Kx_ok rfl ?_)
    simp [resV, endOf, List.getLast?_eq_some_getLast hne]
def newR (e w : Int) : Option (List Spn) := if 0 ≤ e ∧ e ≤ 10000000 ∧ isOwn w = true then some (addS [] ⟨0, e, w⟩) else none
theorem c_ref15_New (e w : Int) : FnP Kx 69 [.int .i64 e, .int .i64 w] (optR (newR e w)) := by
  refine FnT_of_body ent69 Tryd.func69 rfl Tryd.ntmps69 rfl (fun C0 hC0 => ?_)
  repeat' (first | refine G_pure Kx_ok rfl rfl ?_ | refine G_run rfl rfl rfl ?_ | refine G_not rfl rfl rfl rfl ?_ | refine G_nil ?_ | refine G_seq ?_ | refine G_region rfl ?_ | refine G_skip ?_ | refine G_block ?_ | refine G_drawn Kx_mixed rfl ?_ | refine D_pure Kx_ok rfl rfl rfl rfl ?_ | refine D_not rfl rfl rfl rfl rfl ?_ | refine D_none rfl rfl rfl rfl ?_ | refine G_gnone rfl rfl rfl ?_ | refine D_nil rfl ?_ | refine G_cond_t rfl ?_ | refine G_cond_f rfl ?_ | refine G_box Kx_ok 1 rfl rfl rfl rfl rfl ?_ | refine G_alloc Kx_ok 1 rfl rfl rfl rfl ?_ | refine G_lit Kx_ok 1 rfl rfl rfl rfl rfl rfl rfl ?_ | refine G_box Kx_ok 2 rfl rfl rfl rfl rfl ?_ | refine G_alloc Kx_ok 2 rfl rfl rfl rfl ?_ | refine G_lit Kx_ok 2 rfl rfl rfl rfl rfl rfl rfl ?_ | refine G_box Kx_ok 3 rfl rfl rfl rfl rfl ?_ | refine G_alloc Kx_ok 3 rfl rfl rfl rfl ?_ | refine G_lit Kx_ok 3 rfl rfl rfl rfl rfl rfl rfl ?_ | refine G_box Kx_ok 4 rfl rfl rfl rfl rfl ?_ | refine G_alloc Kx_ok 4 rfl rfl rfl rfl ?_ | refine G_lit Kx_ok 4 rfl rfl rfl rfl rfl rfl rfl ?_ | refine G_store Kx_ok rfl rfl rfl rfl rfl rfl rfl rfl ?_ | refine G_callS [(0, 7), (1, 8)] (c_ref15_addn ⟨0, e, w⟩) rfl rfl rfl rfl rfl trivial rfl ⟨.inr rfl, .inr rfl, trivial⟩ rfl rfl rfl ?_ | (refine G_split rfl (fun h => ?_) (fun h => ?_) <;> (first | refine G_run rfl rfl rfl ?_; refine G_pure Kx_ok rfl rfl ?_ | refine G_not rfl rfl rfl rfl ?_)) | (refine D_split rfl (fun h => ?_) (fun h => ?_) <;> (first | refine D_pure Kx_ok rfl rfl rfl rfl ?_ | refine D_not rfl rfl rfl rfl rfl ?_)) | refine G_cond rfl (fun h => ?_) (fun h => ?_) | refine G_ret (G_leave ?_) | refine G_freeze (m := 8) 4 rfl rfl ?_ | refine G_lst_nil (t := 4) rfl ?_ | refine G_return Kx_ok rfl ?_)
  all_goals simp only [decide_eq_true_eq, decide_eq_false_iff_not] at *
  all_goals simp only [resV, newR, optR, okR, errR, spL, isOwn, Bool.and_eq_true, decide_eq_true_eq]
  all_goals first | (rw [if_neg (by omega)]; rfl) | (rw [if_pos (by omega)])
end Go.Proofs.YtmdbpbncdkdipaaDoor
namespace Go.Proofs.YtmdbpbncdkdipaaDoor
open Go.Asl
set_option maxRecDepth 100000
attribute [local irreducible] Go.Asl.wpG Go.Code.wpIn Go.Asl.DrawG Go.Asl.LvX Go.Asl.G


/-- The reference's test, from an index on. -/
def rvalidG : Int → Option Int → List Spn → Bool
  | _, _, [] => true
  | a, w, s :: r => decide (s.f = a) && decide (a < s.t) && decide (s.t ≤ 10000000) && decide (0 ≤ s.o) && decide (s.o ≤ 2999) && decide (some s.o ≠ w) && rvalidG s.t (some s.o) r
def rvalid (xs : List Spn) : Bool := decide (xs.length ≤ 200) && rvalidG 0 none xs

set_option maxHeartbeats 4000000 in
theorem c_ref15_Valid (xs : List Spn) (hl : xs.length ≤ 4611686018427387904) : FnP Kx 50 [spL xs] (.bool (rvalid xs)) := by
  refine FnT_of_body ent50 Tryd.func50 rfl Tryd.ntmps50 rfl (fun C0 hC0 => ?_)
  repeat' (first | refine G_pure Kx_ok rfl rfl ?_ | refine G_run rfl rfl rfl ?_ | refine G_not rfl rfl rfl rfl ?_ | refine G_nil ?_ | refine G_seq ?_ | refine G_region rfl ?_ | refine G_skip ?_ | refine G_block ?_ | refine G_drawn Kx_mixed rfl ?_ | refine D_pure Kx_ok rfl rfl rfl rfl ?_ | refine D_not rfl rfl rfl rfl rfl ?_ | refine D_none rfl rfl rfl rfl ?_ | refine G_gnone rfl rfl rfl ?_ | refine D_nil rfl ?_ | refine G_cond_t rfl ?_ | refine G_cond_f rfl ?_ | refine G_box Kx_ok 1 rfl rfl rfl rfl rfl ?_ | refine G_alloc Kx_ok 1 rfl rfl rfl rfl ?_ | refine G_lit Kx_ok 1 rfl rfl rfl rfl rfl rfl rfl ?_ | refine G_box Kx_ok 2 rfl rfl rfl rfl rfl ?_ | refine G_alloc Kx_ok 2 rfl rfl rfl rfl ?_ | refine G_lit Kx_ok 2 rfl rfl rfl rfl rfl rfl rfl ?_ | refine G_box Kx_ok 3 rfl rfl rfl rfl rfl ?_ | refine G_alloc Kx_ok 3 rfl rfl rfl rfl ?_ | refine G_lit Kx_ok 3 rfl rfl rfl rfl rfl rfl rfl ?_ | refine G_box Kx_ok 4 rfl rfl rfl rfl rfl ?_ | refine G_alloc Kx_ok 4 rfl rfl rfl rfl ?_ | refine G_lit Kx_ok 4 rfl rfl rfl rfl rfl rfl rfl ?_ | refine G_store Kx_ok rfl rfl rfl rfl rfl rfl rfl rfl ?_ | (refine G_split rfl (fun h => ?_) (fun h => ?_) <;> (first | refine G_run rfl rfl rfl ?_; refine G_pure Kx_ok rfl rfl ?_ | refine G_not rfl rfl rfl rfl ?_)) | (refine D_split rfl (fun h => ?_) (fun h => ?_) <;> (first | refine D_pure Kx_ok rfl rfl rfl rfl ?_ | refine D_not rfl rfl rfl rfl rfl ?_)) | refine G_cond rfl (fun h => ?_) (fun h => ?_) | refine G_ret (G_leave ?_) | refine G_return Kx_ok rfl ?_)
  · have h := of_decide_eq_true ‹_›
    simp only [List.length_map] at h
    simp only [resV, rvalid, decide_eq_false (show ¬ xs.length ≤ 200 by omega), Bool.false_and]
  have hlen := of_decide_eq_false h
  clear h
  simp only [List.length_map] at hlen
  refine G_loop (fun m fr L => ∃ (i : Nat) (a : Int), i ≤ xs.length ∧ m = xs.length - i ∧ L = [] ∧ rvalidG 0 none xs = rvalidG a (if i = 0 then none else (xs[i - 1]?).map (·.o)) (xs.drop i) ∧
    fr = ⟨[(0, spL xs), (3, .int .i64 a), (4, .int .i64 i)], 77, (C0.w.heap.size, 0)⟩) (m := xs.length) ?_ ?_
  · refine G_weak [] [(0, spL xs), (3, .int .i64 0), (4, .int .i64 0)] [] hC0 ⟨⟨rfl, rfl⟩, ⟨rfl, rfl⟩, ⟨rfl, rfl⟩, trivial⟩ trivial trivial rfl ?_
    exact G_at ⟨0, 0, by omega, by omega, rfl, rfl, rfl⟩
  · rintro m fr L ⟨i, a, hi, rfl, rfl, hv, rfl⟩
    repeat' (first | refine G_pure Kx_ok rfl rfl ?_ | refine G_run rfl rfl rfl ?_ | refine G_not rfl rfl rfl rfl ?_ | refine G_nil ?_ | refine G_seq ?_ | refine G_region rfl ?_ | refine G_skip ?_ | refine G_block ?_ | refine G_drawn Kx_mixed rfl ?_ | refine D_pure Kx_ok rfl rfl rfl rfl ?_ | refine D_not rfl rfl rfl rfl rfl ?_ | refine D_none rfl rfl rfl rfl ?_ | refine G_gnone rfl rfl rfl ?_ | refine D_nil rfl ?_ | refine G_cond_t rfl ?_ | refine G_cond_f rfl ?_ | refine G_box Kx_ok 5 rfl rfl rfl rfl rfl ?_ | refine G_alloc Kx_ok 5 rfl rfl rfl rfl ?_ | refine G_lit Kx_ok 5 rfl rfl rfl rfl rfl rfl rfl ?_ | refine G_box Kx_ok 6 rfl rfl rfl rfl rfl ?_ | refine G_alloc Kx_ok 6 rfl rfl rfl rfl ?_ | refine G_lit Kx_ok 6 rfl rfl rfl rfl rfl rfl rfl ?_ | refine G_store Kx_ok rfl rfl rfl rfl rfl rfl rfl rfl ?_ | (refine D_index_lst Kx_ok _ rfl rfl rfl rfl rfl rfl (map_get (x := s) (by simpa using hs)) (by omega) rfl rfl rfl rfl ?_) | (refine G_index_lst Kx_ok rfl rfl rfl rfl rfl (map_get (x := s) (by simpa using hs)) (by omega) rfl rfl rfl ?_) | (refine G_split rfl (fun h => ?_) (fun h => ?_) <;> (first | refine G_run rfl rfl rfl ?_; refine G_pure Kx_ok rfl rfl ?_ | refine G_not rfl rfl rfl rfl ?_)) | (refine D_split rfl (fun h => ?_) (fun h => ?_) <;> (first | refine D_pure Kx_ok rfl rfl rfl rfl ?_ | refine D_not rfl rfl rfl rfl rfl ?_)) | refine G_cond rfl (fun h => ?_) (fun h => ?_) | refine G_ret (G_leave ?_) | fail | fail)
    · have h := of_decide_eq_true ‹_›
      simp only [List.length_map] at h
      have hlt : i < xs.length := by omega
      obtain ⟨s, hs⟩ : ∃ s, xs[i]? = some s := ⟨xs[i], List.getElem?_eq_getElem hlt⟩
      have hdrop : xs.drop i = s :: xs.drop (i + 1) := by
        rw [List.drop_eq_getElem_cons hlt]
        rw [List.getElem?_eq_getElem hlt] at hs
        simp only [Option.some.injEq] at hs
        rw [hs]
      rw [hdrop, rvalidG] at hv
      repeat' (first | refine G_pure Kx_ok rfl rfl ?_ | refine G_run rfl rfl rfl ?_ | refine G_not rfl rfl rfl rfl ?_ | refine G_nil ?_ | refine G_seq ?_ | refine G_region rfl ?_ | refine G_skip ?_ | refine G_block ?_ | refine G_drawn Kx_mixed rfl ?_ | refine D_pure Kx_ok rfl rfl rfl rfl ?_ | refine D_not rfl rfl rfl rfl rfl ?_ | refine D_none rfl rfl rfl rfl ?_ | refine G_gnone rfl rfl rfl ?_ | refine D_nil rfl ?_ | refine G_cond_t rfl ?_ | refine G_cond_f rfl ?_ | refine G_box Kx_ok 5 rfl rfl rfl rfl rfl ?_ | refine G_alloc Kx_ok 5 rfl rfl rfl rfl ?_ | refine G_lit Kx_ok 5 rfl rfl rfl rfl rfl rfl rfl ?_ | refine G_box Kx_ok 6 rfl rfl rfl rfl rfl ?_ | refine G_alloc Kx_ok 6 rfl rfl rfl rfl ?_ | refine G_lit Kx_ok 6 rfl rfl rfl rfl rfl rfl rfl ?_ | refine G_store Kx_ok rfl rfl rfl rfl rfl rfl rfl rfl ?_ | (refine D_index_lst Kx_ok _ rfl rfl rfl rfl rfl rfl (map_get (x := s) (by simpa using hs)) (by omega) rfl rfl rfl rfl ?_) | (refine G_index_lst Kx_ok rfl rfl rfl rfl rfl (map_get (x := s) (by simpa using hs)) (by omega) rfl rfl rfl ?_) | (refine G_split rfl (fun h => ?_) (fun h => ?_) <;> (first | refine G_run rfl rfl rfl ?_; refine G_pure Kx_ok rfl rfl ?_ | refine G_not rfl rfl rfl rfl ?_)) | (refine D_split rfl (fun h => ?_) (fun h => ?_) <;> (first | refine D_pure Kx_ok rfl rfl rfl rfl ?_ | refine D_not rfl rfl rfl rfl rfl ?_)) | refine G_cond rfl (fun h => ?_) (fun h => ?_) | refine G_ret (G_leave ?_) | fail | fail)
      · have h1 := of_decide_eq_true ‹decide (s.f ≠ a) = true›
        refine G_return Kx_ok rfl ?_
        simp [resV, rvalid, hv, h1]
      · have h1 := of_decide_eq_true ‹decide (s.t ≤ a) = true›
        refine G_return Kx_ok rfl ?_
        simp [resV, rvalid, hv, show ¬ a < s.t by omega]
      · have h1 := of_decide_eq_true ‹decide (10000000 < s.t) = true›
        refine G_return Kx_ok rfl ?_
        simp [resV, rvalid, hv, show ¬ s.t ≤ 10000000 by omega]
      · have h1 := of_decide_eq_true ‹decide (s.o < 0) = true›
        refine G_return Kx_ok rfl ?_
        simp [resV, rvalid, hv, show ¬ 0 ≤ s.o by omega]
      · have h1 := of_decide_eq_true ‹decide (2999 < s.o) = true›
        refine G_return Kx_ok rfl ?_
        simp [resV, rvalid, hv, show ¬ s.o ≤ 2999 by omega]
      · have hi0 := of_decide_eq_true ‹decide (0 < (i : Int)) = true›
        obtain ⟨p, hp⟩ : ∃ p, xs[i - 1]? = some p := ⟨xs[i - 1], List.getElem?_eq_getElem (by omega)⟩
        refine D_int (t := 65) (b := ((i - 1 : Nat) : Int)) rfl (by rw [w64] <;> omega) ?_
        refine D_index_lst Kx_ok _ rfl rfl rfl rfl rfl rfl (map_get (x := p) (by simpa using hp)) (by omega) rfl rfl rfl rfl ?_
        repeat' (first | refine G_pure Kx_ok rfl rfl ?_ | refine G_run rfl rfl rfl ?_ | refine G_not rfl rfl rfl rfl ?_ | refine G_nil ?_ | refine G_seq ?_ | refine G_region rfl ?_ | refine G_skip ?_ | refine G_block ?_ | refine G_drawn Kx_mixed rfl ?_ | refine D_pure Kx_ok rfl rfl rfl rfl ?_ | refine D_not rfl rfl rfl rfl rfl ?_ | refine D_none rfl rfl rfl rfl ?_ | refine G_gnone rfl rfl rfl ?_ | refine D_nil rfl ?_ | refine G_cond_t rfl ?_ | refine G_cond_f rfl ?_ | refine G_box Kx_ok 5 rfl rfl rfl rfl rfl ?_ | refine G_alloc Kx_ok 5 rfl rfl rfl rfl ?_ | refine G_lit Kx_ok 5 rfl rfl rfl rfl rfl rfl rfl ?_ | refine G_box Kx_ok 6 rfl rfl rfl rfl rfl ?_ | refine G_alloc Kx_ok 6 rfl rfl rfl rfl ?_ | refine G_lit Kx_ok 6 rfl rfl rfl rfl rfl rfl rfl ?_ | refine G_store Kx_ok rfl rfl rfl rfl rfl rfl rfl rfl ?_ | (refine D_index_lst Kx_ok _ rfl rfl rfl rfl rfl rfl (map_get (x := s) (by simpa using hs)) (by omega) rfl rfl rfl rfl ?_) | (refine G_index_lst Kx_ok rfl rfl rfl rfl rfl (map_get (x := s) (by simpa using hs)) (by omega) rfl rfl rfl ?_) | (refine G_split rfl (fun h => ?_) (fun h => ?_) <;> (first | refine G_run rfl rfl rfl ?_; refine G_pure Kx_ok rfl rfl ?_ | refine G_not rfl rfl rfl rfl ?_)) | (refine D_split rfl (fun h => ?_) (fun h => ?_) <;> (first | refine D_pure Kx_ok rfl rfl rfl rfl ?_ | refine D_not rfl rfl rfl rfl rfl ?_)) | refine G_cond rfl (fun h => ?_) (fun h => ?_) | refine G_ret (G_leave ?_) | fail | fail)
        · have h1 := of_decide_eq_true ‹decide (s.o = p.o) = true›
          refine G_return Kx_ok rfl ?_
          simp [resV, rvalid, hv, hp, show ¬ i = 0 by omega, h1]
        · have h1 := of_decide_eq_false ‹decide (s.o = p.o) = false›
          refine G_int (t := 4) (b := ((i + 1 : Nat) : Int)) rfl (by rw [w64] <;> omega) ?_
          refine G_weak [] [(0, spL xs), (3, .int .i64 s.t), (4, .int .i64 ((i + 1 : Nat) : Int))] [] hC0 ⟨⟨rfl, rfl⟩, ⟨rfl, rfl⟩, ⟨rfl, rfl⟩, trivial⟩ trivial trivial rfl ?_
          refine G_again (m' := xs.length - (i + 1)) (by omega) (G_at ⟨i + 1, s.t, by omega, rfl, rfl, ?_, rfl⟩)
          have f1 := of_decide_eq_false ‹decide (s.f ≠ a) = false›
          have f2 := of_decide_eq_false ‹decide (s.t ≤ a) = false›
          have f3 := of_decide_eq_false ‹decide (10000000 < s.t) = false›
          have f4 := of_decide_eq_false ‹decide (s.o < 0) = false›
          have f5 := of_decide_eq_false ‹decide (2999 < s.o) = false›
          simp only [ne_eq, Decidable.not_not] at f1
          rw [hv]
          simp [hp, hs, show ¬ i = 0 by omega, h1, f1, show a < s.t by omega, show s.t ≤ 10000000 by omega, show 0 ≤ s.o by omega, show s.o ≤ 2999 by omega]
      · have hi0 := of_decide_eq_false ‹decide (0 < (i : Int)) = false›
        have hi1 : i = 0 := by omega
        subst hi1
        refine G_int (t := 4) (b := ((0 + 1 : Nat) : Int)) rfl (by rw [w64] <;> omega) ?_
        refine G_weak [] [(0, spL xs), (3, .int .i64 s.t), (4, .int .i64 ((0 + 1 : Nat) : Int))] [] hC0 ⟨⟨rfl, rfl⟩, ⟨rfl, rfl⟩, ⟨rfl, rfl⟩, trivial⟩ trivial trivial rfl ?_
        refine G_again (m' := xs.length - (0 + 1)) (by omega) (G_at ⟨0 + 1, s.t, by omega, rfl, rfl, ?_, rfl⟩)
        have f1 := of_decide_eq_false ‹decide (s.f ≠ a) = false›
        have f2 := of_decide_eq_false ‹decide (s.t ≤ a) = false›
        have f3 := of_decide_eq_false ‹decide (10000000 < s.t) = false›
        have f4 := of_decide_eq_false ‹decide (s.o < 0) = false›
        have f5 := of_decide_eq_false ‹decide (2999 < s.o) = false›
        simp only [ne_eq, Decidable.not_not] at f1
        rw [hv]
        simp [hs, f1, show a < s.t by omega, show s.t ≤ 10000000 by omega, show 0 ≤ s.o by omega, show s.o ≤ 2999 by omega]
    · have h := of_decide_eq_false ‹_›
      simp only [List.length_map] at h
      have hii : i = xs.length := by omega
      subst hii
      rw [List.drop_length, rvalidG] at hv
      refine G_exit ?_
      repeat' (first | refine G_pure Kx_ok rfl rfl ?_ | refine G_run rfl rfl rfl ?_ | refine G_not rfl rfl rfl rfl ?_ | refine G_nil ?_ | refine G_seq ?_ | refine G_region rfl ?_ | refine G_skip ?_ | refine G_block ?_ | refine G_drawn Kx_mixed rfl ?_ | refine D_pure Kx_ok rfl rfl rfl rfl ?_ | refine D_not rfl rfl rfl rfl rfl ?_ | refine D_none rfl rfl rfl rfl ?_ | refine G_gnone rfl rfl rfl ?_ | refine D_nil rfl ?_ | refine G_cond_t rfl ?_ | refine G_cond_f rfl ?_ | refine G_box Kx_ok 5 rfl rfl rfl rfl rfl ?_ | refine G_alloc Kx_ok 5 rfl rfl rfl rfl ?_ | refine G_lit Kx_ok 5 rfl rfl rfl rfl rfl rfl rfl ?_ | refine G_box Kx_ok 6 rfl rfl rfl rfl rfl ?_ | refine G_alloc Kx_ok 6 rfl rfl rfl rfl ?_ | refine G_lit Kx_ok 6 rfl rfl rfl rfl rfl rfl rfl ?_ | refine G_store Kx_ok rfl rfl rfl rfl rfl rfl rfl rfl ?_ | (refine G_split rfl (fun h => ?_) (fun h => ?_) <;> (first | refine G_run rfl rfl rfl ?_; refine G_pure Kx_ok rfl rfl ?_ | refine G_not rfl rfl rfl rfl ?_)) | (refine D_split rfl (fun h => ?_) (fun h => ?_) <;> (first | refine D_pure Kx_ok rfl rfl rfl rfl ?_ | refine D_not rfl rfl rfl rfl rfl ?_)) | refine G_cond rfl (fun h => ?_) (fun h => ?_) | refine G_ret (G_leave ?_) | refine G_return Kx_ok rfl ?_)
      simp [resV, rvalid, hv]
      omega
end Go.Proofs.YtmdbpbncdkdipaaDoor
namespace Go.Proofs.YtmdbpbncdkdipaaDoor
open Go.Asl
set_option maxRecDepth 100000
attribute [local irreducible] Go.Asl.wpG Go.Code.wpIn Go.Asl.DrawG Go.Asl.LvX Go.Asl.G

theorem c_ref15_End (xs : List Spn) (hl : xs.length ≤ 4611686018427387904) : FnP Kx 31 [spL xs] (.int .i64 (if rvalid xs then endOf xs else -1)) := by
  refine FnT_of_body ent31 Tryd.func31 rfl Tryd.ntmps31 rfl (fun C0 hC0 => ?_)
  repeat' (first | refine G_pure Kx_ok rfl rfl ?_ | refine G_run rfl rfl rfl ?_ | refine G_not rfl rfl rfl rfl ?_ | refine G_nil ?_ | refine G_seq ?_ | refine G_region rfl ?_ | refine G_skip ?_ | refine G_block ?_ | refine G_drawn Kx_mixed rfl ?_ | refine D_pure Kx_ok rfl rfl rfl rfl ?_ | refine D_not rfl rfl rfl rfl rfl ?_ | refine D_none rfl rfl rfl rfl ?_ | refine G_gnone rfl rfl rfl ?_ | refine D_nil rfl ?_ | refine G_cond_t rfl ?_ | refine G_cond_f rfl ?_ | refine G_box Kx_ok 1 rfl rfl rfl rfl rfl ?_ | refine G_alloc Kx_ok 1 rfl rfl rfl rfl ?_ | refine G_lit Kx_ok 1 rfl rfl rfl rfl rfl rfl rfl ?_ | refine G_box Kx_ok 2 rfl rfl rfl rfl rfl ?_ | refine G_alloc Kx_ok 2 rfl rfl rfl rfl ?_ | refine G_lit Kx_ok 2 rfl rfl rfl rfl rfl rfl rfl ?_ | refine G_box Kx_ok 3 rfl rfl rfl rfl rfl ?_ | refine G_alloc Kx_ok 3 rfl rfl rfl rfl ?_ | refine G_lit Kx_ok 3 rfl rfl rfl rfl rfl rfl rfl ?_ | refine G_box Kx_ok 4 rfl rfl rfl rfl rfl ?_ | refine G_alloc Kx_ok 4 rfl rfl rfl rfl ?_ | refine G_lit Kx_ok 4 rfl rfl rfl rfl rfl rfl rfl ?_ | refine G_store Kx_ok rfl rfl rfl rfl rfl rfl rfl rfl ?_ | refine G_callP rfl rfl rfl rfl (c_ref15_Valid xs hl) rfl rfl rfl ?_ | refine D_call rfl rfl rfl rfl rfl (c_ref15_Valid xs hl) rfl rfl rfl rfl ?_ | refine G_callP rfl rfl rfl rfl (c_ref15_end xs hl) rfl rfl rfl ?_ | refine D_call rfl rfl rfl rfl rfl (c_ref15_end xs hl) rfl rfl rfl rfl ?_ | (refine G_split rfl (fun h => ?_) (fun h => ?_) <;> (first | refine G_run rfl rfl rfl ?_; refine G_pure Kx_ok rfl rfl ?_ | refine G_not rfl rfl rfl rfl ?_)) | (refine D_split rfl (fun h => ?_) (fun h => ?_) <;> (first | refine D_pure Kx_ok rfl rfl rfl rfl ?_ | refine D_not rfl rfl rfl rfl rfl ?_)) | refine G_cond rfl (fun h => ?_) (fun h => ?_) | refine G_ret (G_leave ?_) | refine G_return Kx_ok rfl ?_)
  all_goals simp_all [resV]
theorem spA_size (xs : List Spn) : ∀ y ∈ xs.map spA, ∃ cs, y.cells = some cs ∧ cs.length = 3 := by
  intro y hy
  obtain ⟨s, _, rfl⟩ := List.mem_map.1 hy
  exact ⟨_, rfl, rfl⟩
end Go.Proofs.YtmdbpbncdkdipaaDoor
namespace Go.Proofs.YtmdbpbncdkdipaaDoor
open Go.Asl
set_option maxRecDepth 100000
attribute [local irreducible] Go.Asl.wpG Go.Code.wpIn Go.Asl.DrawG Go.Asl.LvX Go.Asl.G

theorem eq25 : eqPlain Kx.P 74 = true := by kernel_rfl
set_option maxHeartbeats 4000000 in
theorem c_ref15_Same (xs ys : List Spn) (hl : xs.length ≤ 4611686018427387904) (hl2 : ys.length ≤ 4611686018427387904) : FnP Kx 30 [spL xs, spL ys] (.bool (decide (xs = ys))) := by
  refine FnT_of_body ent30 Tryd.func30 rfl Tryd.ntmps30 rfl (fun C0 hC0 => ?_)
  repeat' (first | refine G_pure Kx_ok rfl rfl ?_ | refine G_run rfl rfl rfl ?_ | refine G_not rfl rfl rfl rfl ?_ | refine G_nil ?_ | refine G_seq ?_ | refine G_region rfl ?_ | refine G_skip ?_ | refine G_block ?_ | refine G_drawn Kx_mixed rfl ?_ | refine D_pure Kx_ok rfl rfl rfl rfl ?_ | refine D_not rfl rfl rfl rfl rfl ?_ | refine D_none rfl rfl rfl rfl ?_ | refine G_gnone rfl rfl rfl ?_ | refine D_nil rfl ?_ | refine G_cond_t rfl ?_ | refine G_cond_f rfl ?_ | refine G_box Kx_ok 5 rfl rfl rfl rfl rfl ?_ | refine G_alloc Kx_ok 5 rfl rfl rfl rfl ?_ | refine G_lit Kx_ok 5 rfl rfl rfl rfl rfl rfl rfl ?_ | refine G_box Kx_ok 6 rfl rfl rfl rfl rfl ?_ | refine G_alloc Kx_ok 6 rfl rfl rfl rfl ?_ | refine G_lit Kx_ok 6 rfl rfl rfl rfl rfl rfl rfl ?_ | refine G_store Kx_ok rfl rfl rfl rfl rfl rfl rfl rfl ?_ | (refine G_split rfl (fun h => ?_) (fun h => ?_) <;> (first | refine G_run rfl rfl rfl ?_; refine G_pure Kx_ok rfl rfl ?_ | refine G_not rfl rfl rfl rfl ?_)) | (refine D_split rfl (fun h => ?_) (fun h => ?_) <;> (first | refine D_pure Kx_ok rfl rfl rfl rfl ?_ | refine D_not rfl rfl rfl rfl rfl ?_)) | refine G_cond rfl (fun h => ?_) (fun h => ?_) | refine G_ret (G_leave ?_) | fail | fail)
  · have h := of_decide_eq_true ‹_›
    refine G_return Kx_ok rfl ?_
    have : xs ≠ ys := fun e => h (by rw [e])
    simp [resV, this]
  have hlen := of_decide_eq_false h
  simp only [List.length_map, ne_eq, Decidable.not_not, Int.natCast_inj] at hlen
  clear h
  refine G_loop (fun m fr L => ∃ (i : Nat), i ≤ xs.length ∧ m = xs.length - i ∧ L = [] ∧ xs.take i = ys.take i ∧
    fr = ⟨[(0, spL xs), (1, spL ys), (5, .int .i64 i)], 26, (C0.w.heap.size, 0)⟩) (m := xs.length) ?_ ?_
  · refine G_weak [] [(0, spL xs), (1, spL ys), (5, .int .i64 0)] [] hC0 ⟨⟨rfl, rfl⟩, ⟨rfl, rfl⟩, ⟨rfl, rfl⟩, trivial⟩ trivial trivial rfl ?_
    exact G_at ⟨0, by omega, by omega, rfl, rfl, rfl⟩
  · rintro m fr L ⟨i, hi, rfl, rfl, hv, rfl⟩
    repeat' (first | refine G_pure Kx_ok rfl rfl ?_ | refine G_run rfl rfl rfl ?_ | refine G_not rfl rfl rfl rfl ?_ | refine G_nil ?_ | refine G_seq ?_ | refine G_region rfl ?_ | refine G_skip ?_ | refine G_block ?_ | refine G_drawn Kx_mixed rfl ?_ | refine D_pure Kx_ok rfl rfl rfl rfl ?_ | refine D_not rfl rfl rfl rfl rfl ?_ | refine D_none rfl rfl rfl rfl ?_ | refine G_gnone rfl rfl rfl ?_ | refine D_nil rfl ?_ | refine G_cond_t rfl ?_ | refine G_cond_f rfl ?_ | refine G_box Kx_ok 5 rfl rfl rfl rfl rfl ?_ | refine G_alloc Kx_ok 5 rfl rfl rfl rfl ?_ | refine G_lit Kx_ok 5 rfl rfl rfl rfl rfl rfl rfl ?_ | refine G_box Kx_ok 6 rfl rfl rfl rfl rfl ?_ | refine G_alloc Kx_ok 6 rfl rfl rfl rfl ?_ | refine G_lit Kx_ok 6 rfl rfl rfl rfl rfl rfl rfl ?_ | refine G_store Kx_ok rfl rfl rfl rfl rfl rfl rfl rfl ?_ | (refine G_split rfl (fun h => ?_) (fun h => ?_) <;> (first | refine G_run rfl rfl rfl ?_; refine G_pure Kx_ok rfl rfl ?_ | refine G_not rfl rfl rfl rfl ?_)) | (refine D_split rfl (fun h => ?_) (fun h => ?_) <;> (first | refine D_pure Kx_ok rfl rfl rfl rfl ?_ | refine D_not rfl rfl rfl rfl rfl ?_)) | refine G_cond rfl (fun h => ?_) (fun h => ?_) | refine G_ret (G_leave ?_) | fail | fail)
    · have h := of_decide_eq_true ‹_›
      simp only [List.length_map] at h
      obtain ⟨s, hs⟩ : ∃ s, xs[i]? = some s := ⟨xs[i], List.getElem?_eq_getElem (by omega)⟩
      obtain ⟨s', hs'⟩ : ∃ s, ys[i]? = some s := ⟨ys[i], List.getElem?_eq_getElem (by omega)⟩
      repeat' (first | refine G_pure Kx_ok rfl rfl ?_ | refine G_run rfl rfl rfl ?_ | refine G_not rfl rfl rfl rfl ?_ | refine G_nil ?_ | refine G_seq ?_ | refine G_region rfl ?_ | refine G_skip ?_ | refine G_block ?_ | refine G_drawn Kx_mixed rfl ?_ | refine D_pure Kx_ok rfl rfl rfl rfl ?_ | refine D_not rfl rfl rfl rfl rfl ?_ | refine D_none rfl rfl rfl rfl ?_ | refine G_gnone rfl rfl rfl ?_ | refine D_nil rfl ?_ | refine G_cond_t rfl ?_ | refine G_cond_f rfl ?_ | refine G_box Kx_ok 5 rfl rfl rfl rfl rfl ?_ | refine G_alloc Kx_ok 5 rfl rfl rfl rfl ?_ | refine G_lit Kx_ok 5 rfl rfl rfl rfl rfl rfl rfl ?_ | refine G_box Kx_ok 6 rfl rfl rfl rfl rfl ?_ | refine G_alloc Kx_ok 6 rfl rfl rfl rfl ?_ | refine G_lit Kx_ok 6 rfl rfl rfl rfl rfl rfl rfl ?_ | refine G_store Kx_ok rfl rfl rfl rfl rfl rfl rfl rfl ?_ | (refine D_index_lst Kx_ok _ rfl rfl rfl rfl rfl rfl (map_get (x := s) (by simpa using hs)) (by omega) rfl rfl rfl rfl ?_) | (refine D_index_lst Kx_ok _ rfl rfl rfl rfl rfl rfl (map_get (x := s') (by simpa using hs')) (by omega) rfl rfl rfl rfl ?_) | (refine D_eqS Kx_ok true rfl rfl rfl rfl rfl rfl rfl eq25 rfl rfl ?_) | (refine G_split rfl (fun h => ?_) (fun h => ?_) <;> (first | refine G_run rfl rfl rfl ?_; refine G_pure Kx_ok rfl rfl ?_ | refine G_not rfl rfl rfl rfl ?_)) | (refine D_split rfl (fun h => ?_) (fun h => ?_) <;> (first | refine D_pure Kx_ok rfl rfl rfl rfl ?_ | refine D_not rfl rfl rfl rfl rfl ?_)) | refine G_cond rfl (fun h => ?_) (fun h => ?_) | refine G_ret (G_leave ?_) | fail | fail)
      · refine G_return Kx_ok rfl ?_
        have hne : xs ≠ ys := by
          rintro rfl
          rw [hs] at hs'
          simp only [Option.some.injEq] at hs'
          subst hs'
          simp at h
        simp [resV, hne]
      · have hss : s = s' := by
          cases s; cases s'
          simp at h
          simp [h]
        subst hss
        refine G_int (t := 5) (b := ((i + 1 : Nat) : Int)) rfl (by rw [w64] <;> omega) ?_
        refine G_weak [] [(0, spL xs), (1, spL ys), (5, .int .i64 ((i + 1 : Nat) : Int))] [] hC0 ⟨⟨rfl, rfl⟩, ⟨rfl, rfl⟩, ⟨rfl, rfl⟩, trivial⟩ trivial trivial rfl ?_
        refine G_again (m' := xs.length - (i + 1)) (by omega) (G_at ⟨i + 1, by omega, rfl, rfl, ?_, rfl⟩)
        rw [List.take_add_one, List.take_add_one, hs, hs', hv]
    · have h := of_decide_eq_false ‹_›
      simp only [List.length_map] at h
      have hii : i = xs.length := by omega
      have hxy : xs = ys := by
        rw [hii, List.take_length, hlen, List.take_length] at hv
        exact hv
      refine G_exit ?_
      repeat' (first | refine G_pure Kx_ok rfl rfl ?_ | refine G_run rfl rfl rfl ?_ | refine G_not rfl rfl rfl rfl ?_ | refine G_nil ?_ | refine G_seq ?_ | refine G_region rfl ?_ | refine G_skip ?_ | refine G_block ?_ | refine G_drawn Kx_mixed rfl ?_ | refine D_pure Kx_ok rfl rfl rfl rfl ?_ | refine D_not rfl rfl rfl rfl rfl ?_ | refine D_none rfl rfl rfl rfl ?_ | refine G_gnone rfl rfl rfl ?_ | refine D_nil rfl ?_ | refine G_cond_t rfl ?_ | refine G_cond_f rfl ?_ | refine G_box Kx_ok 5 rfl rfl rfl rfl rfl ?_ | refine G_alloc Kx_ok 5 rfl rfl rfl rfl ?_ | refine G_lit Kx_ok 5 rfl rfl rfl rfl rfl rfl rfl ?_ | refine G_box Kx_ok 6 rfl rfl rfl rfl rfl ?_ | refine G_alloc Kx_ok 6 rfl rfl rfl rfl ?_ | refine G_lit Kx_ok 6 rfl rfl rfl rfl rfl rfl rfl ?_ | refine G_store Kx_ok rfl rfl rfl rfl rfl rfl rfl rfl ?_ | (refine G_split rfl (fun h => ?_) (fun h => ?_) <;> (first | refine G_run rfl rfl rfl ?_; refine G_pure Kx_ok rfl rfl ?_ | refine G_not rfl rfl rfl rfl ?_)) | (refine D_split rfl (fun h => ?_) (fun h => ?_) <;> (first | refine D_pure Kx_ok rfl rfl rfl rfl ?_ | refine D_not rfl rfl rfl rfl rfl ?_)) | refine G_cond rfl (fun h => ?_) (fun h => ?_) | refine G_ret (G_leave ?_) | refine G_return Kx_ok rfl ?_)
      simp [resV, hxy]
structure Spe where
  f : Int
  t : Int
  deriving DecidableEq
def seA (s : Spe) : AV := .agg [.int .i64 s.f, .int .i64 s.t]
def seL (xs : List Spe) : AV := .lst (xs.map seA)
theorem eq45 : eqPlain Kx.P 79 = true := by kernel_rfl
set_option maxHeartbeats 4000000 in
theorem c_ref07_SameSpells (xs ys : List Spe) (hl : xs.length ≤ 4611686018427387904) (hl2 : ys.length ≤ 4611686018427387904) : FnP Kx 20 [seL xs, seL ys] (.bool (decide (xs = ys))) := by
  refine FnT_of_body ent20 Tryd.func20 rfl Tryd.ntmps20 rfl (fun C0 hC0 => ?_)
  repeat' (first | refine G_pure Kx_ok rfl rfl ?_ | refine G_run rfl rfl rfl ?_ | refine G_not rfl rfl rfl rfl ?_ | refine G_nil ?_ | refine G_seq ?_ | refine G_region rfl ?_ | refine G_skip ?_ | refine G_block ?_ | refine G_drawn Kx_mixed rfl ?_ | refine D_pure Kx_ok rfl rfl rfl rfl ?_ | refine D_not rfl rfl rfl rfl rfl ?_ | refine D_none rfl rfl rfl rfl ?_ | refine G_gnone rfl rfl rfl ?_ | refine D_nil rfl ?_ | refine G_cond_t rfl ?_ | refine G_cond_f rfl ?_ | refine G_box Kx_ok 5 rfl rfl rfl rfl rfl ?_ | refine G_alloc Kx_ok 5 rfl rfl rfl rfl ?_ | refine G_lit Kx_ok 5 rfl rfl rfl rfl rfl rfl rfl ?_ | refine G_box Kx_ok 6 rfl rfl rfl rfl rfl ?_ | refine G_alloc Kx_ok 6 rfl rfl rfl rfl ?_ | refine G_lit Kx_ok 6 rfl rfl rfl rfl rfl rfl rfl ?_ | refine G_store Kx_ok rfl rfl rfl rfl rfl rfl rfl rfl ?_ | (refine G_split rfl (fun h => ?_) (fun h => ?_) <;> (first | refine G_run rfl rfl rfl ?_; refine G_pure Kx_ok rfl rfl ?_ | refine G_not rfl rfl rfl rfl ?_)) | (refine D_split rfl (fun h => ?_) (fun h => ?_) <;> (first | refine D_pure Kx_ok rfl rfl rfl rfl ?_ | refine D_not rfl rfl rfl rfl rfl ?_)) | refine G_cond rfl (fun h => ?_) (fun h => ?_) | refine G_ret (G_leave ?_) | fail | fail)
  · have h := of_decide_eq_true ‹_›
    refine G_return Kx_ok rfl ?_
    have : xs ≠ ys := fun e => h (by rw [e])
    simp [resV, this]
  have hlen := of_decide_eq_false h
  simp only [List.length_map, ne_eq, Decidable.not_not, Int.natCast_inj] at hlen
  clear h
  refine G_loop (fun m fr L => ∃ (i : Nat), i ≤ xs.length ∧ m = xs.length - i ∧ L = [] ∧ xs.take i = ys.take i ∧
    fr = ⟨[(0, seL xs), (1, seL ys), (5, .int .i64 i)], 26, (C0.w.heap.size, 0)⟩) (m := xs.length) ?_ ?_
  · refine G_weak [] [(0, seL xs), (1, seL ys), (5, .int .i64 0)] [] hC0 ⟨⟨rfl, rfl⟩, ⟨rfl, rfl⟩, ⟨rfl, rfl⟩, trivial⟩ trivial trivial rfl ?_
    exact G_at ⟨0, by omega, by omega, rfl, rfl, rfl⟩
  · rintro m fr L ⟨i, hi, rfl, rfl, hv, rfl⟩
    repeat' (first | refine G_pure Kx_ok rfl rfl ?_ | refine G_run rfl rfl rfl ?_ | refine G_not rfl rfl rfl rfl ?_ | refine G_nil ?_ | refine G_seq ?_ | refine G_region rfl ?_ | refine G_skip ?_ | refine G_block ?_ | refine G_drawn Kx_mixed rfl ?_ | refine D_pure Kx_ok rfl rfl rfl rfl ?_ | refine D_not rfl rfl rfl rfl rfl ?_ | refine D_none rfl rfl rfl rfl ?_ | refine G_gnone rfl rfl rfl ?_ | refine D_nil rfl ?_ | refine G_cond_t rfl ?_ | refine G_cond_f rfl ?_ | refine G_box Kx_ok 5 rfl rfl rfl rfl rfl ?_ | refine G_alloc Kx_ok 5 rfl rfl rfl rfl ?_ | refine G_lit Kx_ok 5 rfl rfl rfl rfl rfl rfl rfl ?_ | refine G_box Kx_ok 6 rfl rfl rfl rfl rfl ?_ | refine G_alloc Kx_ok 6 rfl rfl rfl rfl ?_ | refine G_lit Kx_ok 6 rfl rfl rfl rfl rfl rfl rfl ?_ | refine G_store Kx_ok rfl rfl rfl rfl rfl rfl rfl rfl ?_ | (refine G_split rfl (fun h => ?_) (fun h => ?_) <;> (first | refine G_run rfl rfl rfl ?_; refine G_pure Kx_ok rfl rfl ?_ | refine G_not rfl rfl rfl rfl ?_)) | (refine D_split rfl (fun h => ?_) (fun h => ?_) <;> (first | refine D_pure Kx_ok rfl rfl rfl rfl ?_ | refine D_not rfl rfl rfl rfl rfl ?_)) | refine G_cond rfl (fun h => ?_) (fun h => ?_) | refine G_ret (G_leave ?_) | fail | fail)
    · have h := of_decide_eq_true ‹_›
      simp only [List.length_map] at h
      obtain ⟨s, hs⟩ : ∃ s, xs[i]? = some s := ⟨xs[i], List.getElem?_eq_getElem (by omega)⟩
      obtain ⟨s', hs'⟩ : ∃ s, ys[i]? = some s := ⟨ys[i], List.getElem?_eq_getElem (by omega)⟩
      repeat' (first | refine G_pure Kx_ok rfl rfl ?_ | refine G_run rfl rfl rfl ?_ | refine G_not rfl rfl rfl rfl ?_ | refine G_nil ?_ | refine G_seq ?_ | refine G_region rfl ?_ | refine G_skip ?_ | refine G_block ?_ | refine G_drawn Kx_mixed rfl ?_ | refine D_pure Kx_ok rfl rfl rfl rfl ?_ | refine D_not rfl rfl rfl rfl rfl ?_ | refine D_none rfl rfl rfl rfl ?_ | refine G_gnone rfl rfl rfl ?_ | refine D_nil rfl ?_ | refine G_cond_t rfl ?_ | refine G_cond_f rfl ?_ | refine G_box Kx_ok 5 rfl rfl rfl rfl rfl ?_ | refine G_alloc Kx_ok 5 rfl rfl rfl rfl ?_ | refine G_lit Kx_ok 5 rfl rfl rfl rfl rfl rfl rfl ?_ | refine G_box Kx_ok 6 rfl rfl rfl rfl rfl ?_ | refine G_alloc Kx_ok 6 rfl rfl rfl rfl ?_ | refine G_lit Kx_ok 6 rfl rfl rfl rfl rfl rfl rfl ?_ | refine G_store Kx_ok rfl rfl rfl rfl rfl rfl rfl rfl ?_ | (refine D_index_lst Kx_ok _ rfl rfl rfl rfl rfl rfl (map_get (x := s) (by simpa using hs)) (by omega) rfl rfl rfl rfl ?_) | (refine D_index_lst Kx_ok _ rfl rfl rfl rfl rfl rfl (map_get (x := s') (by simpa using hs')) (by omega) rfl rfl rfl rfl ?_) | (refine D_eqS Kx_ok true rfl rfl rfl rfl rfl rfl rfl eq45 rfl rfl ?_) | (refine G_split rfl (fun h => ?_) (fun h => ?_) <;> (first | refine G_run rfl rfl rfl ?_; refine G_pure Kx_ok rfl rfl ?_ | refine G_not rfl rfl rfl rfl ?_)) | (refine D_split rfl (fun h => ?_) (fun h => ?_) <;> (first | refine D_pure Kx_ok rfl rfl rfl rfl ?_ | refine D_not rfl rfl rfl rfl rfl ?_)) | refine G_cond rfl (fun h => ?_) (fun h => ?_) | refine G_ret (G_leave ?_) | fail | fail)
      · refine G_return Kx_ok rfl ?_
        have hne : xs ≠ ys := by
          rintro rfl
          rw [hs] at hs'
          simp only [Option.some.injEq] at hs'
          subst hs'
          simp at h
        simp [resV, hne]
      · have hss : s = s' := by
          cases s; cases s'
          simp at h
          simp [h]
        subst hss
        refine G_int (t := 5) (b := ((i + 1 : Nat) : Int)) rfl (by rw [w64] <;> omega) ?_
        refine G_weak [] [(0, seL xs), (1, seL ys), (5, .int .i64 ((i + 1 : Nat) : Int))] [] hC0 ⟨⟨rfl, rfl⟩, ⟨rfl, rfl⟩, ⟨rfl, rfl⟩, trivial⟩ trivial trivial rfl ?_
        refine G_again (m' := xs.length - (i + 1)) (by omega) (G_at ⟨i + 1, by omega, rfl, rfl, ?_, rfl⟩)
        rw [List.take_add_one, List.take_add_one, hs, hs', hv]
    · have h := of_decide_eq_false ‹_›
      simp only [List.length_map] at h
      have hii : i = xs.length := by omega
      have hxy : xs = ys := by
        rw [hii, List.take_length, hlen, List.take_length] at hv
        exact hv
      refine G_exit ?_
      repeat' (first | refine G_pure Kx_ok rfl rfl ?_ | refine G_run rfl rfl rfl ?_ | refine G_not rfl rfl rfl rfl ?_ | refine G_nil ?_ | refine G_seq ?_ | refine G_region rfl ?_ | refine G_skip ?_ | refine G_block ?_ | refine G_drawn Kx_mixed rfl ?_ | refine D_pure Kx_ok rfl rfl rfl rfl ?_ | refine D_not rfl rfl rfl rfl rfl ?_ | refine D_none rfl rfl rfl rfl ?_ | refine G_gnone rfl rfl rfl ?_ | refine D_nil rfl ?_ | refine G_cond_t rfl ?_ | refine G_cond_f rfl ?_ | refine G_box Kx_ok 5 rfl rfl rfl rfl rfl ?_ | refine G_alloc Kx_ok 5 rfl rfl rfl rfl ?_ | refine G_lit Kx_ok 5 rfl rfl rfl rfl rfl rfl rfl ?_ | refine G_box Kx_ok 6 rfl rfl rfl rfl rfl ?_ | refine G_alloc Kx_ok 6 rfl rfl rfl rfl ?_ | refine G_lit Kx_ok 6 rfl rfl rfl rfl rfl rfl rfl ?_ | refine G_store Kx_ok rfl rfl rfl rfl rfl rfl rfl rfl ?_ | (refine G_split rfl (fun h => ?_) (fun h => ?_) <;> (first | refine G_run rfl rfl rfl ?_; refine G_pure Kx_ok rfl rfl ?_ | refine G_not rfl rfl rfl rfl ?_)) | (refine D_split rfl (fun h => ?_) (fun h => ?_) <;> (first | refine D_pure Kx_ok rfl rfl rfl rfl ?_ | refine D_not rfl rfl rfl rfl rfl ?_)) | refine G_cond rfl (fun h => ?_) (fun h => ?_) | refine G_ret (G_leave ?_) | refine G_return Kx_ok rfl ?_)
      simp [resV, hxy]
end Go.Proofs.YtmdbpbncdkdipaaDoor
namespace Go.Proofs.YtmdbpbncdkdipaaDoor
open Go.Asl
set_option maxRecDepth 100000
attribute [local irreducible] Go.Asl.wpG Go.Code.wpIn Go.Asl.DrawG Go.Asl.LvX Go.Asl.G


def hit (t : Int) (s : Spn) : Bool := decide (s.f ≤ t) && decide (t < s.t)
def atR (b : Bool) (xs : List Spn) (t : Int) : AV := match b, xs.find? (hit t) with
  | true, some s => .tup [.int .i64 s.o, .int .i64 0]
  | _, _ => .tup [.int .i64 0, .int .i64 150]

set_option maxHeartbeats 4000000 in
theorem c_ref15_At (xs : List Spn) (t : Int) (hl : xs.length ≤ 4611686018427387904) : FnP Kx 42 [spL xs, .int .i64 t] (atR (rvalid xs) xs t) := by
  refine FnT_of_body ent42 Tryd.func42 rfl Tryd.ntmps42 rfl (fun C0 hC0 => ?_)
  repeat' (first | refine G_pure Kx_ok rfl rfl ?_ | refine G_run rfl rfl rfl ?_ | refine G_not rfl rfl rfl rfl ?_ | refine G_nil ?_ | refine G_seq ?_ | refine G_region rfl ?_ | refine G_skip ?_ | refine G_block ?_ | refine G_drawn Kx_mixed rfl ?_ | refine D_pure Kx_ok rfl rfl rfl rfl ?_ | refine D_not rfl rfl rfl rfl rfl ?_ | refine D_none rfl rfl rfl rfl ?_ | refine G_gnone rfl rfl rfl ?_ | refine D_nil rfl ?_ | refine G_cond_t rfl ?_ | refine G_cond_f rfl ?_ | refine G_box Kx_ok 5 rfl rfl rfl rfl rfl ?_ | refine G_alloc Kx_ok 5 rfl rfl rfl rfl ?_ | refine G_lit Kx_ok 5 rfl rfl rfl rfl rfl rfl rfl ?_ | refine G_box Kx_ok 6 rfl rfl rfl rfl rfl ?_ | refine G_alloc Kx_ok 6 rfl rfl rfl rfl ?_ | refine G_lit Kx_ok 6 rfl rfl rfl rfl rfl rfl rfl ?_ | refine G_store Kx_ok rfl rfl rfl rfl rfl rfl rfl rfl ?_ | refine G_callP rfl rfl rfl rfl (c_ref15_Valid xs hl) rfl rfl rfl ?_ | refine D_call rfl rfl rfl rfl rfl (c_ref15_Valid xs hl) rfl rfl rfl rfl ?_ | (refine G_split rfl (fun h => ?_) (fun h => ?_) <;> (first | refine G_run rfl rfl rfl ?_; refine G_pure Kx_ok rfl rfl ?_ | refine G_not rfl rfl rfl rfl ?_)) | (refine D_split rfl (fun h => ?_) (fun h => ?_) <;> (first | refine D_pure Kx_ok rfl rfl rfl rfl ?_ | refine D_not rfl rfl rfl rfl rfl ?_)) | refine G_cond rfl (fun h => ?_) (fun h => ?_) | refine G_ret (G_leave ?_) | fail | fail)
  · refine G_return Kx_ok rfl ?_
    simp at h
    simp [resV, atR, h]
  have hb : rvalid xs = true := by simpa using h
  clear h
  refine G_loop (fun m fr L => ∃ (i : Nat), i ≤ xs.length ∧ m = xs.length - i ∧ L = [] ∧ xs.find? (hit t) = (xs.drop i).find? (hit t) ∧
    fr = ⟨[(0, spL xs), (1, .int .i64 t), (6, .int .i64 i)], 37, (C0.w.heap.size, 0)⟩) (m := xs.length) ?_ ?_
  · refine G_weak [] [(0, spL xs), (1, .int .i64 t), (6, .int .i64 0)] [] hC0 ⟨⟨rfl, rfl⟩, ⟨rfl, rfl⟩, ⟨rfl, rfl⟩, trivial⟩ trivial trivial rfl ?_
    exact G_at ⟨0, by omega, by omega, rfl, rfl, rfl⟩
  · rintro m fr L ⟨i, hi, rfl, rfl, hv, rfl⟩
    repeat' (first | refine G_pure Kx_ok rfl rfl ?_ | refine G_run rfl rfl rfl ?_ | refine G_not rfl rfl rfl rfl ?_ | refine G_nil ?_ | refine G_seq ?_ | refine G_region rfl ?_ | refine G_skip ?_ | refine G_block ?_ | refine G_drawn Kx_mixed rfl ?_ | refine D_pure Kx_ok rfl rfl rfl rfl ?_ | refine D_not rfl rfl rfl rfl rfl ?_ | refine D_none rfl rfl rfl rfl ?_ | refine G_gnone rfl rfl rfl ?_ | refine D_nil rfl ?_ | refine G_cond_t rfl ?_ | refine G_cond_f rfl ?_ | refine G_box Kx_ok 5 rfl rfl rfl rfl rfl ?_ | refine G_alloc Kx_ok 5 rfl rfl rfl rfl ?_ | refine G_lit Kx_ok 5 rfl rfl rfl rfl rfl rfl rfl ?_ | refine G_box Kx_ok 6 rfl rfl rfl rfl rfl ?_ | refine G_alloc Kx_ok 6 rfl rfl rfl rfl ?_ | refine G_lit Kx_ok 6 rfl rfl rfl rfl rfl rfl rfl ?_ | refine G_store Kx_ok rfl rfl rfl rfl rfl rfl rfl rfl ?_ | refine G_callP rfl rfl rfl rfl (c_ref15_Valid xs hl) rfl rfl rfl ?_ | refine D_call rfl rfl rfl rfl rfl (c_ref15_Valid xs hl) rfl rfl rfl rfl ?_ | (refine G_split rfl (fun h => ?_) (fun h => ?_) <;> (first | refine G_run rfl rfl rfl ?_; refine G_pure Kx_ok rfl rfl ?_ | refine G_not rfl rfl rfl rfl ?_)) | (refine D_split rfl (fun h => ?_) (fun h => ?_) <;> (first | refine D_pure Kx_ok rfl rfl rfl rfl ?_ | refine D_not rfl rfl rfl rfl rfl ?_)) | refine G_cond rfl (fun h => ?_) (fun h => ?_) | refine G_ret (G_leave ?_) | fail | fail)
    · have h := of_decide_eq_true ‹_›
      simp only [List.length_map] at h
      have hlt : i < xs.length := by omega
      obtain ⟨s, hs⟩ : ∃ s, xs[i]? = some s := ⟨xs[i], List.getElem?_eq_getElem (by omega)⟩
      have hdrop : xs.drop i = s :: xs.drop (i + 1) := by
        rw [List.drop_eq_getElem_cons hlt]
        rw [List.getElem?_eq_getElem hlt] at hs
        simp only [Option.some.injEq] at hs
        rw [hs]
      rw [hdrop, List.find?_cons] at hv
      repeat' (first | refine G_pure Kx_ok rfl rfl ?_ | refine G_run rfl rfl rfl ?_ | refine G_not rfl rfl rfl rfl ?_ | refine G_nil ?_ | refine G_seq ?_ | refine G_region rfl ?_ | refine G_skip ?_ | refine G_block ?_ | refine G_drawn Kx_mixed rfl ?_ | refine D_pure Kx_ok rfl rfl rfl rfl ?_ | refine D_not rfl rfl rfl rfl rfl ?_ | refine D_none rfl rfl rfl rfl ?_ | refine G_gnone rfl rfl rfl ?_ | refine D_nil rfl ?_ | refine G_cond_t rfl ?_ | refine G_cond_f rfl ?_ | refine G_box Kx_ok 5 rfl rfl rfl rfl rfl ?_ | refine G_alloc Kx_ok 5 rfl rfl rfl rfl ?_ | refine G_lit Kx_ok 5 rfl rfl rfl rfl rfl rfl rfl ?_ | refine G_box Kx_ok 6 rfl rfl rfl rfl rfl ?_ | refine G_alloc Kx_ok 6 rfl rfl rfl rfl ?_ | refine G_lit Kx_ok 6 rfl rfl rfl rfl rfl rfl rfl ?_ | refine G_store Kx_ok rfl rfl rfl rfl rfl rfl rfl rfl ?_ | (refine G_index_lst Kx_ok rfl rfl rfl rfl rfl (map_get (x := s) (by simpa using hs)) (by omega) rfl rfl rfl ?_) | (refine G_split rfl (fun h => ?_) (fun h => ?_) <;> (first | refine G_run rfl rfl rfl ?_; refine G_pure Kx_ok rfl rfl ?_ | refine G_not rfl rfl rfl rfl ?_)) | (refine D_split rfl (fun h => ?_) (fun h => ?_) <;> (first | refine D_pure Kx_ok rfl rfl rfl rfl ?_ | refine D_not rfl rfl rfl rfl rfl ?_)) | refine G_cond rfl (fun h => ?_) (fun h => ?_) | refine G_ret (G_leave ?_) | fail | fail)
      · have h1 : hit t s = true := by simp only [hit, *, Bool.and_self]
        rw [h1] at hv
        refine G_return Kx_ok rfl ?_
        simp [resV, atR, hb, hv]
      · have h1 : hit t s = false := by simp only [hit, *, Bool.and_false]
        rw [h1] at hv
        refine G_int (t := 6) (b := ((i + 1 : Nat) : Int)) rfl (by rw [w64] <;> omega) ?_
        refine G_weak [] [(0, spL xs), (1, .int .i64 t), (6, .int .i64 ((i + 1 : Nat) : Int))] [] hC0 ⟨⟨rfl, rfl⟩, ⟨rfl, rfl⟩, ⟨rfl, rfl⟩, trivial⟩ trivial trivial rfl ?_
        refine G_again (m' := xs.length - (i + 1)) (by omega) (G_at ⟨i + 1, by omega, rfl, rfl, ?_, rfl⟩)
        rw [hv]
      · have h1 : hit t s = false := by simp only [hit, *, Bool.false_and]
        rw [h1] at hv
        refine G_int (t := 6) (b := ((i + 1 : Nat) : Int)) rfl (by rw [w64] <;> omega) ?_
        refine G_weak [] [(0, spL xs), (1, .int .i64 t), (6, .int .i64 ((i + 1 : Nat) : Int))] [] hC0 ⟨⟨rfl, rfl⟩, ⟨rfl, rfl⟩, ⟨rfl, rfl⟩, trivial⟩ trivial trivial rfl ?_
        refine G_again (m' := xs.length - (i + 1)) (by omega) (G_at ⟨i + 1, by omega, rfl, rfl, ?_, rfl⟩)
        rw [hv]
    · have h := of_decide_eq_false ‹_›
      simp only [List.length_map] at h
      have hii : i = xs.length := by omega
      rw [hii, List.drop_length] at hv
      refine G_exit ?_
      repeat' (first | refine G_pure Kx_ok rfl rfl ?_ | refine G_run rfl rfl rfl ?_ | refine G_not rfl rfl rfl rfl ?_ | refine G_nil ?_ | refine G_seq ?_ | refine G_region rfl ?_ | refine G_skip ?_ | refine G_block ?_ | refine G_drawn Kx_mixed rfl ?_ | refine D_pure Kx_ok rfl rfl rfl rfl ?_ | refine D_not rfl rfl rfl rfl rfl ?_ | refine D_none rfl rfl rfl rfl ?_ | refine G_gnone rfl rfl rfl ?_ | refine D_nil rfl ?_ | refine G_cond_t rfl ?_ | refine G_cond_f rfl ?_ | refine G_box Kx_ok 5 rfl rfl rfl rfl rfl ?_ | refine G_alloc Kx_ok 5 rfl rfl rfl rfl ?_ | refine G_lit Kx_ok 5 rfl rfl rfl rfl rfl rfl rfl ?_ | refine G_box Kx_ok 6 rfl rfl rfl rfl rfl ?_ | refine G_alloc Kx_ok 6 rfl rfl rfl rfl ?_ | refine G_lit Kx_ok 6 rfl rfl rfl rfl rfl rfl rfl ?_ | refine G_store Kx_ok rfl rfl rfl rfl rfl rfl rfl rfl ?_ | (refine G_split rfl (fun h => ?_) (fun h => ?_) <;> (first | refine G_run rfl rfl rfl ?_; refine G_pure Kx_ok rfl rfl ?_ | refine G_not rfl rfl rfl rfl ?_)) | (refine D_split rfl (fun h => ?_) (fun h => ?_) <;> (first | refine D_pure Kx_ok rfl rfl rfl rfl ?_ | refine D_not rfl rfl rfl rfl rfl ?_)) | refine G_cond rfl (fun h => ?_) (fun h => ?_) | refine G_ret (G_leave ?_) | refine G_return Kx_ok rfl ?_)
      simp only [List.find?_nil] at hv
      simp [resV, atR, hb, hv]
end Go.Proofs.YtmdbpbncdkdipaaDoor
namespace Go.Proofs.YtmdbpbncdkdipaaDoor
open Go.Asl
set_option maxRecDepth 100000
attribute [local irreducible] Go.Asl.wpG Go.Code.wpIn Go.Asl.DrawG Go.Asl.LvX Go.Asl.G

def rwithin (xs : List Spn) (s : Spe) : Option (List Spn) := if rvalid xs = true ∧ 0 ≤ s.f ∧ s.f < s.t ∧ s.t ≤ endOf xs then some (partS [] xs s.f s.t) else none
end Go.Proofs.YtmdbpbncdkdipaaDoor
namespace Go.Proofs.YtmdbpbncdkdipaaDoor
open Go.Asl
set_option maxRecDepth 100000
attribute [local irreducible] Go.Asl.wpG Go.Code.wpIn Go.Asl.DrawG Go.Asl.LvX Go.Asl.G

abbrev joinS (xs ys : List Spn) (t : Int) : List Spn := partS (partS [] xs 0 t) ys t (endOf ys)
def rjoin (xs ys : List Spn) (t : Int) : Option (List Spn) := if rvalid xs = true ∧ rvalid ys = true ∧ 0 ≤ t ∧ t ≤ endOf xs ∧ t ≤ endOf ys ∧ (partS (partS [] xs 0 t) ys t (endOf ys)).length ≤ 200 then some (partS (partS [] xs 0 t) ys t (endOf ys)) else none
end Go.Proofs.YtmdbpbncdkdipaaDoor
namespace Go.Proofs.YtmdbpbncdkdipaaDoor
open Go.Asl
set_option maxRecDepth 100000
attribute [local irreducible] Go.Asl.wpG Go.Code.wpIn Go.Asl.DrawG Go.Asl.LvX Go.Asl.G

abbrev putS (xs : List Spn) (s : Spn) : List Spn := partS (addS (partS [] xs 0 s.f) s) xs s.t (endOf xs)
def rput (xs : List Spn) (s : Spn) : Option (List Spn) := if rvalid xs = true ∧ 0 ≤ s.f ∧ s.f < s.t ∧ s.t ≤ endOf xs ∧ 0 ≤ s.o ∧ s.o ≤ 2999 ∧ (partS (addS (partS [] xs 0 s.f) s) xs s.t (endOf xs)).length ≤ 200 then some (partS (addS (partS [] xs 0 s.f) s) xs s.t (endOf xs)) else none
set_option maxHeartbeats 4000000 in
theorem c_ref15_Put (xs : List Spn) (s : Spn) (hl : xs.length ≤ 400000000) : FnP Kx 58 [spL xs, spA s] (optR (rput xs s)) := by
  refine FnT_of_body ent58 Tryd.func58 rfl Tryd.ntmps58 rfl (fun C0 hC0 => ?_)
  repeat' (first | refine G_pure Kx_ok rfl rfl ?_ | refine G_run rfl rfl rfl ?_ | refine G_not rfl rfl rfl rfl ?_ | refine G_nil ?_ | refine G_seq ?_ | refine G_region rfl ?_ | refine G_skip ?_ | refine G_block ?_ | refine G_drawn Kx_mixed rfl ?_ | refine D_pure Kx_ok rfl rfl rfl rfl ?_ | refine D_not rfl rfl rfl rfl rfl ?_ | refine D_none rfl rfl rfl rfl ?_ | refine G_gnone rfl rfl rfl ?_ | refine D_nil rfl ?_ | refine G_cond_t rfl ?_ | refine G_cond_f rfl ?_ | refine G_box Kx_ok 5 rfl rfl rfl rfl rfl ?_ | refine G_alloc Kx_ok 5 rfl rfl rfl rfl ?_ | refine G_lit Kx_ok 5 rfl rfl rfl rfl rfl rfl rfl ?_ | refine G_box Kx_ok 6 rfl rfl rfl rfl rfl ?_ | refine G_alloc Kx_ok 6 rfl rfl rfl rfl ?_ | refine G_lit Kx_ok 6 rfl rfl rfl rfl rfl rfl rfl ?_ | refine G_store Kx_ok rfl rfl rfl rfl rfl rfl rfl rfl ?_ | refine G_callS [(0, 7), (1, 8)] (c_ref15_partn xs 0 s.f (by omega)) rfl rfl rfl rfl rfl trivial rfl ⟨.inr rfl, .inr rfl, trivial⟩ rfl rfl rfl ?_ | refine G_callS [(0, 8), (1, 9)] (c_ref15_add (partS [] xs 0 s.f) s (by have := partS_len xs 0 s.f []; simp at this; omega)) rfl rfl rfl rfl rfl ⟨⟨rfl, rfl, rfl⟩, trivial⟩ rfl ⟨.inr rfl, .inl rfl, trivial⟩ rfl rfl rfl ?_ | refine D_callS [(0, 9), (1, 10)] (c_ref15_part (addS (partS [] xs 0 s.f) s) xs s.t (endOf xs) (by have := partS_len xs 0 s.f []; have := addS_len (partS [] xs 0 s.f) s; simp at *; omega)) rfl rfl rfl rfl rfl rfl ⟨⟨rfl, rfl, rfl⟩, trivial⟩ rfl ⟨.inr rfl, .inl rfl, trivial⟩ rfl rfl rfl rfl ?_ | refine G_callP rfl rfl rfl rfl (c_ref15_Valid xs (by omega)) rfl rfl rfl ?_ | refine D_call rfl rfl rfl rfl rfl (c_ref15_Valid xs (by omega)) rfl rfl rfl rfl ?_ | refine G_callP rfl rfl rfl rfl (c_ref15_end xs (by omega)) rfl rfl rfl ?_ | refine D_call rfl rfl rfl rfl rfl (c_ref15_end xs (by omega)) rfl rfl rfl rfl ?_ | (refine G_split rfl (fun h => ?_) (fun h => ?_) <;> (first | refine G_run rfl rfl rfl ?_; refine G_pure Kx_ok rfl rfl ?_ | refine G_not rfl rfl rfl rfl ?_)) | (refine D_split rfl (fun h => ?_) (fun h => ?_) <;> (first | refine D_pure Kx_ok rfl rfl rfl rfl ?_ | refine D_not rfl rfl rfl rfl rfl ?_)) | refine G_cond rfl (fun h => ?_) (fun h => ?_) | refine G_ret (G_leave ?_) | refine G_freeze (m := 10) 4 rfl rfl ?_ | refine G_lst_nil (t := 4) rfl ?_ | refine G_return Kx_ok rfl ?_)
  all_goals simp only [Bool.not_eq_true', Bool.not_eq_false', decide_eq_true_eq, decide_eq_false_iff_not, List.length_map] at *
  all_goals simp only [rput]
  all_goals first | (rw [if_neg (by rintro ⟨a1, a2, a3, a4, a5, a6, a7⟩; first | omega | simp_all)]; rfl) | (rw [if_pos ⟨by assumption, by omega, by omega, by omega, by omega, by omega, by omega⟩]; rfl)
end Go.Proofs.YtmdbpbncdkdipaaDoor
namespace Go.Proofs.YtmdbpbncdkdipaaDoor
open Go.Asl
set_option maxRecDepth 100000
attribute [local irreducible] Go.Asl.wpG Go.Code.wpIn Go.Asl.DrawG Go.Asl.LvX Go.Asl.G


def seO (xs : List Spe) : AObj := .arr 79 2 (xs.map seA)
def ownedS (xs : List Spn) (w : Int) : List Spe := (xs.filter fun s => decide (s.o = w)).map fun s => ⟨s.f, s.t⟩
def optE : Option (List Spe) → AV
  | some xs => .tup [seL xs, .int .i64 0]
  | none => .tup [seL [], .int .i64 150]
theorem ownedS_snoc (xs : List Spn) (s : Spn) (w : Int) : ownedS (xs ++ [s]) w = ownedS xs w ++ (if s.o = w then [⟨s.f, s.t⟩] else []) := by
  unfold ownedS
  rw [List.filter_append, List.map_append]
  congr 1
  by_cases h : s.o = w <;> simp [h]
theorem ownedS_len (xs : List Spn) (w : Int) : (ownedS xs w).length ≤ xs.length := by
  unfold ownedS
  rw [List.length_map]
  exact List.length_filter_le _ _

def rowned (xs : List Spn) (w : Int) : Option (List Spe) := if rvalid xs = true then some (ownedS xs w) else none
end Go.Proofs.YtmdbpbncdkdipaaDoor
namespace Go.Proofs.YtmdbpbncdkdipaaDoor
open Go.Asl
set_option maxRecDepth 100000
attribute [local irreducible] Go.Asl.wpG Go.Code.wpIn Go.Asl.DrawG Go.Asl.LvX Go.Asl.G

def powned (xs : List Spn) (w : Int) : Option (List Spe) := if valid xs = true then some (ownedS xs w) else none
set_option maxHeartbeats 4000000 in
theorem c_timeline_Owned (xs : List Spn) (w : Int) (hl : xs.length ≤ 400000000) : FnP Kx 38 [spL xs, .int .i64 w] (optE (powned xs w)) := by
  refine FnT_of_body ent38 Tryd.func38 rfl Tryd.ntmps38 rfl (fun C0 hC0 => ?_)
  repeat' (first | refine G_pure Kx_ok rfl rfl ?_ | refine G_run rfl rfl rfl ?_ | refine G_not rfl rfl rfl rfl ?_ | refine G_nil ?_ | refine G_seq ?_ | refine G_region rfl ?_ | refine G_skip ?_ | refine G_block ?_ | refine G_drawn Kx_mixed rfl ?_ | refine D_pure Kx_ok rfl rfl rfl rfl ?_ | refine D_not rfl rfl rfl rfl rfl ?_ | refine D_none rfl rfl rfl rfl ?_ | refine G_gnone rfl rfl rfl ?_ | refine D_nil rfl ?_ | refine G_cond_t rfl ?_ | refine G_cond_f rfl ?_ | refine G_store Kx_ok rfl rfl rfl rfl rfl rfl rfl rfl ?_ | refine G_callP rfl rfl rfl rfl (c_timeline_Valid xs (by omega)) rfl rfl rfl ?_ | refine D_call rfl rfl rfl rfl rfl (c_timeline_Valid xs (by omega)) rfl rfl rfl rfl ?_ | (refine G_split rfl (fun h => ?_) (fun h => ?_) <;> (first | refine G_run rfl rfl rfl ?_; refine G_pure Kx_ok rfl rfl ?_ | refine G_not rfl rfl rfl rfl ?_)) | (refine D_split rfl (fun h => ?_) (fun h => ?_) <;> (first | refine D_pure Kx_ok rfl rfl rfl rfl ?_ | refine D_not rfl rfl rfl rfl rfl ?_)) | refine G_cond rfl (fun h => ?_) (fun h => ?_) | refine G_ret (G_leave ?_) | fail | fail)
  · refine G_lst_nil (t := 4) rfl ?_
    refine G_return Kx_ok rfl ?_
    simp at h
    simp [resV, powned, h, optE, seL]
  have hb : valid xs = true := by simpa using h
  clear h
  refine G_own_nil (t := 6) 1 79 2 rfl rfl ?_
  refine G_loop (fun m fr L => ∃ (i : Nat), i ≤ xs.length ∧ m = xs.length - i ∧ L = [(1, seO (ownedS (xs.take i) w))] ∧
    fr = ⟨[(0, spL xs), (1, .int .i64 w), (6, .own 1), (12, spL xs), (13, .int .i64 xs.length), (14, .int .i64 i)], 32, (C0.w.heap.size, 0)⟩) (m := xs.length) ?_ ?_
  · refine G_int (t := 13) (b := (xs.length : Int)) rfl (by simp) ?_
    refine G_weak [] [(0, spL xs), (1, .int .i64 w), (6, .own 1), (12, spL xs), (13, .int .i64 xs.length), (14, .int .i64 0)] [(1, seO [])] hC0 ⟨⟨rfl, rfl⟩, ⟨rfl, rfl⟩, ⟨rfl, rfl⟩, ⟨rfl, rfl⟩, ⟨rfl, rfl⟩, ⟨rfl, rfl⟩, trivial⟩ ⟨.inr ⟨rfl, rfl⟩, trivial⟩ trivial rfl ?_
    exact G_at ⟨0, by omega, by omega, rfl, rfl⟩
  · rintro m fr L ⟨i, hi, rfl, rfl, rfl⟩
    have hal := ownedS_len (xs.take i) w
    rw [List.length_take] at hal
    repeat' (first | refine G_pure Kx_ok rfl rfl ?_ | refine G_run rfl rfl rfl ?_ | refine G_not rfl rfl rfl rfl ?_ | refine G_nil ?_ | refine G_seq ?_ | refine G_region rfl ?_ | refine G_skip ?_ | refine G_block ?_ | refine G_drawn Kx_mixed rfl ?_ | refine D_pure Kx_ok rfl rfl rfl rfl ?_ | refine D_not rfl rfl rfl rfl rfl ?_ | refine D_none rfl rfl rfl rfl ?_ | refine G_gnone rfl rfl rfl ?_ | refine D_nil rfl ?_ | refine G_cond_t rfl ?_ | refine G_cond_f rfl ?_ | refine G_store Kx_ok rfl rfl rfl rfl rfl rfl rfl rfl ?_ | refine G_callP rfl rfl rfl rfl (c_timeline_Valid xs (by omega)) rfl rfl rfl ?_ | refine D_call rfl rfl rfl rfl rfl (c_timeline_Valid xs (by omega)) rfl rfl rfl rfl ?_ | (refine G_split rfl (fun h => ?_) (fun h => ?_) <;> (first | refine G_run rfl rfl rfl ?_; refine G_pure Kx_ok rfl rfl ?_ | refine G_not rfl rfl rfl rfl ?_)) | (refine D_split rfl (fun h => ?_) (fun h => ?_) <;> (first | refine D_pure Kx_ok rfl rfl rfl rfl ?_ | refine D_not rfl rfl rfl rfl rfl ?_)) | refine G_cond rfl (fun h => ?_) (fun h => ?_) | refine G_ret (G_leave ?_) | fail | fail)
    · have h := of_decide_eq_true ‹_›
      obtain ⟨s, hs⟩ : ∃ s, xs[i]? = some s := ⟨xs[i], List.getElem?_eq_getElem (by omega)⟩
      have htake : ownedS (xs.take (i + 1)) w = ownedS (xs.take i) w ++ (if s.o = w then [⟨s.f, s.t⟩] else []) := by
        rw [List.take_add_one, hs]; exact ownedS_snoc _ _ _
      repeat' (first | refine G_pure Kx_ok rfl rfl ?_ | refine G_run rfl rfl rfl ?_ | refine G_not rfl rfl rfl rfl ?_ | refine G_nil ?_ | refine G_seq ?_ | refine G_region rfl ?_ | refine G_skip ?_ | refine G_block ?_ | refine G_drawn Kx_mixed rfl ?_ | refine D_pure Kx_ok rfl rfl rfl rfl ?_ | refine D_not rfl rfl rfl rfl rfl ?_ | refine D_none rfl rfl rfl rfl ?_ | refine G_gnone rfl rfl rfl ?_ | refine D_nil rfl ?_ | refine G_cond_t rfl ?_ | refine G_cond_f rfl ?_ | refine G_box Kx_ok 5 rfl rfl rfl rfl rfl ?_ | refine G_alloc Kx_ok 5 rfl rfl rfl rfl ?_ | refine G_lit Kx_ok 5 rfl rfl rfl rfl rfl rfl rfl ?_ | refine G_box Kx_ok 6 rfl rfl rfl rfl rfl ?_ | refine G_alloc Kx_ok 6 rfl rfl rfl rfl ?_ | refine G_lit Kx_ok 6 rfl rfl rfl rfl rfl rfl rfl ?_ | refine G_store Kx_ok rfl rfl rfl rfl rfl rfl rfl rfl ?_ | (refine G_index_lst Kx_ok rfl rfl rfl rfl rfl (map_get (x := s) (by simpa using hs)) (by omega) rfl rfl rfl ?_) | (refine G_append Kx_ok 2 rfl rfl rfl rfl rfl rfl rfl rfl rfl rfl (fun zs e => by cases e) rfl (by simp; omega) rfl rfl ?_) | (refine G_split rfl (fun h => ?_) (fun h => ?_) <;> (first | refine G_run rfl rfl rfl ?_; refine G_pure Kx_ok rfl rfl ?_ | refine G_not rfl rfl rfl rfl ?_)) | (refine D_split rfl (fun h => ?_) (fun h => ?_) <;> (first | refine D_pure Kx_ok rfl rfl rfl rfl ?_ | refine D_not rfl rfl rfl rfl rfl ?_)) | refine G_cond rfl (fun h => ?_) (fun h => ?_) | refine G_ret (G_leave ?_) | fail | fail)
      · have h1 := of_decide_eq_true ‹decide (s.o = w) = true›
        rw [if_pos h1] at htake
        refine G_arr (t := 2) (ys' := (ownedS (xs.take (i + 1)) w).map seA) rfl (by rw [htake, List.map_append]; rfl) ?_
        refine G_int (t := 14) (b := ((i + 1 : Nat) : Int)) rfl (by rw [w64] <;> omega) ?_
        refine G_weak [(1, 2)] [(0, spL xs), (1, .int .i64 w), (6, .own 1), (12, spL xs), (13, .int .i64 xs.length), (14, .int .i64 ((i + 1 : Nat) : Int))] [(1, seO (ownedS (xs.take (i + 1)) w))] hC0 ⟨⟨rfl, rfl⟩, ⟨rfl, rfl⟩, ⟨rfl, rfl⟩, ⟨rfl, rfl⟩, ⟨rfl, rfl⟩, ⟨rfl, rfl⟩, trivial⟩ ⟨.inr ⟨rfl, rfl⟩, trivial⟩ trivial rfl ?_
        exact G_again (m' := xs.length - (i + 1)) (by omega) (G_at ⟨i + 1, by omega, rfl, rfl, rfl⟩)
      · have h1 := of_decide_eq_false ‹decide (s.o = w) = false›
        rw [if_neg h1, List.append_nil] at htake
        rw [← htake]
        refine G_int (t := 14) (b := ((i + 1 : Nat) : Int)) rfl (by rw [w64] <;> omega) ?_
        refine G_weak [] [(0, spL xs), (1, .int .i64 w), (6, .own 1), (12, spL xs), (13, .int .i64 xs.length), (14, .int .i64 ((i + 1 : Nat) : Int))] [(1, seO (ownedS (xs.take (i + 1)) w))] hC0 ⟨⟨rfl, rfl⟩, ⟨rfl, rfl⟩, ⟨rfl, rfl⟩, ⟨rfl, rfl⟩, ⟨rfl, rfl⟩, ⟨rfl, rfl⟩, trivial⟩ ⟨.inr ⟨rfl, rfl⟩, trivial⟩ trivial rfl ?_
        exact G_again (m' := xs.length - (i + 1)) (by omega) (G_at ⟨i + 1, by omega, rfl, rfl, rfl⟩)
    · have h := of_decide_eq_false ‹_›
      have hii : i = xs.length := by omega
      refine G_exit ?_
      repeat' (first | refine G_pure Kx_ok rfl rfl ?_ | refine G_run rfl rfl rfl ?_ | refine G_not rfl rfl rfl rfl ?_ | refine G_nil ?_ | refine G_seq ?_ | refine G_region rfl ?_ | refine G_skip ?_ | refine G_block ?_ | refine G_drawn Kx_mixed rfl ?_ | refine D_pure Kx_ok rfl rfl rfl rfl ?_ | refine D_not rfl rfl rfl rfl rfl ?_ | refine D_none rfl rfl rfl rfl ?_ | refine G_gnone rfl rfl rfl ?_ | refine D_nil rfl ?_ | refine G_cond_t rfl ?_ | refine G_cond_f rfl ?_ | refine G_store Kx_ok rfl rfl rfl rfl rfl rfl rfl rfl ?_ | refine G_callP rfl rfl rfl rfl (c_timeline_Valid xs (by omega)) rfl rfl rfl ?_ | refine D_call rfl rfl rfl rfl rfl (c_timeline_Valid xs (by omega)) rfl rfl rfl rfl ?_ | (refine G_split rfl (fun h => ?_) (fun h => ?_) <;> (first | refine G_run rfl rfl rfl ?_; refine G_pure Kx_ok rfl rfl ?_ | refine G_not rfl rfl rfl rfl ?_)) | (refine D_split rfl (fun h => ?_) (fun h => ?_) <;> (first | refine D_pure Kx_ok rfl rfl rfl rfl ?_ | refine D_not rfl rfl rfl rfl rfl ?_)) | refine G_cond rfl (fun h => ?_) (fun h => ?_) | refine G_ret (G_leave ?_) | fail | fail)
      refine G_freeze (m := 1) 4 rfl rfl ?_
      refine G_return Kx_ok rfl ?_
      simp [resV, powned, hb, optE, seL, hii]
end Go.Proofs.YtmdbpbncdkdipaaDoor
namespace Go.Proofs.YtmdbpbncdkdipaaDoor
open Go.Asl
set_option maxRecDepth 100000
attribute [local irreducible] Go.Asl.wpG Go.Code.wpIn Go.Asl.DrawG Go.Asl.LvX Go.Asl.G

def errOf {α : Type} (o : Option α) : Int := match o with
  | some _ => 0
  | none => 150
theorem optR_eq (o : Option (List Spn)) : optR o = .tup [spL (o.getD []), .int .i64 (errOf o)] := by cases o <;> rfl
theorem newR_len {e w : Int} {l : List Spn} (h : newR e w = some l) : l.length ≤ 1 := by
  unfold newR at h
  split at h
  · cases h; exact Nat.le_trans (addS_len _ _) (by simp)
  · cases h
def stepR (o : Option (List Spn)) (s : Spn) : Option (List Spn) := o.bind (rput · s)
def rpaint (e w : Int) (xs : List Spn) : Option (List Spn) := xs.foldl stepR (newR e w)
theorem stepR_none (xs : List Spn) : xs.foldl stepR none = none := by induction xs with
  | nil => rfl
  | cons s r ih => exact ih
theorem rput_len {xs ys : List Spn} {s : Spn} (h : rput xs s = some ys) : ys.length ≤ 200 := by
  unfold rput at h
  split at h
  · cases h; omega
  · cases h

theorem c_ref15_Paint (e w : Int) (xs : List Spn) (hl : xs.length ≤ 1000000000) : FnP Kx 41 [.int .i64 e, .int .i64 w, spL xs] (.tup [spL ((rpaint e w xs).getD []), .int .i64 (errOf (rpaint e w xs))]) := by
  refine FnT_of_body ent41 Tryd.func41 rfl Tryd.ntmps41 rfl (fun C0 hC0 => ?_)
  repeat' (first | refine G_ops Kx_ok 6 rfl ?_ | refine G_op Kx_ok rfl ?_ | refine G_nil ?_ | refine G_seq ?_ | refine G_region rfl ?_ | refine G_skip ?_ | refine G_block ?_ | refine G_drawn Kx_mixed rfl ?_ | refine D_ops Kx_ok 6 rfl ?_ | refine D_op Kx_ok rfl ?_ | refine D_nil rfl ?_ | refine G_cond_t rfl ?_ | refine G_cond_f rfl ?_ | refine G_exit ?_ | refine G_callP rfl rfl rfl rfl ((c_ref15_New e w).eq (optR_eq _)) rfl rfl rfl ?_ | refine D_call rfl rfl rfl rfl rfl ((c_ref15_New e w).eq (optR_eq _)) rfl rfl rfl rfl ?_ | refine G_splitD rfl (fun h => ?_) (fun h => ?_) | refine D_splitD rfl (fun h => ?_) (fun h => ?_) | refine G_split rfl (fun h => ?_) (fun h => ?_) | refine D_split rfl (fun h => ?_) (fun h => ?_) | refine G_condD rfl (fun h => ?_) (fun h => ?_) | refine G_condN rfl (fun h => ?_) (fun h => ?_) | refine G_cond rfl (fun h => ?_) (fun h => ?_) | refine G_ret (G_leave ?_))
  refine G_loopF (fun (p : Nat × Option (List Spn)) => [(8, spL (p.2.getD [])), (9, .int .i64 (errOf p.2)), (10, .int .i64 p.1)]) (fun _ => [])
    (fun p => p.1 ≤ xs.length ∧ (∀ l, p.2 = some l → l.length ≤ 200) ∧ (xs.drop p.1).foldl stepR p.2 = rpaint e w xs) (fun p => xs.length - p.1) (0, newR e w) rfl ⟨by simp, fun l hl' => ?_, rfl⟩ (G_atE (by repeat' (first | exact trivial | refine ⟨rfl, ?_⟩))) ?_
  · have := newR_len hl'; simp only at *; omega
  rintro ⟨i, q⟩ ⟨h1, h2, h3⟩
  dsimp only [List.cons_append, List.nil_append] at *
  repeat' (first | refine G_ops Kx_ok 6 rfl ?_ | refine G_op Kx_ok rfl ?_ | refine G_nil ?_ | refine G_seq ?_ | refine G_region rfl ?_ | refine G_skip ?_ | refine G_block ?_ | refine G_drawn Kx_mixed rfl ?_ | refine D_ops Kx_ok 6 rfl ?_ | refine D_op Kx_ok rfl ?_ | refine D_nil rfl ?_ | refine G_cond_t rfl ?_ | refine G_cond_f rfl ?_ | refine G_exit ?_ | refine G_splitD rfl (fun h => ?_) (fun h => ?_) | refine D_splitD rfl (fun h => ?_) (fun h => ?_) | refine G_split rfl (fun h => ?_) (fun h => ?_) | refine D_split rfl (fun h => ?_) (fun h => ?_) | refine G_condD rfl (fun h => ?_) (fun h => ?_) | refine G_condN rfl (fun h => ?_) (fun h => ?_) | refine G_cond rfl (fun h => ?_) (fun h => ?_) | refine G_ret (G_leave ?_))
  · obtain ⟨s, hs, hd⟩ := drop_get (xs := xs) (i := i) (by simp at *; omega)
    cases q with
    | none => cases h
    | some l =>
    have hl2 := h2 l rfl
    repeat' (first | refine G_ops Kx_ok 6 rfl ?_ | refine G_op Kx_ok rfl ?_ | refine G_nil ?_ | refine G_seq ?_ | refine G_region rfl ?_ | refine G_skip ?_ | refine G_block ?_ | refine G_drawn Kx_mixed rfl ?_ | refine D_ops Kx_ok 6 rfl ?_ | refine D_op Kx_ok rfl ?_ | refine D_nil rfl ?_ | refine G_cond_t rfl ?_ | refine G_cond_f rfl ?_ | refine G_exit ?_ | (refine G_index_lst Kx_ok rfl rfl rfl rfl rfl (map_get (x := s) (by simpa using hs)) (by omega) rfl rfl rfl ?_) | (refine D_index_lst Kx_ok _ rfl rfl rfl rfl rfl rfl (map_get (x := s) (by simpa using hs)) (by omega) rfl rfl rfl rfl ?_) | refine G_callP rfl rfl rfl rfl ((c_ref15_Put l s (by omega)).eq (optR_eq _)) rfl rfl rfl ?_ | refine D_call rfl rfl rfl rfl rfl ((c_ref15_Put l s (by omega)).eq (optR_eq _)) rfl rfl rfl rfl ?_ | refine G_splitD rfl (fun h => ?_) (fun h => ?_) | refine D_splitD rfl (fun h => ?_) (fun h => ?_) | refine G_split rfl (fun h => ?_) (fun h => ?_) | refine D_split rfl (fun h => ?_) (fun h => ?_) | refine G_condD rfl (fun h => ?_) (fun h => ?_) | refine G_condN rfl (fun h => ?_) (fun h => ?_) | refine G_cond rfl (fun h => ?_) (fun h => ?_) | refine G_ret (G_leave ?_))
    refine G_nextF (i + 1, rput l s) ⟨by simp at *; omega, fun l' h' => rput_len h', ?_⟩ (by simp at *; omega) (G_atE (by repeat' (first | exact trivial | refine ⟨rfl, ?_⟩ | refine ⟨iv (by first | rfl | omega | (rw [w64 (by omega) (by omega)]; omega)), ?_⟩)))
    rw [← h3, hd]; rfl
  · refine G_return Kx_ok rfl ?_
    cases q with
    | some l => exact absurd rfl h
    | none => rw [← h3, stepR_none]; rfl
  · refine G_return Kx_ok rfl ?_
    rw [← h3, List.drop_eq_nil_of_le (by simp at *; omega)]; rfl
end Go.Proofs.YtmdbpbncdkdipaaDoor
namespace Go.Proofs.YtmdbpbncdkdipaaDoor
open Go.Asl
set_option maxRecDepth 100000
set_option maxHeartbeats 4000000
attribute [local irreducible] Go.Asl.wpG Go.Code.wpIn Go.Asl.DrawG Go.Asl.LvX Go.Asl.G

/-- A span behind the others, or grown into the last one. -/
def extS (xs : List Spn) (s : Spn) : List Spn := match xs.getLast? with
  | some l => if l.o = s.o then xs.dropLast ++ [⟨l.f, s.t, l.o⟩] else xs ++ [s]
  | none => xs ++ [s]

theorem c_tl_add1 (acc : List Spn) (i : Nat) (x s : Spn) (hx : acc[i]? = some x) : FnS Kx 79 [.eptr 0 3 i 0, spA s] [(0, ownO acc)] (.bool (decide (x.o = s.o))) [(0, ownO (if x.o = s.o then acc.set i ⟨x.f, s.t, x.o⟩ else acc))] := by
  refine FnT_of_body ent79 Tryd.func79 rfl Tryd.ntmps79 rfl (fun C0 hC0 => ?_)
  repeat' (first | refine G_ops Kx_ok 6 rfl ?_ | refine G_op Kx_ok rfl ?_ | refine G_nil ?_ | refine G_seq ?_ | refine G_region rfl ?_ | refine G_skip ?_ | refine G_block ?_ | refine G_drawn Kx_mixed rfl ?_ | refine D_ops Kx_ok 6 rfl ?_ | refine D_op Kx_ok rfl ?_ | refine D_nil rfl ?_ | refine G_cond_t rfl ?_ | refine G_cond_f rfl ?_ | refine G_exit ?_ | refine G_load_elem Kx_ok rfl rfl rfl rfl (map_get (x := x) hx) rfl rfl rfl rfl ?_ | refine D_load_elem Kx_ok rfl rfl rfl rfl rfl (map_get (x := x) hx) rfl rfl rfl rfl rfl ?_ | refine G_store_elem Kx_ok rfl rfl rfl rfl (map_get (x := x) hx) rfl rfl rfl rfl rfl rfl ?_ | refine D_store_elem Kx_ok rfl rfl rfl rfl rfl (map_get (x := x) hx) rfl rfl rfl rfl rfl rfl rfl ?_ | refine G_splitD rfl (fun h => ?_) (fun h => ?_) | refine D_splitD rfl (fun h => ?_) (fun h => ?_) | ((fail_if_success refine G_isL rfl rfl ?_); refine G_split rfl (fun h => ?_) (fun h => ?_)) | ((fail_if_success refine D_isL rfl rfl ?_); refine D_split rfl (fun h => ?_) (fun h => ?_)) | refine G_condD rfl (fun h => ?_) (fun h => ?_) | refine G_condN rfl (fun h => ?_) (fun h => ?_) | refine G_cond rfl (fun h => ?_) (fun h => ?_) | refine G_ret (G_leave ?_))
  · refine G_arr (t := 0) (ys' := (acc.set i ⟨x.f, s.t, x.o⟩).map spA) rfl (map_set acc i ⟨x.f, s.t, x.o⟩) ?_
    refine G_wk [(4, .bool (decide (x.o = s.o)))] [(0, ownO (acc.set i ⟨x.f, s.t, x.o⟩))] hC0 rfl rfl (by repeat' (first | exact trivial | refine ⟨⟨rfl, rfl⟩, ?_⟩ | refine ⟨⟨iv (by first | rfl | omega | (rw [w64 (by omega) (by omega)]; omega)), rfl⟩, ?_⟩)) (by repeat' (first | exact trivial | refine ⟨.inl rfl, ?_⟩ | refine ⟨.inr ⟨rfl, rfl⟩, ?_⟩ | refine ⟨.inr ⟨arrE (by first | rfl | (rw [List.map_append]; rfl)), rfl⟩, ?_⟩)) (by repeat' (first | exact trivial | refine ⟨⟨rfl, rfl⟩, ?_⟩)) ?_
    refine G_return Kx_ok rfl ⟨rfl, ?_⟩
    rw [if_pos h]
  · refine G_wk [(4, .bool (decide (x.o = s.o)))] [(0, ownO acc)] hC0 rfl rfl (by repeat' (first | exact trivial | refine ⟨⟨rfl, rfl⟩, ?_⟩ | refine ⟨⟨iv (by first | rfl | omega | (rw [w64 (by omega) (by omega)]; omega)), rfl⟩, ?_⟩)) (by repeat' (first | exact trivial | refine ⟨.inl rfl, ?_⟩ | refine ⟨.inr ⟨rfl, rfl⟩, ?_⟩ | refine ⟨.inr ⟨arrE (by first | rfl | (rw [List.map_append]; rfl)), rfl⟩, ?_⟩)) (by repeat' (first | exact trivial | refine ⟨⟨rfl, rfl⟩, ?_⟩)) ?_
    refine G_return Kx_ok rfl ⟨rfl, ?_⟩
    rw [if_neg h]
end Go.Proofs.YtmdbpbncdkdipaaDoor
namespace Go.Proofs.YtmdbpbncdkdipaaDoor
open Go.Asl
set_option maxRecDepth 100000
set_option maxHeartbeats 4000000
attribute [local irreducible] Go.Asl.wpG Go.Code.wpIn Go.Asl.DrawG Go.Asl.LvX Go.Asl.G
theorem c_tl_ext (acc : List Spn) (s : Spn) (hl : acc.length ≤ 1000000000) : FnS Kx 78 [.own 0, spA s, .fn 79 [] []] [(0, ownO acc)] (.own 1) [(1, ownO (extS acc s)), (0, .dead)] := by
  refine FnT_of_body ent78 Tryd.func78 rfl Tryd.ntmps78 rfl (fun C0 hC0 => ?_)
  repeat' (first | refine G_ops Kx_ok 6 rfl ?_ | refine G_op Kx_ok rfl ?_ | refine G_nil ?_ | refine G_seq ?_ | refine G_region rfl ?_ | refine G_skip ?_ | refine G_block ?_ | refine G_drawn Kx_mixed rfl ?_ | refine D_ops Kx_ok 6 rfl ?_ | refine D_op Kx_ok rfl ?_ | refine D_nil rfl ?_ | refine G_cond_t rfl ?_ | refine G_cond_f rfl ?_ | refine G_exit ?_ | refine G_splitD rfl (fun h => ?_) (fun h => ?_) | refine D_splitD rfl (fun h => ?_) (fun h => ?_) | ((fail_if_success refine G_isL rfl rfl ?_); refine G_split rfl (fun h => ?_) (fun h => ?_)) | ((fail_if_success refine D_isL rfl rfl ?_); refine D_split rfl (fun h => ?_) (fun h => ?_)) | refine G_condD rfl (fun h => ?_) (fun h => ?_) | refine G_condN rfl (fun h => ?_) (fun h => ?_) | refine G_cond rfl (fun h => ?_) (fun h => ?_) | refine G_ret (G_leave ?_))
  · have hpos : 0 < acc.length := by simp at * <;> omega
    have hne : acc ≠ [] := List.length_pos_iff.1 hpos
    obtain ⟨l, hget⟩ : ∃ l, acc[acc.length - 1]? = some l := ⟨acc[acc.length - 1], List.getElem?_eq_getElem (by omega)⟩
    have hgl : acc.getLast? = some l := by rw [List.getLast?_eq_getElem?]; exact hget
    refine D_int (t := 16) (b := ((acc.length - 1 : Nat) : Int)) rfl (by rw [w64] <;> simp <;> omega) ?_
    repeat' (first | refine G_ops Kx_ok 6 rfl ?_ | refine G_op Kx_ok rfl ?_ | refine G_nil ?_ | refine G_seq ?_ | refine G_region rfl ?_ | refine G_skip ?_ | refine G_block ?_ | refine G_drawn Kx_mixed rfl ?_ | refine D_ops Kx_ok 6 rfl ?_ | refine D_op Kx_ok rfl ?_ | refine D_nil rfl ?_ | refine G_cond_t rfl ?_ | refine G_cond_f rfl ?_ | refine G_exit ?_ | refine G_index_own Kx_ok rfl rfl rfl rfl rfl rfl rfl (by omega) (by simp at * <;> omega) rfl ?_ | refine D_index_own Kx_ok rfl rfl rfl rfl rfl rfl rfl rfl (by omega) (by simp at * <;> omega) rfl rfl ?_ | refine G_callA (c_tl_add1 acc (acc.length - 1) l s (by simpa using hget)) rfl rfl rfl rfl rfl rfl (by repeat' (first | exact trivial | refine ⟨⟨rfl, rfl, rfl⟩, ?_⟩)) rfl (by repeat' (first | exact trivial | refine ⟨.inl rfl, ?_⟩ | refine ⟨.inr rfl, ?_⟩)) rfl rfl rfl rfl rfl ?_ | refine D_callA (c_tl_add1 acc (acc.length - 1) l s (by simpa using hget)) rfl rfl rfl rfl rfl rfl rfl (by repeat' (first | exact trivial | refine ⟨⟨rfl, rfl, rfl⟩, ?_⟩)) rfl (by repeat' (first | exact trivial | refine ⟨.inl rfl, ?_⟩ | refine ⟨.inr rfl, ?_⟩)) rfl rfl rfl rfl rfl rfl ?_ | refine G_splitD rfl (fun h => ?_) (fun h => ?_) | refine D_splitD rfl (fun h => ?_) (fun h => ?_) | ((fail_if_success refine G_isL rfl rfl ?_); refine G_split rfl (fun h => ?_) (fun h => ?_)) | ((fail_if_success refine D_isL rfl rfl ?_); refine D_split rfl (fun h => ?_) (fun h => ?_)) | refine G_condD rfl (fun h => ?_) (fun h => ?_) | refine G_condN rfl (fun h => ?_) (fun h => ?_) | refine G_cond rfl (fun h => ?_) (fun h => ?_) | refine G_ret (G_leave ?_))
    · refine G_wk [(6, .own 1)] [(1, ownO (if l.o = s.o then acc.set (acc.length - 1) ⟨l.f, s.t, l.o⟩ else acc)), (0, .dead)] hC0 rfl rfl (by repeat' (first | exact trivial | refine ⟨⟨rfl, rfl⟩, ?_⟩ | refine ⟨⟨iv (by first | rfl | omega | (rw [w64 (by omega) (by omega)]; omega)), rfl⟩, ?_⟩)) (by repeat' (first | exact trivial | refine ⟨.inl rfl, ?_⟩ | refine ⟨.inr ⟨rfl, rfl⟩, ?_⟩ | refine ⟨.inr ⟨arrE (by first | rfl | (rw [List.map_append]; rfl)), rfl⟩, ?_⟩)) (by repeat' (first | exact trivial | refine ⟨⟨rfl, rfl⟩, ?_⟩)) ?_
      refine G_return Kx_ok rfl ⟨rfl, ?_⟩
      simp only [extS, hgl]
      rw [if_pos h, if_pos h, last_set _ _ hne]
    · rw [if_neg h]
      repeat' (first | refine G_ops Kx_ok 6 rfl ?_ | refine G_op Kx_ok rfl ?_ | refine G_nil ?_ | refine G_seq ?_ | refine G_region rfl ?_ | refine G_skip ?_ | refine G_block ?_ | refine G_drawn Kx_mixed rfl ?_ | refine D_ops Kx_ok 6 rfl ?_ | refine D_op Kx_ok rfl ?_ | refine D_nil rfl ?_ | refine G_cond_t rfl ?_ | refine G_cond_f rfl ?_ | refine G_exit ?_ | refine G_appA Kx_ok rfl rfl rfl rfl rfl rfl rfl rfl rfl (fun zs e => by cases e) rfl (by simp at * <;> omega) rfl rfl rfl ?_ | refine D_appA Kx_ok rfl rfl rfl rfl rfl rfl rfl rfl rfl rfl (fun zs e => by cases e) rfl (by simp at * <;> omega) rfl rfl rfl rfl ?_ | refine G_appN Kx_ok rfl rfl rfl rfl rfl rfl rfl rfl (fun zs e => by cases e) rfl (by simp at * <;> omega) rfl rfl rfl ?_ | refine D_appN Kx_ok rfl rfl rfl rfl rfl rfl rfl rfl rfl (fun zs e => by cases e) rfl (by simp at * <;> omega) rfl rfl rfl rfl ?_ | refine G_splitD rfl (fun h => ?_) (fun h => ?_) | refine D_splitD rfl (fun h => ?_) (fun h => ?_) | ((fail_if_success refine G_isL rfl rfl ?_); refine G_split rfl (fun h => ?_) (fun h => ?_)) | ((fail_if_success refine D_isL rfl rfl ?_); refine D_split rfl (fun h => ?_) (fun h => ?_)) | refine G_condD rfl (fun h => ?_) (fun h => ?_) | refine G_condN rfl (fun h => ?_) (fun h => ?_) | refine G_cond rfl (fun h => ?_) (fun h => ?_) | refine G_ret (G_leave ?_))
      refine G_wk [(6, .own 1)] [(1, ownO (acc ++ [s])), (0, .dead)] hC0 rfl rfl (by repeat' (first | exact trivial | refine ⟨⟨rfl, rfl⟩, ?_⟩ | refine ⟨⟨iv (by first | rfl | omega | (rw [w64 (by omega) (by omega)]; omega)), rfl⟩, ?_⟩)) (by repeat' (first | exact trivial | refine ⟨.inl rfl, ?_⟩ | refine ⟨.inr ⟨rfl, rfl⟩, ?_⟩ | refine ⟨.inr ⟨arrE (by first | rfl | (rw [List.map_append]; rfl)), rfl⟩, ?_⟩)) (by repeat' (first | exact trivial | refine ⟨⟨rfl, rfl⟩, ?_⟩)) ?_
      refine G_return Kx_ok rfl ⟨rfl, ?_⟩
      simp only [extS, hgl]
      rw [if_neg h]
  · have hne : acc = [] := by cases acc with
      | nil => rfl
      | cons a r => exfalso; simp at * <;> omega
    subst hne
    repeat' (first | refine G_ops Kx_ok 6 rfl ?_ | refine G_op Kx_ok rfl ?_ | refine G_nil ?_ | refine G_seq ?_ | refine G_region rfl ?_ | refine G_skip ?_ | refine G_block ?_ | refine G_drawn Kx_mixed rfl ?_ | refine D_ops Kx_ok 6 rfl ?_ | refine D_op Kx_ok rfl ?_ | refine D_nil rfl ?_ | refine G_cond_t rfl ?_ | refine G_cond_f rfl ?_ | refine G_exit ?_ | refine G_appA Kx_ok rfl rfl rfl rfl rfl rfl rfl rfl rfl (fun zs e => by cases e) rfl (by simp at * <;> omega) rfl rfl rfl ?_ | refine D_appA Kx_ok rfl rfl rfl rfl rfl rfl rfl rfl rfl rfl (fun zs e => by cases e) rfl (by simp at * <;> omega) rfl rfl rfl rfl ?_ | refine G_appN Kx_ok rfl rfl rfl rfl rfl rfl rfl rfl (fun zs e => by cases e) rfl (by simp at * <;> omega) rfl rfl rfl ?_ | refine D_appN Kx_ok rfl rfl rfl rfl rfl rfl rfl rfl rfl (fun zs e => by cases e) rfl (by simp at * <;> omega) rfl rfl rfl rfl ?_ | refine G_splitD rfl (fun h => ?_) (fun h => ?_) | refine D_splitD rfl (fun h => ?_) (fun h => ?_) | ((fail_if_success refine G_isL rfl rfl ?_); refine G_split rfl (fun h => ?_) (fun h => ?_)) | ((fail_if_success refine D_isL rfl rfl ?_); refine D_split rfl (fun h => ?_) (fun h => ?_)) | refine G_condD rfl (fun h => ?_) (fun h => ?_) | refine G_condN rfl (fun h => ?_) (fun h => ?_) | refine G_cond rfl (fun h => ?_) (fun h => ?_) | refine G_ret (G_leave ?_))
    refine G_wk [(6, .own 1)] [(1, ownO ([] ++ [s])), (0, .dead)] hC0 rfl rfl (by repeat' (first | exact trivial | refine ⟨⟨rfl, rfl⟩, ?_⟩ | refine ⟨⟨iv (by first | rfl | omega | (rw [w64 (by omega) (by omega)]; omega)), rfl⟩, ?_⟩)) (by repeat' (first | exact trivial | refine ⟨.inl rfl, ?_⟩ | refine ⟨.inr ⟨rfl, rfl⟩, ?_⟩ | refine ⟨.inr ⟨arrE (by first | rfl | (rw [List.map_append]; rfl)), rfl⟩, ?_⟩)) (by repeat' (first | exact trivial | refine ⟨⟨rfl, rfl⟩, ?_⟩)) ?_
    exact G_return Kx_ok rfl ⟨rfl, rfl⟩
end Go.Proofs.YtmdbpbncdkdipaaDoor
namespace Go.Proofs.YtmdbpbncdkdipaaDoor
open Go.Asl
set_option maxRecDepth 100000
set_option maxHeartbeats 4000000
attribute [local irreducible] Go.Asl.wpG Go.Code.wpIn Go.Asl.DrawG Go.Asl.LvX Go.Asl.G
theorem c_tl_add (acc : List Spn) (s : Spn) (hl : acc.length ≤ 1000000000) : FnS Kx 65 [.ptr 0 0, spA s] [(0, .box [.own 1]), (1, ownO acc)] (.tup []) [(0, .box [.own 2]), (1, .dead), (2, ownO (extS acc s))] := by
  refine FnT_of_body ent65 Tryd.func65 rfl Tryd.ntmps65 rfl (fun C0 hC0 => ?_)
  repeat' (first | refine G_ops Kx_ok 6 rfl ?_ | refine G_op Kx_ok rfl ?_ | refine G_run rfl rfl rfl ?_ | refine G_nil ?_ | refine G_seq ?_ | refine G_region rfl ?_ | refine G_skip ?_ | refine G_block ?_ | refine G_drawn Kx_mixed rfl ?_ | refine D_ops Kx_ok 6 rfl ?_ | refine D_op Kx_ok rfl ?_ | refine D_nil rfl ?_ | refine G_cond_t rfl ?_ | refine G_cond_f rfl ?_ | refine G_exit ?_ | refine G_callA (c_tl_ext acc s hl) rfl rfl rfl rfl rfl rfl (by repeat' (first | exact trivial | refine ⟨⟨rfl, rfl, rfl⟩, ?_⟩)) rfl (by repeat' (first | exact trivial | refine ⟨.inl rfl, ?_⟩ | refine ⟨.inr rfl, ?_⟩)) rfl rfl rfl rfl rfl ?_ | refine D_callA (c_tl_ext acc s hl) rfl rfl rfl rfl rfl rfl rfl (by repeat' (first | exact trivial | refine ⟨⟨rfl, rfl, rfl⟩, ?_⟩)) rfl (by repeat' (first | exact trivial | refine ⟨.inl rfl, ?_⟩ | refine ⟨.inr rfl, ?_⟩)) rfl rfl rfl rfl rfl rfl ?_ | refine G_splitD rfl (fun h => ?_) (fun h => ?_) | refine D_splitD rfl (fun h => ?_) (fun h => ?_) | ((fail_if_success refine G_isL rfl rfl ?_); refine G_split rfl (fun h => ?_) (fun h => ?_)) | ((fail_if_success refine D_isL rfl rfl ?_); refine D_split rfl (fun h => ?_) (fun h => ?_)) | refine G_condD rfl (fun h => ?_) (fun h => ?_) | refine G_condN rfl (fun h => ?_) (fun h => ?_) | refine G_cond rfl (fun h => ?_) (fun h => ?_) | refine G_ret (G_leave ?_) | refine G_leave_end ?_)
  refine G_wk [] [(0, .box [.own 2]), (1, .dead), (2, ownO (extS acc s))] hC0 rfl rfl (by repeat' (first | exact trivial | refine ⟨⟨rfl, rfl⟩, ?_⟩ | refine ⟨⟨iv (by first | rfl | omega | (rw [w64 (by omega) (by omega)]; omega)), rfl⟩, ?_⟩)) (by repeat' (first | exact trivial | refine ⟨.inl rfl, ?_⟩ | refine ⟨.inr ⟨rfl, rfl⟩, ?_⟩ | refine ⟨.inr ⟨arrE (by first | rfl | (rw [List.map_append]; rfl)), rfl⟩, ?_⟩)) (by repeat' (first | exact trivial | refine ⟨⟨rfl, rfl⟩, ?_⟩)) ?_
  exact G_return Kx_ok rfl ⟨rfl, rfl⟩
theorem c_tl_done (acc : List Spn) (hl : acc.length ≤ 200) : FnS Kx 67 [.ptr 0 0] [(0, .box [.own 1]), (1, ownO acc)] (.tup [.own 1, .int .i64 0]) [(0, .box [.own 1]), (1, ownO acc)] := by
  refine FnT_of_body ent67 Tryd.func67 rfl Tryd.ntmps67 rfl (fun C0 hC0 => ?_)
  repeat' (first | refine G_ops Kx_ok 6 rfl ?_ | refine G_op Kx_ok rfl ?_ | refine G_run rfl rfl rfl ?_ | refine G_nil ?_ | refine G_seq ?_ | refine G_region rfl ?_ | refine G_skip ?_ | refine G_block ?_ | refine G_drawn Kx_mixed rfl ?_ | refine D_ops Kx_ok 6 rfl ?_ | refine D_op Kx_ok rfl ?_ | refine D_nil rfl ?_ | refine G_cond_t rfl ?_ | refine G_cond_f rfl ?_ | refine G_exit ?_ | refine G_splitD rfl (fun h => ?_) (fun h => ?_) | refine D_splitD rfl (fun h => ?_) (fun h => ?_) | ((fail_if_success refine G_isL rfl rfl ?_); refine G_split rfl (fun h => ?_) (fun h => ?_)) | ((fail_if_success refine D_isL rfl rfl ?_); refine D_split rfl (fun h => ?_) (fun h => ?_)) | refine G_condD rfl (fun h => ?_) (fun h => ?_) | refine G_condN rfl (fun h => ?_) (fun h => ?_) | refine G_cond rfl (fun h => ?_) (fun h => ?_) | refine G_ret (G_leave ?_))
  · exfalso; simp at * <;> omega
  · exact G_return Kx_ok rfl ⟨rfl, rfl⟩
theorem c_tl_doneE (acc : List Spn) (hl : 200 < acc.length) : FnS Kx 67 [.ptr 0 0] [(0, .box [.own 1]), (1, ownO acc)] (.tup [.nils, .int .i64 150]) [(0, .box [.own 1]), (1, ownO acc)] := by
  refine FnT_of_body ent67 Tryd.func67 rfl Tryd.ntmps67 rfl (fun C0 hC0 => ?_)
  repeat' (first | refine G_ops Kx_ok 6 rfl ?_ | refine G_op Kx_ok rfl ?_ | refine G_run rfl rfl rfl ?_ | refine G_nil ?_ | refine G_seq ?_ | refine G_region rfl ?_ | refine G_skip ?_ | refine G_block ?_ | refine G_drawn Kx_mixed rfl ?_ | refine D_ops Kx_ok 6 rfl ?_ | refine D_op Kx_ok rfl ?_ | refine D_nil rfl ?_ | refine G_cond_t rfl ?_ | refine G_cond_f rfl ?_ | refine G_exit ?_ | refine G_splitD rfl (fun h => ?_) (fun h => ?_) | refine D_splitD rfl (fun h => ?_) (fun h => ?_) | ((fail_if_success refine G_isL rfl rfl ?_); refine G_split rfl (fun h => ?_) (fun h => ?_)) | ((fail_if_success refine D_isL rfl rfl ?_); refine D_split rfl (fun h => ?_) (fun h => ?_)) | refine G_condD rfl (fun h => ?_) (fun h => ?_) | refine G_condN rfl (fun h => ?_) (fun h => ?_) | refine G_cond rfl (fun h => ?_) (fun h => ?_) | refine G_ret (G_leave ?_))
  · exact G_return Kx_ok rfl ⟨rfl, rfl⟩
  · exfalso; simp at * <;> omega
/-- The closure that 'within' hands back. -/
def wFn (xs : List Spn) (a b : Int) : AV := .fn 77 [] [.rptr (.agg [spL xs]) 0, .rptr (.agg [.int .i64 a]) 0, .rptr (.agg [.int .i64 b]) 0]
theorem c_tl_within (xs : List Spn) (a b : Int) : FnP Kx 61 [spL xs, .int .i64 a, .int .i64 b] (wFn xs a b) := by
  refine FnT_of_body ent61 Tryd.func61 rfl Tryd.ntmps61 rfl (fun C0 hC0 => ?_)
  repeat' (first | refine G_ops Kx_ok 6 rfl ?_ | refine G_op Kx_ok rfl ?_ | refine G_run rfl rfl rfl ?_ | refine G_nil ?_ | refine G_seq ?_ | refine G_region rfl ?_ | refine G_skip ?_ | refine G_block ?_ | refine G_drawn Kx_mixed rfl ?_ | refine D_ops Kx_ok 6 rfl ?_ | refine D_op Kx_ok rfl ?_ | refine D_nil rfl ?_ | refine G_cond_t rfl ?_ | refine G_cond_f rfl ?_ | refine G_exit ?_ | refine G_splitD rfl (fun h => ?_) (fun h => ?_) | refine D_splitD rfl (fun h => ?_) (fun h => ?_) | ((fail_if_success refine G_isL rfl rfl ?_); refine G_split rfl (fun h => ?_) (fun h => ?_)) | ((fail_if_success refine D_isL rfl rfl ?_); refine D_split rfl (fun h => ?_) (fun h => ?_)) | refine G_condD rfl (fun h => ?_) (fun h => ?_) | refine G_condN rfl (fun h => ?_) (fun h => ?_) | refine G_cond rfl (fun h => ?_) (fun h => ?_) | refine G_ret (G_leave ?_))
  refine G_freeze_box (m := 0) 6 rfl rfl rfl ?_
  refine G_freeze_box (m := 1) 6 rfl rfl rfl ?_
  refine G_freeze_box (m := 2) 6 rfl rfl rfl ?_
  exact G_return Kx_ok rfl rfl
def cutW (a b : Int) (s : Spn) : Spn := ⟨if s.f < a then a else s.f, if b < s.t then b else s.t, s.o⟩
def stepW (a b : Int) (acc : List Spn) (s : Spn) : List Spn := if (cutW a b s).f < (cutW a b s).t then extS acc (cutW a b s) else acc
theorem extS_len (xs : List Spn) (s : Spn) : (extS xs s).length ≤ xs.length + 1 := by
  unfold extS
  split
  · split
    · simp
    · simp
  · simp
theorem stepW_len (a b : Int) (acc : List Spn) (s : Spn) : (stepW a b acc s).length ≤ acc.length + 1 := by
  unfold stepW
  split
  · exact extS_len _ _
  · omega

set_option linter.unusedVariables false in
theorem c_tl_within1 (xs : List Spn) (a b : Int) (acc : List Spn) {No : Nat} {ps : Array Tmp} {asg bdy : Code} (hl : acc.length + xs.length ≤ 1000000000)
    (hy : ∀ acc' s, acc'.length ≤ 1000000000 → YldT Kx 3 [spA s] [(3, .loop [(5, wFn xs a b), (3, .ptr 2 0)] No ps asg bdy .ready none), (2, .box [.fn 65 [.ptr 0 0] []]), (0, .box [.own 4]), (1, .dead), (4, ownO acc')] (fun v M => v = .bool true ∧ M = [(3, .loop [(5, wFn xs a b), (3, .ptr 2 0)] No ps asg bdy .ready none), (2, .box [.fn 65 [.ptr 0 0] []]), (0, .box [.own 5]), (1, .dead), (4, .dead), (5, ownO (extS acc' s))])) :
    FnT Kx 77 [.yld 3, .rptr (.agg [spL xs]) 0, .rptr (.agg [.int .i64 a]) 0, .rptr (.agg [.int .i64 b]) 0] [(3, .loop [(5, wFn xs a b), (3, .ptr 2 0)] No ps asg bdy .ready none), (2, .box [.fn 65 [.ptr 0 0] []]), (0, .box [.own 1]), (1, ownO acc)]
      (fun _ M => M = [(3, .loop [(5, wFn xs a b), (3, .ptr 2 0)] No ps asg bdy .ready none), (2, .box [.fn 65 [.ptr 0 0] []]), (0, .box [.own 4]), (1, .dead), (4, ownO (xs.foldl (stepW a b) acc))]) := by
  refine FnT_of_body ent77 Tryd.func77 rfl Tryd.ntmps77 rfl (fun C0 hC0 => ?_)
  repeat' (first | refine G_ops Kx_ok 6 rfl ?_ | refine G_op Kx_ok rfl ?_ | refine G_run rfl rfl rfl ?_ | refine G_nil ?_ | refine G_seq ?_ | refine G_region rfl ?_ | refine G_skip ?_ | refine G_block ?_ | refine G_drawn Kx_mixed rfl ?_ | refine D_ops Kx_ok 6 rfl ?_ | refine D_op Kx_ok rfl ?_ | refine D_nil rfl ?_ | refine G_cond_t rfl ?_ | refine G_cond_f rfl ?_ | refine G_exit ?_ | refine G_splitD rfl (fun h => ?_) (fun h => ?_) | refine D_splitD rfl (fun h => ?_) (fun h => ?_) | ((fail_if_success refine G_isL rfl rfl ?_); refine G_split rfl (fun h => ?_) (fun h => ?_)) | ((fail_if_success refine D_isL rfl rfl ?_); refine D_split rfl (fun h => ?_) (fun h => ?_)) | refine G_condD rfl (fun h => ?_) (fun h => ?_) | refine G_condN rfl (fun h => ?_) (fun h => ?_) | refine G_cond rfl (fun h => ?_) (fun h => ?_) | refine G_ret (G_leave ?_))
  refine G_loopF (fun (p : Nat × List Spn) => [(9, .int .i64 p.1)]) (fun p => [(3, .loop [(5, wFn xs a b), (3, .ptr 2 0)] No ps asg bdy .ready none), (2, .box [.fn 65 [.ptr 0 0] []]), (0, .box [.own 4]), (1, .dead), (4, ownO p.2)])
    (fun p => p.1 ≤ xs.length ∧ p.2.length + (xs.length - p.1) ≤ 1000000000 ∧ (xs.drop p.1).foldl (stepW a b) p.2 = xs.foldl (stepW a b) acc) (fun p => xs.length - p.1) (0, acc) rfl ⟨by simp, by simp at * <;> omega, rfl⟩ (G_atL hC0 rfl rfl (by repeat' (first | exact trivial | refine ⟨⟨rfl, rfl⟩, ?_⟩ | refine ⟨⟨iv (by first | rfl | omega | (rw [w64 (by omega) (by omega)]; omega)), rfl⟩, ?_⟩)) (by repeat' (first | exact trivial | refine ⟨.inl rfl, ?_⟩ | refine ⟨.inr ⟨rfl, rfl⟩, ?_⟩ | refine ⟨.inr ⟨arrE (by first | rfl | (rw [List.map_append]; rfl)), rfl⟩, ?_⟩)) (by repeat' (first | exact trivial | refine ⟨⟨rfl, rfl⟩, ?_⟩))) ?_
  rintro ⟨i, q⟩ ⟨h1, h2, h3⟩
  dsimp only [List.cons_append, List.nil_append] at *
  repeat' (first | refine G_ops Kx_ok 6 rfl ?_ | refine G_op Kx_ok rfl ?_ | refine G_run rfl rfl rfl ?_ | refine G_nil ?_ | refine G_seq ?_ | refine G_region rfl ?_ | refine G_skip ?_ | refine G_block ?_ | refine G_drawn Kx_mixed rfl ?_ | refine D_ops Kx_ok 6 rfl ?_ | refine D_op Kx_ok rfl ?_ | refine D_nil rfl ?_ | refine G_cond_t rfl ?_ | refine G_cond_f rfl ?_ | refine G_exit ?_ | refine G_splitD rfl (fun h => ?_) (fun h => ?_) | refine D_splitD rfl (fun h => ?_) (fun h => ?_) | ((fail_if_success refine G_isL rfl rfl ?_); refine G_split rfl (fun h => ?_) (fun h => ?_)) | ((fail_if_success refine D_isL rfl rfl ?_); refine D_split rfl (fun h => ?_) (fun h => ?_)) | refine G_condD rfl (fun h => ?_) (fun h => ?_) | refine G_condN rfl (fun h => ?_) (fun h => ?_) | refine G_cond rfl (fun h => ?_) (fun h => ?_) | refine G_ret (G_leave ?_))
  · obtain ⟨s, hs, hd⟩ := drop_get (xs := xs) (i := i) (by simp at * <;> omega)
    repeat' (first | refine G_ops Kx_ok 6 rfl ?_ | refine G_op Kx_ok rfl ?_ | refine G_run rfl rfl rfl ?_ | refine G_nil ?_ | refine G_seq ?_ | refine G_region rfl ?_ | refine G_skip ?_ | refine G_block ?_ | refine G_drawn Kx_mixed rfl ?_ | refine D_ops Kx_ok 6 rfl ?_ | refine D_op Kx_ok rfl ?_ | refine D_nil rfl ?_ | refine G_cond_t rfl ?_ | refine G_cond_f rfl ?_ | refine G_exit ?_ | (refine G_index_lst Kx_ok rfl rfl rfl rfl rfl (map_get (x := s) (by simpa using hs)) (by omega) rfl rfl rfl ?_) | (refine D_index_lst Kx_ok _ rfl rfl rfl rfl rfl rfl (map_get (x := s) (by simpa using hs)) (by omega) rfl rfl rfl rfl ?_) | refine G_splitD rfl (fun h => ?_) (fun h => ?_) | refine D_splitD rfl (fun h => ?_) (fun h => ?_) | ((fail_if_success refine G_isL rfl rfl ?_); refine G_split rfl (fun h => ?_) (fun h => ?_)) | ((fail_if_success refine D_isL rfl rfl ?_); refine D_split rfl (fun h => ?_) (fun h => ?_)) | refine G_condD rfl (fun h => ?_) (fun h => ?_) | refine G_condN rfl (fun h => ?_) (fun h => ?_) | refine G_cond rfl (fun h => ?_) (fun h => ?_) | refine G_ret (G_leave ?_))
    · refine G_wk [(0, .yld 3), (1, .rptr (.agg [spL xs]) 0), (2, .rptr (.agg [.int .i64 a]) 0), (3, .rptr (.agg [.int .i64 b]) 0), (7, spL xs), (8, .int .i64 (List.map spA xs).length), (9, .int .i64 i), (28, .bool true), (29, .yld 3), (30, spA (cutW a b s))] [(3, .loop [(5, wFn xs a b), (3, .ptr 2 0)] No ps asg bdy .ready none), (2, .box [.fn 65 [.ptr 0 0] []]), (0, .box [.own 4]), (1, .dead), (4, ownO q)] hC0 rfl rfl (by repeat' (first | exact trivial | refine ⟨⟨rfl, rfl⟩, ?_⟩ | refine ⟨⟨iv (by first | rfl | omega | (rw [w64 (by omega) (by omega)]; omega)), rfl⟩, ?_⟩)) (by repeat' (first | exact trivial | refine ⟨.inl rfl, ?_⟩ | refine ⟨.inr ⟨rfl, rfl⟩, ?_⟩ | refine ⟨.inr ⟨arrE (by first | rfl | (rw [List.map_append]; rfl)), rfl⟩, ?_⟩)) (by repeat' (first | exact trivial | refine ⟨⟨rfl, rfl⟩, ?_⟩)) ?_
      refine G_yield rfl rfl rfl rfl ((hy q (cutW a b s) (by omega)).mono fun v M hh => ?_)
      obtain ⟨rfl, rfl⟩ := hh
      refine ⟨_, rfl, ?_⟩
      repeat' (first | refine G_ops Kx_ok 6 rfl ?_ | refine G_op Kx_ok rfl ?_ | refine G_run rfl rfl rfl ?_ | refine G_nil ?_ | refine G_seq ?_ | refine G_region rfl ?_ | refine G_skip ?_ | refine G_block ?_ | refine G_drawn Kx_mixed rfl ?_ | refine D_ops Kx_ok 6 rfl ?_ | refine D_op Kx_ok rfl ?_ | refine D_nil rfl ?_ | refine G_cond_t rfl ?_ | refine G_cond_f rfl ?_ | refine G_exit ?_ | refine G_splitD rfl (fun h => ?_) (fun h => ?_) | refine D_splitD rfl (fun h => ?_) (fun h => ?_) | ((fail_if_success refine G_isL rfl rfl ?_); refine G_split rfl (fun h => ?_) (fun h => ?_)) | ((fail_if_success refine D_isL rfl rfl ?_); refine D_split rfl (fun h => ?_) (fun h => ?_)) | refine G_condD rfl (fun h => ?_) (fun h => ?_) | refine G_condN rfl (fun h => ?_) (fun h => ?_) | refine G_cond rfl (fun h => ?_) (fun h => ?_) | refine G_ret (G_leave ?_))
      refine G_nextF (i + 1, extS q (cutW a b s)) ⟨by simp at * <;> omega, ?_, ?_⟩ (by simp at * <;> omega) (G_atL hC0 rfl rfl (by repeat' (first | exact trivial | refine ⟨⟨rfl, rfl⟩, ?_⟩ | refine ⟨⟨iv (by first | rfl | omega | (rw [w64 (by omega) (by omega)]; omega)), rfl⟩, ?_⟩)) (by repeat' (first | exact trivial | refine ⟨.inl rfl, ?_⟩ | refine ⟨.inr ⟨rfl, rfl⟩, ?_⟩ | refine ⟨.inr ⟨arrE (by first | rfl | (rw [List.map_append]; rfl)), rfl⟩, ?_⟩)) (by repeat' (first | exact trivial | refine ⟨⟨rfl, rfl⟩, ?_⟩)))
      · have := extS_len q (cutW a b s); simp at * <;> omega
      · rw [← h3, hd, List.foldl_cons]
        have : stepW a b q s = extS q (cutW a b s) := if_pos h
        rw [this]
    · refine G_nextF (i + 1, q) ⟨by simp at * <;> omega, by simp at * <;> omega, ?_⟩ (by simp at * <;> omega) (G_atL hC0 rfl rfl (by repeat' (first | exact trivial | refine ⟨⟨rfl, rfl⟩, ?_⟩ | refine ⟨⟨iv (by first | rfl | omega | (rw [w64 (by omega) (by omega)]; omega)), rfl⟩, ?_⟩)) (by repeat' (first | exact trivial | refine ⟨.inl rfl, ?_⟩ | refine ⟨.inr ⟨rfl, rfl⟩, ?_⟩ | refine ⟨.inr ⟨arrE (by first | rfl | (rw [List.map_append]; rfl)), rfl⟩, ?_⟩)) (by repeat' (first | exact trivial | refine ⟨⟨rfl, rfl⟩, ?_⟩)))
      rw [← h3, hd, List.foldl_cons]
      have : stepW a b q s = q := if_neg h
      rw [this]
  · refine G_leave_end ?_
    have hi : xs.length ≤ i := by simp at * <;> omega
    rw [List.drop_eq_nil_of_le hi] at h3
    rw [← h3]
    refine G_wk [] [(3, .loop [(5, wFn xs a b), (3, .ptr 2 0)] No ps asg bdy .ready none), (2, .box [.fn 65 [.ptr 0 0] []]), (0, .box [.own 4]), (1, .dead), (4, ownO q)] hC0 rfl rfl (by repeat' (first | exact trivial | refine ⟨⟨rfl, rfl⟩, ?_⟩ | refine ⟨⟨iv (by first | rfl | omega | (rw [w64 (by omega) (by omega)]; omega)), rfl⟩, ?_⟩)) (by repeat' (first | exact trivial | refine ⟨.inl rfl, ?_⟩ | refine ⟨.inr ⟨rfl, rfl⟩, ?_⟩ | refine ⟨.inr ⟨arrE (by first | rfl | (rw [List.map_append]; rfl)), rfl⟩, ?_⟩)) (by repeat' (first | exact trivial | refine ⟨⟨rfl, rfl⟩, ?_⟩)) ?_
    exact G_return Kx_ok rfl rfl
end Go.Proofs.YtmdbpbncdkdipaaDoor
namespace Go.Proofs.YtmdbpbncdkdipaaDoor
open Go.Asl
set_option maxRecDepth 100000
set_option maxHeartbeats 4000000
attribute [local irreducible] Go.Asl.wpG Go.Code.wpIn Go.Asl.DrawG Go.Asl.LvX Go.Asl.G
def partW (xs : List Spn) (a b : Int) (acc : List Spn) : List Spn := xs.foldl (stepW a b) acc
theorem partW_len (a b : Int) : ∀ (xs acc : List Spn), (partW xs a b acc).length ≤ acc.length + xs.length
  | [], acc => by simp [partW]
  | s :: r, acc => by
    have h1 := partW_len a b r (stepW a b acc s)
    have h2 := stepW_len a b acc s
    have : partW (s :: r) a b acc = partW r a b (stepW a b acc s) := rfl
    rw [this]; simp; omega
theorem c_tl_each (xs : List Spn) (a b : Int) (acc : List Spn) (hl : acc.length + xs.length ≤ 100000000) : FnS Kx 64 [wFn xs a b, .fn 65 [.ptr 0 0] []] [(0, .box [.own 1]), (1, ownO acc)] (.tup []) [(0, .box [.own 2]), (1, .dead), (2, ownO (partW xs a b acc))] := by
  refine FnT_of_body ent64 Tryd.func64 rfl Tryd.ntmps64 rfl (fun C0 hC0 => ?_)
  repeat' (first | refine G_ops Kx_ok 6 rfl ?_ | refine G_op Kx_ok rfl ?_ | refine G_run rfl rfl rfl ?_ | refine G_nil ?_ | refine G_seq ?_ | refine G_region rfl ?_ | refine G_skip ?_ | refine G_block ?_ | refine G_drawn Kx_mixed rfl ?_ | refine D_ops Kx_ok 6 rfl ?_ | refine D_op Kx_ok rfl ?_ | refine D_nil rfl ?_ | refine G_cond_t rfl ?_ | refine G_cond_f rfl ?_ | refine G_exit ?_ | refine G_splitD rfl (fun h => ?_) (fun h => ?_) | refine D_splitD rfl (fun h => ?_) (fun h => ?_) | ((fail_if_success refine G_isL rfl rfl ?_); refine G_split rfl (fun h => ?_) (fun h => ?_)) | ((fail_if_success refine D_isL rfl rfl ?_); refine D_split rfl (fun h => ?_) (fun h => ?_)) | refine G_condD rfl (fun h => ?_) (fun h => ?_) | refine G_condN rfl (fun h => ?_) (fun h => ?_) | refine G_cond rfl (fun h => ?_) (fun h => ?_) | refine G_ret (G_leave ?_))
  refine G_wk [(5, wFn xs a b), (3, .ptr 2 0)] [(2, .box [.fn 65 [.ptr 0 0] []]), (0, .box [.own 1]), (1, ownO acc)] hC0 rfl rfl (by repeat' (first | exact trivial | refine ⟨⟨rfl, rfl⟩, ?_⟩ | refine ⟨⟨iv (by first | rfl | omega | (rw [w64 (by omega) (by omega)]; omega)), rfl⟩, ?_⟩)) (by repeat' (first | exact trivial | refine ⟨.inl rfl, ?_⟩ | refine ⟨.inr ⟨rfl, rfl⟩, ?_⟩ | refine ⟨.inr ⟨arrE (by first | rfl | (rw [List.map_append]; rfl)), rfl⟩, ?_⟩)) (by repeat' (first | exact trivial | refine ⟨⟨rfl, rfl⟩, ?_⟩)) ?_
  refine G_range 3 rfl rfl rfl ((c_tl_within1 xs a b acc (by omega) ?_).mono ?_)
  · intro acc' s hacc
    refine YldT_of_body rfl rfl rfl ?_
    intro F _ n C1 l' hS hφ
    have hk : C1.kn 3 := by show (C1.S 3).known = true; rw [hS]; rfl
    repeat' (first | refine G_ops Kx_ok 6 rfl ?_ | refine G_op Kx_ok rfl ?_ | refine G_run rfl rfl rfl ?_ | refine G_nil ?_ | refine G_seq ?_ | refine G_region rfl ?_ | refine G_skip ?_ | refine G_block ?_ | refine G_drawn Kx_mixed rfl ?_ | refine D_ops Kx_ok 6 rfl ?_ | refine D_op Kx_ok rfl ?_ | refine D_nil rfl ?_ | refine G_cond_t rfl ?_ | refine G_cond_f rfl ?_ | refine G_exit ?_ | refine G_splitD rfl (fun h => ?_) (fun h => ?_) | refine D_splitD rfl (fun h => ?_) (fun h => ?_) | ((fail_if_success refine G_isL rfl rfl ?_); refine G_split rfl (fun h => ?_) (fun h => ?_)) | ((fail_if_success refine D_isL rfl rfl ?_); refine D_split rfl (fun h => ?_) (fun h => ?_)) | refine G_condD rfl (fun h => ?_) (fun h => ?_) | refine G_condN rfl (fun h => ?_) (fun h => ?_) | refine G_cond rfl (fun h => ?_) (fun h => ?_) | refine G_ret (G_leave ?_))
    refine G_begin hφ hk rfl ?_
    repeat' (first | refine G_ops Kx_ok 6 rfl ?_ | refine G_op Kx_ok rfl ?_ | refine G_run rfl rfl rfl ?_ | refine G_nil ?_ | refine G_seq ?_ | refine G_region rfl ?_ | refine G_skip ?_ | refine G_block ?_ | refine G_drawn Kx_mixed rfl ?_ | refine D_ops Kx_ok 6 rfl ?_ | refine D_op Kx_ok rfl ?_ | refine D_nil rfl ?_ | refine G_cond_t rfl ?_ | refine G_cond_f rfl ?_ | refine G_exit ?_ | refine G_callA (c_tl_add acc' s hacc) rfl rfl rfl rfl rfl rfl (by repeat' (first | exact trivial | refine ⟨⟨rfl, rfl, rfl⟩, ?_⟩)) rfl (by repeat' (first | exact trivial | refine ⟨.inl rfl, ?_⟩ | refine ⟨.inr rfl, ?_⟩)) rfl rfl rfl rfl rfl ?_ | refine D_callA (c_tl_add acc' s hacc) rfl rfl rfl rfl rfl rfl rfl (by repeat' (first | exact trivial | refine ⟨⟨rfl, rfl, rfl⟩, ?_⟩)) rfl (by repeat' (first | exact trivial | refine ⟨.inl rfl, ?_⟩ | refine ⟨.inr rfl, ?_⟩)) rfl rfl rfl rfl rfl rfl ?_ | refine G_splitD rfl (fun h => ?_) (fun h => ?_) | refine D_splitD rfl (fun h => ?_) (fun h => ?_) | ((fail_if_success refine G_isL rfl rfl ?_); refine G_split rfl (fun h => ?_) (fun h => ?_)) | ((fail_if_success refine D_isL rfl rfl ?_); refine D_split rfl (fun h => ?_) (fun h => ?_)) | refine G_condD rfl (fun h => ?_) (fun h => ?_) | refine G_condN rfl (fun h => ?_) (fun h => ?_) | refine G_cond rfl (fun h => ?_) (fun h => ?_) | refine G_ret (G_leave ?_))
    refine G_wk [] [(3, .loop [(5, wFn xs a b), (3, .ptr 2 0)] _ _ _ _ .busy none), (2, .box [.fn 65 [.ptr 0 0] []]), (0, .box [.own 5]), (1, .dead), (4, .dead), (5, ownO (extS acc' s))] hS rfl rfl (by repeat' (first | exact trivial | refine ⟨⟨rfl, rfl⟩, ?_⟩ | refine ⟨⟨iv (by first | rfl | omega | (rw [w64 (by omega) (by omega)]; omega)), rfl⟩, ?_⟩)) (by repeat' (first | exact trivial | refine ⟨.inl rfl, ?_⟩ | refine ⟨.inr ⟨rfl, rfl⟩, ?_⟩ | refine ⟨.inr ⟨arrE (by first | rfl | (rw [List.map_append]; rfl)), rfl⟩, ?_⟩)) (by repeat' (first | exact trivial | refine ⟨⟨rfl, rfl⟩, ?_⟩)) ?_
    exact G_round_onS _ hφ hk rfl (by repeat' (first | exact trivial | refine ⟨rfl, ?_⟩)) (by repeat' (first | exact trivial | refine ⟨rfl, ?_⟩)) ⟨rfl, rfl⟩
  · rintro _ M rfl
    refine ⟨.ready, none, rfl, by simp, ?_⟩
    repeat' (first | refine G_ops Kx_ok 6 rfl ?_ | refine G_op Kx_ok rfl ?_ | refine G_run rfl rfl rfl ?_ | refine G_nil ?_ | refine G_seq ?_ | refine G_region rfl ?_ | refine G_skip ?_ | refine G_block ?_ | refine G_drawn Kx_mixed rfl ?_ | refine D_ops Kx_ok 6 rfl ?_ | refine D_op Kx_ok rfl ?_ | refine D_nil rfl ?_ | refine G_cond_t rfl ?_ | refine G_cond_f rfl ?_ | refine G_exit ?_ | refine G_splitD rfl (fun h => ?_) (fun h => ?_) | refine D_splitD rfl (fun h => ?_) (fun h => ?_) | ((fail_if_success refine G_isL rfl rfl ?_); refine G_split rfl (fun h => ?_) (fun h => ?_)) | ((fail_if_success refine D_isL rfl rfl ?_); refine D_split rfl (fun h => ?_) (fun h => ?_)) | refine G_condD rfl (fun h => ?_) (fun h => ?_) | refine G_condN rfl (fun h => ?_) (fun h => ?_) | refine G_cond rfl (fun h => ?_) (fun h => ?_) | refine G_ret (G_leave ?_) | refine G_leave_end ?_)
    refine G_marks rfl ?_
    refine G_wk [] [(0, .box [.own 2]), (1, .dead), (2, ownO (partW xs a b acc))] hC0 rfl rfl (by repeat' (first | exact trivial | refine ⟨⟨rfl, rfl⟩, ?_⟩ | refine ⟨⟨iv (by first | rfl | omega | (rw [w64 (by omega) (by omega)]; omega)), rfl⟩, ?_⟩)) (by repeat' (first | exact trivial | refine ⟨.inl rfl, ?_⟩ | refine ⟨.inr ⟨rfl, rfl⟩, ?_⟩ | refine ⟨.inr ⟨arrE (by first | rfl | (rw [List.map_append]; rfl)), rfl⟩, ?_⟩)) (by repeat' (first | exact trivial | refine ⟨⟨rfl, rfl⟩, ?_⟩)) ?_
    exact G_return Kx_ok rfl ⟨rfl, rfl⟩
end Go.Proofs.YtmdbpbncdkdipaaDoor
namespace Go.Proofs.YtmdbpbncdkdipaaDoor
open Go.Asl
set_option maxRecDepth 100000
set_option maxHeartbeats 4000000
attribute [local irreducible] Go.Asl.wpG Go.Code.wpIn Go.Asl.DrawG Go.Asl.LvX Go.Asl.G
theorem getD_some {α : Type} (x d : α) : (some x).getD d = x := rfl
def pwithin (xs : List Spn) (s : Spe) : Option (List Spn) := if valid xs = true ∧ isIn xs s.f s.t = true ∧ (partW xs s.f s.t []).length ≤ 200 then some (partW xs s.f s.t []) else none
def pput (xs : List Spn) (s : Spn) : Option (List Spn) := if valid xs = true ∧ isIn xs s.f s.t = true ∧ isOwn s.o = true ∧ (partW xs s.t (endOf xs) (extS (partW xs 0 s.f []) s)).length ≤ 200 then some (partW xs s.t (endOf xs) (extS (partW xs 0 s.f []) s)) else none
theorem c_tl_Put (xs : List Spn) (s : Spn) (hl : xs.length ≤ 10000000) : FnP Kx 36 [spL xs, spA s] (.tup [spL ((pput xs s).getD []), .int .i64 (errOf (pput xs s))]) := by
  refine FnT_of_body ent36 Tryd.func36 rfl Tryd.ntmps36 rfl (fun C0 hC0 => ?_)
  have l1 := partW_len 0 s.f xs []
  have l2 := extS_len (partW xs 0 s.f []) s
  simp only [List.length_nil] at l1
  repeat' (first | refine G_ops Kx_ok 6 rfl ?_ | refine G_op Kx_ok rfl ?_ | refine G_run rfl rfl rfl ?_ | refine G_nil ?_ | refine G_seq ?_ | refine G_region rfl ?_ | refine G_skip ?_ | refine G_block ?_ | refine G_drawn Kx_mixed rfl ?_ | refine D_ops Kx_ok 6 rfl ?_ | refine D_op Kx_ok rfl ?_ | refine D_nil rfl ?_ | refine G_cond_t rfl ?_ | refine G_cond_f rfl ?_ | refine G_exit ?_ | refine G_callP rfl rfl rfl rfl (c_timeline_Valid xs (by first | omega | (simp at * <;> omega))) rfl rfl rfl ?_ | refine D_call rfl rfl rfl rfl rfl (c_timeline_Valid xs (by first | omega | (simp at * <;> omega))) rfl rfl rfl rfl ?_ | refine G_callP rfl rfl rfl rfl (c_timeline_isInside xs s.f s.t (by first | omega | (simp at * <;> omega))) rfl rfl rfl ?_ | refine D_call rfl rfl rfl rfl rfl (c_timeline_isInside xs s.f s.t (by first | omega | (simp at * <;> omega))) rfl rfl rfl rfl ?_ | refine G_callP rfl rfl rfl rfl (c_timeline_isOwner s.o) rfl rfl rfl ?_ | refine D_call rfl rfl rfl rfl rfl (c_timeline_isOwner s.o) rfl rfl rfl rfl ?_ | refine G_callP rfl rfl rfl rfl (c_tl_within xs 0 s.f) rfl rfl rfl ?_ | refine D_call rfl rfl rfl rfl rfl (c_tl_within xs 0 s.f) rfl rfl rfl rfl ?_ | refine G_splitD rfl (fun h => ?_) (fun h => ?_) | refine D_splitD rfl (fun h => ?_) (fun h => ?_) | ((fail_if_success refine G_isL rfl rfl ?_); refine G_split rfl (fun h => ?_) (fun h => ?_)) | ((fail_if_success refine D_isL rfl rfl ?_); refine D_split rfl (fun h => ?_) (fun h => ?_)) | refine G_condD rfl (fun h => ?_) (fun h => ?_) | refine G_condN rfl (fun h => ?_) (fun h => ?_) | refine G_cond rfl (fun h => ?_) (fun h => ?_) | refine G_ret (G_leave ?_))
  all_goals try (refine G_lst_nil (t := 4) rfl ?_; refine G_return Kx_ok rfl ?_; rw [pput, if_neg (by simp_all <;> omega)]; rfl)
  refine G_box_nil (m := 1) (j := 0) 20 74 3 rfl rfl rfl ?_
  repeat' (first | refine G_ops Kx_ok 6 rfl ?_ | refine G_op Kx_ok rfl ?_ | refine G_run rfl rfl rfl ?_ | refine G_nil ?_ | refine G_seq ?_ | refine G_region rfl ?_ | refine G_skip ?_ | refine G_block ?_ | refine G_drawn Kx_mixed rfl ?_ | refine D_ops Kx_ok 6 rfl ?_ | refine D_op Kx_ok rfl ?_ | refine D_nil rfl ?_ | refine G_cond_t rfl ?_ | refine G_cond_f rfl ?_ | refine G_exit ?_ | refine G_callA (c_tl_each xs 0 s.f [] (by simp at * <;> omega)) rfl rfl rfl rfl rfl rfl (by repeat' (first | exact trivial | refine ⟨⟨rfl, rfl, rfl⟩, ?_⟩)) rfl (by repeat' (first | exact trivial | refine ⟨.inl rfl, ?_⟩ | refine ⟨.inr rfl, ?_⟩)) rfl rfl rfl rfl rfl ?_ | refine D_callA (c_tl_each xs 0 s.f [] (by simp at * <;> omega)) rfl rfl rfl rfl rfl rfl rfl (by repeat' (first | exact trivial | refine ⟨⟨rfl, rfl, rfl⟩, ?_⟩)) rfl (by repeat' (first | exact trivial | refine ⟨.inl rfl, ?_⟩ | refine ⟨.inr rfl, ?_⟩)) rfl rfl rfl rfl rfl rfl ?_ | refine G_callA (c_tl_add (partW xs 0 s.f []) s (by omega)) rfl rfl rfl rfl rfl rfl (by repeat' (first | exact trivial | refine ⟨⟨rfl, rfl, rfl⟩, ?_⟩)) rfl (by repeat' (first | exact trivial | refine ⟨.inl rfl, ?_⟩ | refine ⟨.inr rfl, ?_⟩)) rfl rfl rfl rfl rfl ?_ | refine D_callA (c_tl_add (partW xs 0 s.f []) s (by omega)) rfl rfl rfl rfl rfl rfl rfl (by repeat' (first | exact trivial | refine ⟨⟨rfl, rfl, rfl⟩, ?_⟩)) rfl (by repeat' (first | exact trivial | refine ⟨.inl rfl, ?_⟩ | refine ⟨.inr rfl, ?_⟩)) rfl rfl rfl rfl rfl rfl ?_ | refine G_callA (c_tl_each xs s.t (endOf xs) (extS (partW xs 0 s.f []) s) (by omega)) rfl rfl rfl rfl rfl rfl (by repeat' (first | exact trivial | refine ⟨⟨rfl, rfl, rfl⟩, ?_⟩)) rfl (by repeat' (first | exact trivial | refine ⟨.inl rfl, ?_⟩ | refine ⟨.inr rfl, ?_⟩)) rfl rfl rfl rfl rfl ?_ | refine D_callA (c_tl_each xs s.t (endOf xs) (extS (partW xs 0 s.f []) s) (by omega)) rfl rfl rfl rfl rfl rfl rfl (by repeat' (first | exact trivial | refine ⟨⟨rfl, rfl, rfl⟩, ?_⟩)) rfl (by repeat' (first | exact trivial | refine ⟨.inl rfl, ?_⟩ | refine ⟨.inr rfl, ?_⟩)) rfl rfl rfl rfl rfl rfl ?_ | refine G_callP rfl rfl rfl rfl (c_timeline_end xs (by first | omega | (simp at * <;> omega))) rfl rfl rfl ?_ | refine D_call rfl rfl rfl rfl rfl (c_timeline_end xs (by first | omega | (simp at * <;> omega))) rfl rfl rfl rfl ?_ | refine G_callP rfl rfl rfl rfl (c_tl_within xs s.t (endOf xs)) rfl rfl rfl ?_ | refine D_call rfl rfl rfl rfl rfl (c_tl_within xs s.t (endOf xs)) rfl rfl rfl rfl ?_ | refine G_splitD rfl (fun h => ?_) (fun h => ?_) | refine D_splitD rfl (fun h => ?_) (fun h => ?_) | ((fail_if_success refine G_isL rfl rfl ?_); refine G_split rfl (fun h => ?_) (fun h => ?_)) | ((fail_if_success refine D_isL rfl rfl ?_); refine D_split rfl (fun h => ?_) (fun h => ?_)) | refine G_condD rfl (fun h => ?_) (fun h => ?_) | refine G_condN rfl (fun h => ?_) (fun h => ?_) | refine G_cond rfl (fun h => ?_) (fun h => ?_) | refine G_ret (G_leave ?_))
  by_cases hc : (partW xs s.t (endOf xs) (extS (partW xs 0 s.f []) s)).length ≤ 200
  · repeat' (first | refine G_ops Kx_ok 6 rfl ?_ | refine G_op Kx_ok rfl ?_ | refine G_run rfl rfl rfl ?_ | refine G_nil ?_ | refine G_seq ?_ | refine G_region rfl ?_ | refine G_skip ?_ | refine G_block ?_ | refine G_drawn Kx_mixed rfl ?_ | refine D_ops Kx_ok 6 rfl ?_ | refine D_op Kx_ok rfl ?_ | refine D_nil rfl ?_ | refine G_cond_t rfl ?_ | refine G_cond_f rfl ?_ | refine G_exit ?_ | refine G_callA (c_tl_done (partW xs s.t (endOf xs) (extS (partW xs 0 s.f []) s)) hc) rfl rfl rfl rfl rfl rfl (by repeat' (first | exact trivial | refine ⟨⟨rfl, rfl, rfl⟩, ?_⟩)) rfl (by repeat' (first | exact trivial | refine ⟨.inl rfl, ?_⟩ | refine ⟨.inr rfl, ?_⟩)) rfl rfl rfl rfl rfl ?_ | refine D_callA (c_tl_done (partW xs s.t (endOf xs) (extS (partW xs 0 s.f []) s)) hc) rfl rfl rfl rfl rfl rfl rfl (by repeat' (first | exact trivial | refine ⟨⟨rfl, rfl, rfl⟩, ?_⟩)) rfl (by repeat' (first | exact trivial | refine ⟨.inl rfl, ?_⟩ | refine ⟨.inr rfl, ?_⟩)) rfl rfl rfl rfl rfl rfl ?_ | refine G_splitD rfl (fun h => ?_) (fun h => ?_) | refine D_splitD rfl (fun h => ?_) (fun h => ?_) | ((fail_if_success refine G_isL rfl rfl ?_); refine G_split rfl (fun h => ?_) (fun h => ?_)) | ((fail_if_success refine D_isL rfl rfl ?_); refine D_split rfl (fun h => ?_) (fun h => ?_)) | refine G_condD rfl (fun h => ?_) (fun h => ?_) | refine G_condN rfl (fun h => ?_) (fun h => ?_) | refine G_cond rfl (fun h => ?_) (fun h => ?_) | refine G_ret (G_leave ?_))
    refine G_freeze (m := 4) 4 rfl rfl ?_
    refine G_return Kx_ok rfl ?_; rw [pput, if_pos (by simp_all)]; rfl
  · repeat' (first | refine G_ops Kx_ok 6 rfl ?_ | refine G_op Kx_ok rfl ?_ | refine G_run rfl rfl rfl ?_ | refine G_nil ?_ | refine G_seq ?_ | refine G_region rfl ?_ | refine G_skip ?_ | refine G_block ?_ | refine G_drawn Kx_mixed rfl ?_ | refine D_ops Kx_ok 6 rfl ?_ | refine D_op Kx_ok rfl ?_ | refine D_nil rfl ?_ | refine G_cond_t rfl ?_ | refine G_cond_f rfl ?_ | refine G_exit ?_ | refine G_callA (c_tl_doneE (partW xs s.t (endOf xs) (extS (partW xs 0 s.f []) s)) (by omega)) rfl rfl rfl rfl rfl rfl (by repeat' (first | exact trivial | refine ⟨⟨rfl, rfl, rfl⟩, ?_⟩)) rfl (by repeat' (first | exact trivial | refine ⟨.inl rfl, ?_⟩ | refine ⟨.inr rfl, ?_⟩)) rfl rfl rfl rfl rfl ?_ | refine D_callA (c_tl_doneE (partW xs s.t (endOf xs) (extS (partW xs 0 s.f []) s)) (by omega)) rfl rfl rfl rfl rfl rfl rfl (by repeat' (first | exact trivial | refine ⟨⟨rfl, rfl, rfl⟩, ?_⟩)) rfl (by repeat' (first | exact trivial | refine ⟨.inl rfl, ?_⟩ | refine ⟨.inr rfl, ?_⟩)) rfl rfl rfl rfl rfl rfl ?_ | refine G_splitD rfl (fun h => ?_) (fun h => ?_) | refine D_splitD rfl (fun h => ?_) (fun h => ?_) | ((fail_if_success refine G_isL rfl rfl ?_); refine G_split rfl (fun h => ?_) (fun h => ?_)) | ((fail_if_success refine D_isL rfl rfl ?_); refine D_split rfl (fun h => ?_) (fun h => ?_)) | refine G_condD rfl (fun h => ?_) (fun h => ?_) | refine G_condN rfl (fun h => ?_) (fun h => ?_) | refine G_cond rfl (fun h => ?_) (fun h => ?_) | refine G_ret (G_leave ?_))
    refine G_lst_nil (t := 4) rfl ?_; refine G_return Kx_ok rfl ?_; rw [pput, if_neg (by simp_all <;> omega)]; rfl
def pjoin (xs ys : List Spn) (t : Int) : Option (List Spn) := if valid xs = true ∧ valid ys = true ∧ 0 ≤ t ∧ t ≤ endOf xs ∧ t ≤ endOf ys ∧ (partW ys t (endOf ys) (partW xs 0 t [])).length ≤ 200 then some (partW ys t (endOf ys) (partW xs 0 t [])) else none
end Go.Proofs.YtmdbpbncdkdipaaDoor
namespace Go.Proofs.YtmdbpbncdkdipaaDoor
open Go.Asl
set_option maxRecDepth 100000
set_option maxHeartbeats 4000000
attribute [local irreducible] Go.Asl.wpG Go.Code.wpIn Go.Asl.DrawG Go.Asl.LvX Go.Asl.G
def firstW (xs : List Spn) (a b : Int) : Option Spn := (xs.map (cutW a b)).find? (fun c => decide (c.f < c.t))
def atS (o : Option Spn) : Int := match o with
  | some s => s.o
  | none => 0
set_option linter.unusedVariables false in
theorem c_tl_within1_At (xs : List Spn) (a b : Int) {No : Nat} {ps : Array Tmp} {asg bdy : Code} (hl : xs.length ≤ 1000000000)
    (hy : ∀ s, YldT Kx 2 [spA s] [(2, .loop [(13, wFn xs a b), (4, .ptr 0 0), (5, .ptr 1 0)] No ps asg bdy .ready none), (0, .box [.int .i64 0]), (1, .box [.int .i64 0])] (fun v M => v = .bool false ∧ M = [(2, .loop [(13, wFn xs a b), (4, .ptr 0 0), (5, .ptr 1 0)] No ps asg bdy .done (some .ret)), (0, .box [.int .i64 s.o]), (1, .box [.int .i64 0])])) :
    FnT Kx 77 [.yld 2, .rptr (.agg [spL xs]) 0, .rptr (.agg [.int .i64 a]) 0, .rptr (.agg [.int .i64 b]) 0] [(2, .loop [(13, wFn xs a b), (4, .ptr 0 0), (5, .ptr 1 0)] No ps asg bdy .ready none), (0, .box [.int .i64 0]), (1, .box [.int .i64 0])]
      (fun _ M => M = match firstW xs a b with
        | some s => [(2, .loop [(13, wFn xs a b), (4, .ptr 0 0), (5, .ptr 1 0)] No ps asg bdy .done (some .ret)), (0, .box [.int .i64 s.o]), (1, .box [.int .i64 0])]
        | none => [(2, .loop [(13, wFn xs a b), (4, .ptr 0 0), (5, .ptr 1 0)] No ps asg bdy .ready none), (0, .box [.int .i64 0]), (1, .box [.int .i64 0])]) := by
  refine FnT_of_body ent77 Tryd.func77 rfl Tryd.ntmps77 rfl (fun C0 hC0 => ?_)
  repeat' (first | refine G_ops Kx_ok 6 rfl ?_ | refine G_op Kx_ok rfl ?_ | refine G_run rfl rfl rfl ?_ | refine G_nil ?_ | refine G_seq ?_ | refine G_region rfl ?_ | refine G_skip ?_ | refine G_block ?_ | refine G_drawn Kx_mixed rfl ?_ | refine D_ops Kx_ok 6 rfl ?_ | refine D_op Kx_ok rfl ?_ | refine D_nil rfl ?_ | refine G_cond_t rfl ?_ | refine G_cond_f rfl ?_ | refine G_exit ?_ | refine G_splitD rfl (fun h => ?_) (fun h => ?_) | refine D_splitD rfl (fun h => ?_) (fun h => ?_) | ((fail_if_success refine G_isL rfl rfl ?_); refine G_split rfl (fun h => ?_) (fun h => ?_)) | ((fail_if_success refine D_isL rfl rfl ?_); refine D_split rfl (fun h => ?_) (fun h => ?_)) | refine G_condD rfl (fun h => ?_) (fun h => ?_) | refine G_condN rfl (fun h => ?_) (fun h => ?_) | refine G_cond rfl (fun h => ?_) (fun h => ?_) | refine G_ret (G_leave ?_))
  refine G_loopF (fun (p : Nat) => [(9, .int .i64 p)]) (fun p => [(2, .loop [(13, wFn xs a b), (4, .ptr 0 0), (5, .ptr 1 0)] No ps asg bdy .ready none), (0, .box [.int .i64 0]), (1, .box [.int .i64 0])])
    (fun p => p ≤ xs.length ∧ firstW (xs.drop p) a b = firstW xs a b) (fun p => xs.length - p) 0 rfl ⟨by simp, rfl⟩ (G_atL hC0 rfl rfl (by repeat' (first | exact trivial | refine ⟨⟨rfl, rfl⟩, ?_⟩ | refine ⟨⟨iv (by first | rfl | omega | (rw [w64 (by omega) (by omega)]; omega)), rfl⟩, ?_⟩)) (by repeat' (first | exact trivial | refine ⟨.inl rfl, ?_⟩ | refine ⟨.inr ⟨rfl, rfl⟩, ?_⟩ | refine ⟨.inr ⟨arrE (by first | rfl | (rw [List.map_append]; rfl)), rfl⟩, ?_⟩)) (by repeat' (first | exact trivial | refine ⟨⟨rfl, rfl⟩, ?_⟩))) ?_
  rintro i ⟨h1, h3⟩
  dsimp only [List.cons_append, List.nil_append] at *
  repeat' (first | refine G_ops Kx_ok 6 rfl ?_ | refine G_op Kx_ok rfl ?_ | refine G_run rfl rfl rfl ?_ | refine G_nil ?_ | refine G_seq ?_ | refine G_region rfl ?_ | refine G_skip ?_ | refine G_block ?_ | refine G_drawn Kx_mixed rfl ?_ | refine D_ops Kx_ok 6 rfl ?_ | refine D_op Kx_ok rfl ?_ | refine D_nil rfl ?_ | refine G_cond_t rfl ?_ | refine G_cond_f rfl ?_ | refine G_exit ?_ | refine G_splitD rfl (fun h => ?_) (fun h => ?_) | refine D_splitD rfl (fun h => ?_) (fun h => ?_) | ((fail_if_success refine G_isL rfl rfl ?_); refine G_split rfl (fun h => ?_) (fun h => ?_)) | ((fail_if_success refine D_isL rfl rfl ?_); refine D_split rfl (fun h => ?_) (fun h => ?_)) | refine G_condD rfl (fun h => ?_) (fun h => ?_) | refine G_condN rfl (fun h => ?_) (fun h => ?_) | refine G_cond rfl (fun h => ?_) (fun h => ?_) | refine G_ret (G_leave ?_))
  · obtain ⟨s, hs, hd⟩ := drop_get (xs := xs) (i := i) (by simp at * <;> omega)
    repeat' (first | refine G_ops Kx_ok 6 rfl ?_ | refine G_op Kx_ok rfl ?_ | refine G_run rfl rfl rfl ?_ | refine G_nil ?_ | refine G_seq ?_ | refine G_region rfl ?_ | refine G_skip ?_ | refine G_block ?_ | refine G_drawn Kx_mixed rfl ?_ | refine D_ops Kx_ok 6 rfl ?_ | refine D_op Kx_ok rfl ?_ | refine D_nil rfl ?_ | refine G_cond_t rfl ?_ | refine G_cond_f rfl ?_ | refine G_exit ?_ | (refine G_index_lst Kx_ok rfl rfl rfl rfl rfl (map_get (x := s) (by simpa using hs)) (by omega) rfl rfl rfl ?_) | (refine D_index_lst Kx_ok _ rfl rfl rfl rfl rfl rfl (map_get (x := s) (by simpa using hs)) (by omega) rfl rfl rfl rfl ?_) | refine G_splitD rfl (fun h => ?_) (fun h => ?_) | refine D_splitD rfl (fun h => ?_) (fun h => ?_) | ((fail_if_success refine G_isL rfl rfl ?_); refine G_split rfl (fun h => ?_) (fun h => ?_)) | ((fail_if_success refine D_isL rfl rfl ?_); refine D_split rfl (fun h => ?_) (fun h => ?_)) | refine G_condD rfl (fun h => ?_) (fun h => ?_) | refine G_condN rfl (fun h => ?_) (fun h => ?_) | refine G_cond rfl (fun h => ?_) (fun h => ?_) | refine G_ret (G_leave ?_))
    · refine G_wk [(0, .yld 2), (1, .rptr (.agg [spL xs]) 0), (2, .rptr (.agg [.int .i64 a]) 0), (3, .rptr (.agg [.int .i64 b]) 0), (7, spL xs), (8, .int .i64 (List.map spA xs).length), (9, .int .i64 i), (28, .bool true), (29, .yld 2), (30, spA (cutW a b s))] [(2, .loop [(13, wFn xs a b), (4, .ptr 0 0), (5, .ptr 1 0)] No ps asg bdy .ready none), (0, .box [.int .i64 0]), (1, .box [.int .i64 0])] hC0 rfl rfl (by repeat' (first | exact trivial | refine ⟨⟨rfl, rfl⟩, ?_⟩ | refine ⟨⟨iv (by first | rfl | omega | (rw [w64 (by omega) (by omega)]; omega)), rfl⟩, ?_⟩)) (by repeat' (first | exact trivial | refine ⟨.inl rfl, ?_⟩ | refine ⟨.inr ⟨rfl, rfl⟩, ?_⟩ | refine ⟨.inr ⟨arrE (by first | rfl | (rw [List.map_append]; rfl)), rfl⟩, ?_⟩)) (by repeat' (first | exact trivial | refine ⟨⟨rfl, rfl⟩, ?_⟩)) ?_
      refine G_yield rfl rfl rfl rfl ((hy (cutW a b s)).mono fun v M hh => ?_)
      obtain ⟨rfl, rfl⟩ := hh
      refine ⟨_, rfl, ?_⟩
      repeat' (first | refine G_ops Kx_ok 6 rfl ?_ | refine G_op Kx_ok rfl ?_ | refine G_run rfl rfl rfl ?_ | refine G_nil ?_ | refine G_seq ?_ | refine G_region rfl ?_ | refine G_skip ?_ | refine G_block ?_ | refine G_drawn Kx_mixed rfl ?_ | refine D_ops Kx_ok 6 rfl ?_ | refine D_op Kx_ok rfl ?_ | refine D_nil rfl ?_ | refine G_cond_t rfl ?_ | refine G_cond_f rfl ?_ | refine G_exit ?_ | refine G_splitD rfl (fun h => ?_) (fun h => ?_) | refine D_splitD rfl (fun h => ?_) (fun h => ?_) | ((fail_if_success refine G_isL rfl rfl ?_); refine G_split rfl (fun h => ?_) (fun h => ?_)) | ((fail_if_success refine D_isL rfl rfl ?_); refine D_split rfl (fun h => ?_) (fun h => ?_)) | refine G_condD rfl (fun h => ?_) (fun h => ?_) | refine G_condN rfl (fun h => ?_) (fun h => ?_) | refine G_cond rfl (fun h => ?_) (fun h => ?_) | refine G_ret (G_leave ?_))
      refine G_return Kx_ok rfl ?_
      rw [← h3, hd, firstW, List.map_cons, List.find?_cons_of_pos (by exact decide_eq_true h)]
    · refine G_nextF (i + 1) ⟨by simp at * <;> omega, ?_⟩ (by simp at * <;> omega) (G_atL hC0 rfl rfl (by repeat' (first | exact trivial | refine ⟨⟨rfl, rfl⟩, ?_⟩ | refine ⟨⟨iv (by first | rfl | omega | (rw [w64 (by omega) (by omega)]; omega)), rfl⟩, ?_⟩)) (by repeat' (first | exact trivial | refine ⟨.inl rfl, ?_⟩ | refine ⟨.inr ⟨rfl, rfl⟩, ?_⟩ | refine ⟨.inr ⟨arrE (by first | rfl | (rw [List.map_append]; rfl)), rfl⟩, ?_⟩)) (by repeat' (first | exact trivial | refine ⟨⟨rfl, rfl⟩, ?_⟩)))
      rw [← h3, hd, firstW, firstW, List.map_cons, List.find?_cons_of_neg (by exact fun e => h (of_decide_eq_true e))]
  · refine G_leave_end ?_
    have hi : xs.length ≤ i := by simp at * <;> omega
    rw [List.drop_eq_nil_of_le hi] at h3
    refine G_wk [] [(2, .loop [(13, wFn xs a b), (4, .ptr 0 0), (5, .ptr 1 0)] No ps asg bdy .ready none), (0, .box [.int .i64 0]), (1, .box [.int .i64 0])] hC0 rfl rfl (by repeat' (first | exact trivial | refine ⟨⟨rfl, rfl⟩, ?_⟩ | refine ⟨⟨iv (by first | rfl | omega | (rw [w64 (by omega) (by omega)]; omega)), rfl⟩, ?_⟩)) (by repeat' (first | exact trivial | refine ⟨.inl rfl, ?_⟩ | refine ⟨.inr ⟨rfl, rfl⟩, ?_⟩ | refine ⟨.inr ⟨arrE (by first | rfl | (rw [List.map_append]; rfl)), rfl⟩, ?_⟩)) (by repeat' (first | exact trivial | refine ⟨⟨rfl, rfl⟩, ?_⟩)) ?_
    refine G_return Kx_ok rfl ?_
    rw [← h3]; rfl
def patE (xs : List Spn) (t : Int) : Option Spn := if valid xs = true then firstW xs t (IntKind.i64.wrap (t + 1)) else none
theorem c_tl_At (xs : List Spn) (t : Int) (hl : xs.length ≤ 100000000) : FnP Kx 34 [spL xs, .int .i64 t] (.tup [.int .i64 (atS (patE xs t)), .int .i64 (errOf (patE xs t))]) := by
  refine FnT_of_body ent34 Tryd.func34 rfl Tryd.ntmps34 rfl (fun C0 hC0 => ?_)
  repeat' (first | refine G_ops Kx_ok 6 rfl ?_ | refine G_op Kx_ok rfl ?_ | refine G_run rfl rfl rfl ?_ | refine G_nil ?_ | refine G_seq ?_ | refine G_region rfl ?_ | refine G_skip ?_ | refine G_block ?_ | refine G_drawn Kx_mixed rfl ?_ | refine D_ops Kx_ok 6 rfl ?_ | refine D_op Kx_ok rfl ?_ | refine D_nil rfl ?_ | refine G_cond_t rfl ?_ | refine G_cond_f rfl ?_ | refine G_exit ?_ | refine G_callP rfl rfl rfl rfl (c_timeline_Valid xs (by first | omega | (simp at * <;> omega))) rfl rfl rfl ?_ | refine D_call rfl rfl rfl rfl rfl (c_timeline_Valid xs (by first | omega | (simp at * <;> omega))) rfl rfl rfl rfl ?_ | refine G_callP rfl rfl rfl rfl (c_tl_within xs t (IntKind.i64.wrap (t + 1))) rfl rfl rfl ?_ | refine D_call rfl rfl rfl rfl rfl (c_tl_within xs t (IntKind.i64.wrap (t + 1))) rfl rfl rfl rfl ?_ | refine G_splitD rfl (fun h => ?_) (fun h => ?_) | refine D_splitD rfl (fun h => ?_) (fun h => ?_) | ((fail_if_success refine G_isL rfl rfl ?_); refine G_split rfl (fun h => ?_) (fun h => ?_)) | ((fail_if_success refine D_isL rfl rfl ?_); refine D_split rfl (fun h => ?_) (fun h => ?_)) | refine G_condD rfl (fun h => ?_) (fun h => ?_) | refine G_condN rfl (fun h => ?_) (fun h => ?_) | refine G_cond rfl (fun h => ?_) (fun h => ?_) | refine G_ret (G_leave ?_))
  · refine G_wk [(13, wFn xs t (IntKind.i64.wrap (t + 1))), (4, .ptr 0 0), (5, .ptr 1 0)] [(0, .box [.int .i64 0]), (1, .box [.int .i64 0])] hC0 rfl rfl (by repeat' (first | exact trivial | refine ⟨⟨rfl, rfl⟩, ?_⟩ | refine ⟨⟨iv (by first | rfl | omega | (rw [w64 (by omega) (by omega)]; omega)), rfl⟩, ?_⟩)) (by repeat' (first | exact trivial | refine ⟨.inl rfl, ?_⟩ | refine ⟨.inr ⟨rfl, rfl⟩, ?_⟩ | refine ⟨.inr ⟨arrE (by first | rfl | (rw [List.map_append]; rfl)), rfl⟩, ?_⟩)) (by repeat' (first | exact trivial | refine ⟨⟨rfl, rfl⟩, ?_⟩)) ?_
    refine G_range 2 rfl rfl rfl ((c_tl_within1_At xs t (IntKind.i64.wrap (t + 1)) (by omega) ?_).mono ?_)
    · intro s
      refine YldT_of_body rfl rfl rfl ?_
      intro F _ n C1 l' hS hφ
      have hk : C1.kn 2 := by show (C1.S 2).known = true; rw [hS]; rfl
      repeat' (first | refine G_ops Kx_ok 6 rfl ?_ | refine G_op Kx_ok rfl ?_ | refine G_run rfl rfl rfl ?_ | refine G_nil ?_ | refine G_seq ?_ | refine G_region rfl ?_ | refine G_skip ?_ | refine G_block ?_ | refine G_drawn Kx_mixed rfl ?_ | refine D_ops Kx_ok 6 rfl ?_ | refine D_op Kx_ok rfl ?_ | refine D_nil rfl ?_ | refine G_cond_t rfl ?_ | refine G_cond_f rfl ?_ | refine G_exit ?_ | refine G_splitD rfl (fun h => ?_) (fun h => ?_) | refine D_splitD rfl (fun h => ?_) (fun h => ?_) | ((fail_if_success refine G_isL rfl rfl ?_); refine G_split rfl (fun h => ?_) (fun h => ?_)) | ((fail_if_success refine D_isL rfl rfl ?_); refine D_split rfl (fun h => ?_) (fun h => ?_)) | refine G_condD rfl (fun h => ?_) (fun h => ?_) | refine G_condN rfl (fun h => ?_) (fun h => ?_) | refine G_cond rfl (fun h => ?_) (fun h => ?_) | refine G_ret (G_leave ?_))
      refine G_begin hφ hk rfl ?_
      repeat' (first | refine G_ops Kx_ok 6 rfl ?_ | refine G_op Kx_ok rfl ?_ | refine G_run rfl rfl rfl ?_ | refine G_nil ?_ | refine G_seq ?_ | refine G_region rfl ?_ | refine G_skip ?_ | refine G_block ?_ | refine G_drawn Kx_mixed rfl ?_ | refine D_ops Kx_ok 6 rfl ?_ | refine D_op Kx_ok rfl ?_ | refine D_nil rfl ?_ | refine G_cond_t rfl ?_ | refine G_cond_f rfl ?_ | refine G_exit ?_ | refine G_splitD rfl (fun h => ?_) (fun h => ?_) | refine D_splitD rfl (fun h => ?_) (fun h => ?_) | ((fail_if_success refine G_isL rfl rfl ?_); refine G_split rfl (fun h => ?_) (fun h => ?_)) | ((fail_if_success refine D_isL rfl rfl ?_); refine D_split rfl (fun h => ?_) (fun h => ?_)) | refine G_condD rfl (fun h => ?_) (fun h => ?_) | refine G_condN rfl (fun h => ?_) (fun h => ?_) | refine G_cond rfl (fun h => ?_) (fun h => ?_))
      refine G_ret ?_
      refine G_wk [] [(2, .loop [(13, wFn xs t (IntKind.i64.wrap (t + 1))), (4, .ptr 0 0), (5, .ptr 1 0)] _ _ _ _ .busy none), (0, .box [.int .i64 s.o]), (1, .box [.int .i64 0])] hS rfl rfl (by repeat' (first | exact trivial | refine ⟨⟨rfl, rfl⟩, ?_⟩ | refine ⟨⟨iv (by first | rfl | omega | (rw [w64 (by omega) (by omega)]; omega)), rfl⟩, ?_⟩)) (by repeat' (first | exact trivial | refine ⟨.inl rfl, ?_⟩ | refine ⟨.inr ⟨rfl, rfl⟩, ?_⟩ | refine ⟨.inr ⟨arrE (by first | rfl | (rw [List.map_append]; rfl)), rfl⟩, ?_⟩)) (by repeat' (first | exact trivial | refine ⟨⟨rfl, rfl⟩, ?_⟩)) ?_
      show G _ _ _ _ (roundPost _ _ _ .ret)
      exact G_round_offS _ rfl hφ hk rfl (by repeat' (first | exact trivial | refine ⟨rfl, ?_⟩)) (by repeat' (first | exact trivial | refine ⟨rfl, ?_⟩)) ⟨rfl, rfl⟩
    · rintro _ M rfl
      cases hf : firstW xs t (IntKind.i64.wrap (t + 1)) with
      | some s =>
        refine ⟨.done, some .ret, rfl, by simp, ?_⟩
        dsimp only
        repeat' (first | refine G_ops Kx_ok 6 rfl ?_ | refine G_op Kx_ok rfl ?_ | refine G_run rfl rfl rfl ?_ | refine G_nil ?_ | refine G_seq ?_ | refine G_region rfl ?_ | refine G_skip ?_ | refine G_block ?_ | refine G_drawn Kx_mixed rfl ?_ | refine D_ops Kx_ok 6 rfl ?_ | refine D_op Kx_ok rfl ?_ | refine D_nil rfl ?_ | refine G_cond_t rfl ?_ | refine G_cond_f rfl ?_ | refine G_exit ?_ | refine G_splitD rfl (fun h => ?_) (fun h => ?_) | refine D_splitD rfl (fun h => ?_) (fun h => ?_) | ((fail_if_success refine G_isL rfl rfl ?_); refine G_split rfl (fun h => ?_) (fun h => ?_)) | ((fail_if_success refine D_isL rfl rfl ?_); refine D_split rfl (fun h => ?_) (fun h => ?_)) | refine G_condD rfl (fun h => ?_) (fun h => ?_) | refine G_condN rfl (fun h => ?_) (fun h => ?_) | refine G_cond rfl (fun h => ?_) (fun h => ?_) | refine G_ret (G_leave ?_))
        refine G_marks rfl ?_
        refine G_return Kx_ok rfl ?_
        rw [patE, if_pos h, hf]; rfl
      | none =>
        refine ⟨.ready, none, rfl, by simp, ?_⟩
        dsimp only
        repeat' (first | refine G_ops Kx_ok 6 rfl ?_ | refine G_op Kx_ok rfl ?_ | refine G_run rfl rfl rfl ?_ | refine G_nil ?_ | refine G_seq ?_ | refine G_region rfl ?_ | refine G_skip ?_ | refine G_block ?_ | refine G_drawn Kx_mixed rfl ?_ | refine D_ops Kx_ok 6 rfl ?_ | refine D_op Kx_ok rfl ?_ | refine D_nil rfl ?_ | refine G_cond_t rfl ?_ | refine G_cond_f rfl ?_ | refine G_exit ?_ | refine G_splitD rfl (fun h => ?_) (fun h => ?_) | refine D_splitD rfl (fun h => ?_) (fun h => ?_) | ((fail_if_success refine G_isL rfl rfl ?_); refine G_split rfl (fun h => ?_) (fun h => ?_)) | ((fail_if_success refine D_isL rfl rfl ?_); refine D_split rfl (fun h => ?_) (fun h => ?_)) | refine G_condD rfl (fun h => ?_) (fun h => ?_) | refine G_condN rfl (fun h => ?_) (fun h => ?_) | refine G_cond rfl (fun h => ?_) (fun h => ?_) | refine G_ret (G_leave ?_))
        refine G_marks rfl ?_
        refine G_return Kx_ok rfl ?_
        rw [patE, if_pos h, hf]; rfl
  · refine G_return Kx_ok rfl ?_
    rw [patE, if_neg (by simp_all)]; rfl
end Go.Proofs.YtmdbpbncdkdipaaDoor
namespace Go.Proofs.YtmdbpbncdkdipaaDoor
open Go.Asl
set_option maxRecDepth 100000
set_option maxHeartbeats 4000000
attribute [local irreducible] Go.Asl.wpG Go.Code.wpIn Go.Asl.DrawG Go.Asl.LvX Go.Asl.G
/-- A spell behind the others, or grown into the last one. -/
def extE (xs : List Spe) (s : Spe) : List Spe := match xs.getLast? with
  | some l => if l.t = s.f then xs.dropLast ++ [⟨l.f, s.t⟩] else xs ++ [s]
  | none => xs ++ [s]
theorem extE_len (xs : List Spe) (s : Spe) : (extE xs s).length ≤ xs.length + 1 := by
  unfold extE
  split
  · split
    · simp
    · simp
  · simp
theorem last_setE (xs : List Spe) (y : Spe) (h : xs ≠ []) : xs.set (xs.length - 1) y = xs.dropLast ++ [y] := by
  have h1 := List.dropLast_concat_getLast h
  conv => lhs; rw [← h1]
  rw [show (xs.dropLast ++ [xs.getLast h]).length - 1 = xs.dropLast.length by simp]
  rw [List.set_append_right _ _ (Nat.le_refl _)]
  simp
theorem map_setE {f : Spe → AV} (xs : List Spe) (i : Nat) (y : Spe) : (xs.map f).set i (f y) = (xs.set i y).map f := by
  rw [List.map_set]
def stepD (w : Int) (acc : List Spe) (c : Spn) : List Spe := if c.o = w then acc else extE acc ⟨c.f, c.t⟩
theorem stepD_len (w : Int) (acc : List Spe) (c : Spn) : (stepD w acc c).length ≤ acc.length + 1 := by
  unfold stepD
  split
  · omega
  · exact extE_len _ _
def stepDW (w a b : Int) (acc : List Spe) (s : Spn) : List Spe := if (cutW a b s).f < (cutW a b s).t then stepD w acc (cutW a b s) else acc

set_option linter.unusedVariables false in
theorem c_tl_within1_Diff (xs : List Spn) (zs : List Spn) (j : Nat) (a b : Int) (z : Spn) (acc : List Spe) {No : Nat} {ps : Array Tmp} {asg bdy : Code} (hl : acc.length + xs.length ≤ 1000000000)
    (hy : ∀ acc' s, acc'.length ≤ 1000000000 → YldT Kx 3 [spA s] [(3, .loop [(36, wFn xs a b), (6, .ptr 0 0), (8, .ptr 1 0), (1, spL xs), (25, spL zs), (26, .int .i64 (List.map spA zs).length), (27, .int .i64 j)] No ps asg bdy .ready none), (1, .box [.int .i64 z.f, .int .i64 z.t, .int .i64 z.o]), (0, .box [.own 4]), (2, .dead), (4, seO acc')] (fun v M => v = .bool true ∧ M = [(3, .loop [(36, wFn xs a b), (6, .ptr 0 0), (8, .ptr 1 0), (1, spL xs), (25, spL zs), (26, .int .i64 (List.map spA zs).length), (27, .int .i64 j)] No ps asg bdy .ready none), (1, .box [.int .i64 z.f, .int .i64 z.t, .int .i64 z.o]), (0, .box [.own 5]), (2, .dead), (4, .dead), (5, seO (stepD z.o acc' s))])) :
    FnT Kx 77 [.yld 3, .rptr (.agg [spL xs]) 0, .rptr (.agg [.int .i64 a]) 0, .rptr (.agg [.int .i64 b]) 0] [(3, .loop [(36, wFn xs a b), (6, .ptr 0 0), (8, .ptr 1 0), (1, spL xs), (25, spL zs), (26, .int .i64 (List.map spA zs).length), (27, .int .i64 j)] No ps asg bdy .ready none), (1, .box [.int .i64 z.f, .int .i64 z.t, .int .i64 z.o]), (0, .box [.own 2]), (2, seO acc)]
      (fun _ M => M = [(3, .loop [(36, wFn xs a b), (6, .ptr 0 0), (8, .ptr 1 0), (1, spL xs), (25, spL zs), (26, .int .i64 (List.map spA zs).length), (27, .int .i64 j)] No ps asg bdy .ready none), (1, .box [.int .i64 z.f, .int .i64 z.t, .int .i64 z.o]), (0, .box [.own 4]), (2, .dead), (4, seO (xs.foldl (stepDW z.o a b) acc))]) := by
  refine FnT_of_body ent77 Tryd.func77 rfl Tryd.ntmps77 rfl (fun C0 hC0 => ?_)
  repeat' (first | refine G_ops Kx_ok 6 rfl ?_ | refine G_op Kx_ok rfl ?_ | refine G_run rfl rfl rfl ?_ | refine G_nil ?_ | refine G_seq ?_ | refine G_region rfl ?_ | refine G_skip ?_ | refine G_block ?_ | refine G_drawn Kx_mixed rfl ?_ | refine D_ops Kx_ok 6 rfl ?_ | refine D_op Kx_ok rfl ?_ | refine D_nil rfl ?_ | refine G_cond_t rfl ?_ | refine G_cond_f rfl ?_ | refine G_exit ?_ | refine G_splitD rfl (fun h => ?_) (fun h => ?_) | refine D_splitD rfl (fun h => ?_) (fun h => ?_) | ((fail_if_success refine G_isL rfl rfl ?_); refine G_split rfl (fun h => ?_) (fun h => ?_)) | ((fail_if_success refine D_isL rfl rfl ?_); refine D_split rfl (fun h => ?_) (fun h => ?_)) | refine G_condD rfl (fun h => ?_) (fun h => ?_) | refine G_condN rfl (fun h => ?_) (fun h => ?_) | refine G_cond rfl (fun h => ?_) (fun h => ?_) | refine G_ret (G_leave ?_))
  refine G_loopF (fun (p : Nat × List Spe) => [(9, .int .i64 p.1)]) (fun p => [(3, .loop [(36, wFn xs a b), (6, .ptr 0 0), (8, .ptr 1 0), (1, spL xs), (25, spL zs), (26, .int .i64 (List.map spA zs).length), (27, .int .i64 j)] No ps asg bdy .ready none), (1, .box [.int .i64 z.f, .int .i64 z.t, .int .i64 z.o]), (0, .box [.own 4]), (2, .dead), (4, seO p.2)])
    (fun p => p.1 ≤ xs.length ∧ p.2.length + (xs.length - p.1) ≤ 1000000000 ∧ (xs.drop p.1).foldl (stepDW z.o a b) p.2 = xs.foldl (stepDW z.o a b) acc) (fun p => xs.length - p.1) (0, acc) rfl ⟨by simp, by simp at * <;> omega, rfl⟩ (G_atL hC0 rfl rfl (by repeat' (first | exact trivial | refine ⟨⟨rfl, rfl⟩, ?_⟩ | refine ⟨⟨iv (by first | rfl | omega | (rw [w64 (by omega) (by omega)]; omega)), rfl⟩, ?_⟩)) (by repeat' (first | exact trivial | refine ⟨.inl rfl, ?_⟩ | refine ⟨.inr ⟨rfl, rfl⟩, ?_⟩ | refine ⟨.inr ⟨arrE (by first | rfl | (rw [List.map_append]; rfl)), rfl⟩, ?_⟩)) (by repeat' (first | exact trivial | refine ⟨⟨rfl, rfl⟩, ?_⟩))) ?_
  rintro ⟨i, q⟩ ⟨h1, h2, h3⟩
  dsimp only [List.cons_append, List.nil_append] at *
  repeat' (first | refine G_ops Kx_ok 6 rfl ?_ | refine G_op Kx_ok rfl ?_ | refine G_run rfl rfl rfl ?_ | refine G_nil ?_ | refine G_seq ?_ | refine G_region rfl ?_ | refine G_skip ?_ | refine G_block ?_ | refine G_drawn Kx_mixed rfl ?_ | refine D_ops Kx_ok 6 rfl ?_ | refine D_op Kx_ok rfl ?_ | refine D_nil rfl ?_ | refine G_cond_t rfl ?_ | refine G_cond_f rfl ?_ | refine G_exit ?_ | refine G_splitD rfl (fun h => ?_) (fun h => ?_) | refine D_splitD rfl (fun h => ?_) (fun h => ?_) | ((fail_if_success refine G_isL rfl rfl ?_); refine G_split rfl (fun h => ?_) (fun h => ?_)) | ((fail_if_success refine D_isL rfl rfl ?_); refine D_split rfl (fun h => ?_) (fun h => ?_)) | refine G_condD rfl (fun h => ?_) (fun h => ?_) | refine G_condN rfl (fun h => ?_) (fun h => ?_) | refine G_cond rfl (fun h => ?_) (fun h => ?_) | refine G_ret (G_leave ?_))
  · obtain ⟨s, hs, hd⟩ := drop_get (xs := xs) (i := i) (by simp at * <;> omega)
    repeat' (first | refine G_ops Kx_ok 6 rfl ?_ | refine G_op Kx_ok rfl ?_ | refine G_run rfl rfl rfl ?_ | refine G_nil ?_ | refine G_seq ?_ | refine G_region rfl ?_ | refine G_skip ?_ | refine G_block ?_ | refine G_drawn Kx_mixed rfl ?_ | refine D_ops Kx_ok 6 rfl ?_ | refine D_op Kx_ok rfl ?_ | refine D_nil rfl ?_ | refine G_cond_t rfl ?_ | refine G_cond_f rfl ?_ | refine G_exit ?_ | (refine G_index_lst Kx_ok rfl rfl rfl rfl rfl (map_get (x := s) (by simpa using hs)) (by omega) rfl rfl rfl ?_) | (refine D_index_lst Kx_ok _ rfl rfl rfl rfl rfl rfl (map_get (x := s) (by simpa using hs)) (by omega) rfl rfl rfl rfl ?_) | refine G_splitD rfl (fun h => ?_) (fun h => ?_) | refine D_splitD rfl (fun h => ?_) (fun h => ?_) | ((fail_if_success refine G_isL rfl rfl ?_); refine G_split rfl (fun h => ?_) (fun h => ?_)) | ((fail_if_success refine D_isL rfl rfl ?_); refine D_split rfl (fun h => ?_) (fun h => ?_)) | refine G_condD rfl (fun h => ?_) (fun h => ?_) | refine G_condN rfl (fun h => ?_) (fun h => ?_) | refine G_cond rfl (fun h => ?_) (fun h => ?_) | refine G_ret (G_leave ?_))
    · refine G_wk [(0, .yld 3), (1, .rptr (.agg [spL xs]) 0), (2, .rptr (.agg [.int .i64 a]) 0), (3, .rptr (.agg [.int .i64 b]) 0), (7, spL xs), (8, .int .i64 (List.map spA xs).length), (9, .int .i64 i), (28, .bool true), (29, .yld 3), (30, spA (cutW a b s))] [(3, .loop [(36, wFn xs a b), (6, .ptr 0 0), (8, .ptr 1 0), (1, spL xs), (25, spL zs), (26, .int .i64 (List.map spA zs).length), (27, .int .i64 j)] No ps asg bdy .ready none), (1, .box [.int .i64 z.f, .int .i64 z.t, .int .i64 z.o]), (0, .box [.own 4]), (2, .dead), (4, seO q)] hC0 rfl rfl (by repeat' (first | exact trivial | refine ⟨⟨rfl, rfl⟩, ?_⟩ | refine ⟨⟨iv (by first | rfl | omega | (rw [w64 (by omega) (by omega)]; omega)), rfl⟩, ?_⟩)) (by repeat' (first | exact trivial | refine ⟨.inl rfl, ?_⟩ | refine ⟨.inr ⟨rfl, rfl⟩, ?_⟩ | refine ⟨.inr ⟨arrE (by first | rfl | (rw [List.map_append]; rfl)), rfl⟩, ?_⟩)) (by repeat' (first | exact trivial | refine ⟨⟨rfl, rfl⟩, ?_⟩)) ?_
      refine G_yield rfl rfl rfl rfl ((hy q (cutW a b s) (by omega)).mono fun v M hh => ?_)
      obtain ⟨rfl, rfl⟩ := hh
      refine ⟨_, rfl, ?_⟩
      repeat' (first | refine G_ops Kx_ok 6 rfl ?_ | refine G_op Kx_ok rfl ?_ | refine G_run rfl rfl rfl ?_ | refine G_nil ?_ | refine G_seq ?_ | refine G_region rfl ?_ | refine G_skip ?_ | refine G_block ?_ | refine G_drawn Kx_mixed rfl ?_ | refine D_ops Kx_ok 6 rfl ?_ | refine D_op Kx_ok rfl ?_ | refine D_nil rfl ?_ | refine G_cond_t rfl ?_ | refine G_cond_f rfl ?_ | refine G_exit ?_ | refine G_splitD rfl (fun h => ?_) (fun h => ?_) | refine D_splitD rfl (fun h => ?_) (fun h => ?_) | ((fail_if_success refine G_isL rfl rfl ?_); refine G_split rfl (fun h => ?_) (fun h => ?_)) | ((fail_if_success refine D_isL rfl rfl ?_); refine D_split rfl (fun h => ?_) (fun h => ?_)) | refine G_condD rfl (fun h => ?_) (fun h => ?_) | refine G_condN rfl (fun h => ?_) (fun h => ?_) | refine G_cond rfl (fun h => ?_) (fun h => ?_) | refine G_ret (G_leave ?_))
      refine G_nextF (i + 1, stepD z.o q (cutW a b s)) ⟨by simp at * <;> omega, ?_, ?_⟩ (by simp at * <;> omega) (G_atL hC0 rfl rfl (by repeat' (first | exact trivial | refine ⟨⟨rfl, rfl⟩, ?_⟩ | refine ⟨⟨iv (by first | rfl | omega | (rw [w64 (by omega) (by omega)]; omega)), rfl⟩, ?_⟩)) (by repeat' (first | exact trivial | refine ⟨.inl rfl, ?_⟩ | refine ⟨.inr ⟨rfl, rfl⟩, ?_⟩ | refine ⟨.inr ⟨arrE (by first | rfl | (rw [List.map_append]; rfl)), rfl⟩, ?_⟩)) (by repeat' (first | exact trivial | refine ⟨⟨rfl, rfl⟩, ?_⟩)))
      · have := stepD_len z.o q (cutW a b s); simp at * <;> omega
      · rw [← h3, hd, List.foldl_cons]
        have : stepDW z.o a b q s = stepD z.o q (cutW a b s) := if_pos h
        rw [this]
    · refine G_nextF (i + 1, q) ⟨by simp at * <;> omega, by simp at * <;> omega, ?_⟩ (by simp at * <;> omega) (G_atL hC0 rfl rfl (by repeat' (first | exact trivial | refine ⟨⟨rfl, rfl⟩, ?_⟩ | refine ⟨⟨iv (by first | rfl | omega | (rw [w64 (by omega) (by omega)]; omega)), rfl⟩, ?_⟩)) (by repeat' (first | exact trivial | refine ⟨.inl rfl, ?_⟩ | refine ⟨.inr ⟨rfl, rfl⟩, ?_⟩ | refine ⟨.inr ⟨arrE (by first | rfl | (rw [List.map_append]; rfl)), rfl⟩, ?_⟩)) (by repeat' (first | exact trivial | refine ⟨⟨rfl, rfl⟩, ?_⟩)))
      rw [← h3, hd, List.foldl_cons]
      have : stepDW z.o a b q s = q := if_neg h
      rw [this]
  · refine G_leave_end ?_
    have hi : xs.length ≤ i := by simp at * <;> omega
    rw [List.drop_eq_nil_of_le hi] at h3
    rw [← h3]
    refine G_wk [] [(3, .loop [(36, wFn xs a b), (6, .ptr 0 0), (8, .ptr 1 0), (1, spL xs), (25, spL zs), (26, .int .i64 (List.map spA zs).length), (27, .int .i64 j)] No ps asg bdy .ready none), (1, .box [.int .i64 z.f, .int .i64 z.t, .int .i64 z.o]), (0, .box [.own 4]), (2, .dead), (4, seO q)] hC0 rfl rfl (by repeat' (first | exact trivial | refine ⟨⟨rfl, rfl⟩, ?_⟩ | refine ⟨⟨iv (by first | rfl | omega | (rw [w64 (by omega) (by omega)]; omega)), rfl⟩, ?_⟩)) (by repeat' (first | exact trivial | refine ⟨.inl rfl, ?_⟩ | refine ⟨.inr ⟨rfl, rfl⟩, ?_⟩ | refine ⟨.inr ⟨arrE (by first | rfl | (rw [List.map_append]; rfl)), rfl⟩, ?_⟩)) (by repeat' (first | exact trivial | refine ⟨⟨rfl, rfl⟩, ?_⟩)) ?_
    exact G_return Kx_ok rfl rfl
end Go.Proofs.YtmdbpbncdkdipaaDoor
namespace Go.Proofs.YtmdbpbncdkdipaaDoor
open Go.Asl
set_option maxRecDepth 100000
set_option maxHeartbeats 4000000
attribute [local irreducible] Go.Asl.wpG Go.Code.wpIn Go.Asl.DrawG Go.Asl.LvX Go.Asl.G
theorem stepDW_len (w a b : Int) (acc : List Spe) (s : Spn) : (stepDW w a b acc s).length ≤ acc.length + 1 := by
  unfold stepDW
  split
  · exact stepD_len _ _ _
  · omega
def rowD (ys : List Spn) (acc : List Spe) (s : Spn) : List Spe := ys.foldl (stepDW s.o s.f s.t) acc
theorem rowD_len (s : Spn) : ∀ (ys : List Spn) (acc : List Spe), (rowD ys acc s).length ≤ acc.length + ys.length
  | [], acc => by simp [rowD]
  | y :: r, acc => by
    have h1 := rowD_len s r (stepDW s.o s.f s.t acc y)
    have h2 := stepDW_len s.o s.f s.t acc y
    have : rowD (y :: r) acc s = rowD r (stepDW s.o s.f s.t acc y) s := rfl
    rw [this]; simp; omega
def diffW (xs ys : List Spn) : List Spe := xs.foldl (rowD ys) []
def pdiff (xs ys : List Spn) : Option (List Spe) := if valid xs = true ∧ valid ys = true ∧ endOf xs = endOf ys then some (diffW xs ys) else none
end Go.Proofs.YtmdbpbncdkdipaaDoor
namespace Go.Proofs.YtmdbpbncdkdipaaDoor
open Go.Asl
set_option maxRecDepth 100000
set_option maxHeartbeats 4000000
attribute [local irreducible] Go.Asl.wpG Go.Code.wpIn Go.Asl.DrawG Go.Asl.LvX Go.Asl.G
def stepP (o : Option (List Spn)) (s : Spn) : Option (List Spn) := o.bind (pput · s)
def ppaint (e w : Int) (xs : List Spn) : Option (List Spn) := xs.foldl stepP (newS e w)
theorem stepP_none (xs : List Spn) : xs.foldl stepP none = none := by induction xs with
  | nil => rfl
  | cons s r ih => exact ih
theorem pput_len {xs ys : List Spn} {s : Spn} (h : pput xs s = some ys) : ys.length ≤ 200 := by
  unfold pput at h
  split at h
  · cases h; rename_i h'; exact h'.2.2.2
  · cases h
theorem newS_len {e w : Int} {l : List Spn} (h : newS e w = some l) : l.length ≤ 1 := by
  unfold newS at h
  split at h
  · cases h; split <;> simp
  · cases h
theorem c_tl_Paint (e w : Int) (xs : List Spn) (hl : xs.length ≤ 1000000000) : FnP Kx 37 [.int .i64 e, .int .i64 w, spL xs] (.tup [spL ((ppaint e w xs).getD []), .int .i64 (errOf (ppaint e w xs))]) := by
  refine FnT_of_body ent37 Tryd.func37 rfl Tryd.ntmps37 rfl (fun C0 hC0 => ?_)
  repeat' (first | refine G_ops Kx_ok 6 rfl ?_ | refine G_op Kx_ok rfl ?_ | refine G_run rfl rfl rfl ?_ | refine G_nil ?_ | refine G_seq ?_ | refine G_region rfl ?_ | refine G_skip ?_ | refine G_block ?_ | refine G_drawn Kx_mixed rfl ?_ | refine D_ops Kx_ok 6 rfl ?_ | refine D_op Kx_ok rfl ?_ | refine D_nil rfl ?_ | refine G_cond_t rfl ?_ | refine G_cond_f rfl ?_ | refine G_exit ?_ | refine G_callP rfl rfl rfl rfl ((c_timeline_New e w).eq (optR_eq _)) rfl rfl rfl ?_ | refine D_call rfl rfl rfl rfl rfl ((c_timeline_New e w).eq (optR_eq _)) rfl rfl rfl rfl ?_ | refine G_splitD rfl (fun h => ?_) (fun h => ?_) | refine D_splitD rfl (fun h => ?_) (fun h => ?_) | ((fail_if_success refine G_isL rfl rfl ?_); refine G_split rfl (fun h => ?_) (fun h => ?_)) | ((fail_if_success refine D_isL rfl rfl ?_); refine D_split rfl (fun h => ?_) (fun h => ?_)) | refine G_condD rfl (fun h => ?_) (fun h => ?_) | refine G_condN rfl (fun h => ?_) (fun h => ?_) | refine G_cond rfl (fun h => ?_) (fun h => ?_) | refine G_ret (G_leave ?_))
  refine G_loopF (fun (p : Nat × Option (List Spn)) => [(8, spL (p.2.getD [])), (9, .int .i64 (errOf p.2)), (20, .int .i64 p.1)]) (fun _ => [])
    (fun p => p.1 ≤ xs.length ∧ (∀ l, p.2 = some l → l.length ≤ 200) ∧ (xs.drop p.1).foldl stepP p.2 = ppaint e w xs) (fun p => xs.length - p.1) (0, newS e w) rfl ⟨by simp, fun l hl' => ?_, rfl⟩ (G_atE (by repeat' (first | exact trivial | refine ⟨rfl, ?_⟩))) ?_
  · have := newS_len hl'; simp only at *; omega
  rintro ⟨i, q⟩ ⟨h1, h2, h3⟩
  dsimp only [List.cons_append, List.nil_append] at *
  repeat' (first | refine G_ops Kx_ok 6 rfl ?_ | refine G_op Kx_ok rfl ?_ | refine G_run rfl rfl rfl ?_ | refine G_nil ?_ | refine G_seq ?_ | refine G_region rfl ?_ | refine G_skip ?_ | refine G_block ?_ | refine G_drawn Kx_mixed rfl ?_ | refine D_ops Kx_ok 6 rfl ?_ | refine D_op Kx_ok rfl ?_ | refine D_nil rfl ?_ | refine G_cond_t rfl ?_ | refine G_cond_f rfl ?_ | refine G_exit ?_ | refine G_splitD rfl (fun h => ?_) (fun h => ?_) | refine D_splitD rfl (fun h => ?_) (fun h => ?_) | ((fail_if_success refine G_isL rfl rfl ?_); refine G_split rfl (fun h => ?_) (fun h => ?_)) | ((fail_if_success refine D_isL rfl rfl ?_); refine D_split rfl (fun h => ?_) (fun h => ?_)) | refine G_condD rfl (fun h => ?_) (fun h => ?_) | refine G_condN rfl (fun h => ?_) (fun h => ?_) | refine G_cond rfl (fun h => ?_) (fun h => ?_) | refine G_ret (G_leave ?_))
  · obtain ⟨s, hs, hd⟩ := drop_get (xs := xs) (i := i) (by simp at * <;> omega)
    cases q with
    | none =>
      repeat' (first | refine G_ops Kx_ok 6 rfl ?_ | refine G_op Kx_ok rfl ?_ | refine G_run rfl rfl rfl ?_ | refine G_nil ?_ | refine G_seq ?_ | refine G_region rfl ?_ | refine G_skip ?_ | refine G_block ?_ | refine G_drawn Kx_mixed rfl ?_ | refine D_ops Kx_ok 6 rfl ?_ | refine D_op Kx_ok rfl ?_ | refine D_nil rfl ?_ | refine G_cond_t rfl ?_ | refine G_cond_f rfl ?_ | refine G_exit ?_ | (refine G_index_lst Kx_ok rfl rfl rfl rfl rfl (map_get (x := s) (by simpa using hs)) (by omega) rfl rfl rfl ?_) | (refine D_index_lst Kx_ok _ rfl rfl rfl rfl rfl rfl (map_get (x := s) (by simpa using hs)) (by omega) rfl rfl rfl rfl ?_) | refine G_splitD rfl (fun h => ?_) (fun h => ?_) | refine D_splitD rfl (fun h => ?_) (fun h => ?_) | ((fail_if_success refine G_isL rfl rfl ?_); refine G_split rfl (fun h => ?_) (fun h => ?_)) | ((fail_if_success refine D_isL rfl rfl ?_); refine D_split rfl (fun h => ?_) (fun h => ?_)) | refine G_condD rfl (fun h => ?_) (fun h => ?_) | refine G_condN rfl (fun h => ?_) (fun h => ?_) | refine G_cond rfl (fun h => ?_) (fun h => ?_) | refine G_ret (G_leave ?_))
      refine G_lst_nil (t := 6) rfl ?_
      refine G_return Kx_ok rfl ?_
      rw [← h3, stepP_none]; rfl
    | some l =>
    have hl2 := h2 l rfl
    repeat' (first | refine G_ops Kx_ok 6 rfl ?_ | refine G_op Kx_ok rfl ?_ | refine G_run rfl rfl rfl ?_ | refine G_nil ?_ | refine G_seq ?_ | refine G_region rfl ?_ | refine G_skip ?_ | refine G_block ?_ | refine G_drawn Kx_mixed rfl ?_ | refine D_ops Kx_ok 6 rfl ?_ | refine D_op Kx_ok rfl ?_ | refine D_nil rfl ?_ | refine G_cond_t rfl ?_ | refine G_cond_f rfl ?_ | refine G_exit ?_ | (refine G_index_lst Kx_ok rfl rfl rfl rfl rfl (map_get (x := s) (by simpa using hs)) (by omega) rfl rfl rfl ?_) | (refine D_index_lst Kx_ok _ rfl rfl rfl rfl rfl rfl (map_get (x := s) (by simpa using hs)) (by omega) rfl rfl rfl rfl ?_) | refine G_callP rfl rfl rfl rfl (c_tl_Put l s (by omega)) rfl rfl rfl ?_ | refine D_call rfl rfl rfl rfl rfl (c_tl_Put l s (by omega)) rfl rfl rfl rfl ?_ | refine G_splitD rfl (fun h => ?_) (fun h => ?_) | refine D_splitD rfl (fun h => ?_) (fun h => ?_) | ((fail_if_success refine G_isL rfl rfl ?_); refine G_split rfl (fun h => ?_) (fun h => ?_)) | ((fail_if_success refine D_isL rfl rfl ?_); refine D_split rfl (fun h => ?_) (fun h => ?_)) | refine G_condD rfl (fun h => ?_) (fun h => ?_) | refine G_condN rfl (fun h => ?_) (fun h => ?_) | refine G_cond rfl (fun h => ?_) (fun h => ?_) | refine G_ret (G_leave ?_))
    all_goals try (exfalso; rename_i h; exact h rfl)
    refine G_nextF (i + 1, pput l s) ⟨by simp at * <;> omega, fun l' h' => pput_len h', ?_⟩ (by simp at * <;> omega) (G_atL hC0 rfl rfl (by repeat' (first | exact trivial | refine ⟨⟨rfl, rfl⟩, ?_⟩ | refine ⟨⟨iv (by first | rfl | omega | (rw [w64 (by omega) (by omega)]; omega)), rfl⟩, ?_⟩)) (by repeat' (first | exact trivial | refine ⟨.inl rfl, ?_⟩ | refine ⟨.inr ⟨rfl, rfl⟩, ?_⟩ | refine ⟨.inr ⟨arrE (by first | rfl | (rw [List.map_append]; rfl)), rfl⟩, ?_⟩)) (by repeat' (first | exact trivial | refine ⟨⟨rfl, rfl⟩, ?_⟩)))
    rw [← h3, hd]; rfl
  · refine G_return Kx_ok rfl ?_
    rw [← h3, List.drop_eq_nil_of_le (by simp at * <;> omega)]; rfl
end Go.Proofs.YtmdbpbncdkdipaaDoor
namespace Go.Proofs.YtmdbpbncdkdipaaDoor
open Go.Asl
set_option maxRecDepth 100000
set_option maxHeartbeats 4000000
attribute [local irreducible] Go.Asl.wpG Go.Code.wpIn Go.Asl.DrawG Go.Asl.LvX Go.Asl.G
def meet (s y : Spn) : Spe := ⟨if s.f < y.f then y.f else s.f, if y.t < s.t then y.t else s.t⟩
def rstepD (s : Spn) (acc : List Spe) (y : Spn) : List Spe := if (meet s y).t ≤ (meet s y).f ∨ s.o = y.o then acc else extE acc (meet s y)
theorem rstepD_len (s : Spn) (acc : List Spe) (y : Spn) : (rstepD s acc y).length ≤ acc.length + 1 := by
  unfold rstepD
  split
  · omega
  · exact extE_len _ _
def rrowD (ys : List Spn) (acc : List Spe) (s : Spn) : List Spe := ys.foldl (rstepD s) acc
theorem rrowD_len (s : Spn) : ∀ (ys : List Spn) (acc : List Spe), (rrowD ys acc s).length ≤ acc.length + ys.length
  | [], acc => by simp [rrowD]
  | y :: r, acc => by
    have h1 := rrowD_len s r (rstepD s acc y)
    have h2 := rstepD_len s acc y
    have : rrowD (y :: r) acc s = rrowD r (rstepD s acc y) s := rfl
    rw [this]; simp; omega
def rdiffW (xs ys : List Spn) : List Spe := xs.foldl (rrowD ys) []
def rdiff (xs ys : List Spn) : Option (List Spe) := if rvalid xs = true ∧ rvalid ys = true ∧ endOf xs = endOf ys then some (rdiffW xs ys) else none
end Go.Proofs.YtmdbpbncdkdipaaDoor
namespace Go.Proofs.YtmdbpbncdkdipaaDoor
open Go.Asl
set_option maxRecDepth 100000
set_option maxHeartbeats 4000000
attribute [local irreducible] Go.Asl.wpG Go.Code.wpIn Go.Asl.DrawG Go.Asl.LvX Go.Asl.G
theorem pickI_range (c n : Int) (hn : 0 < n) : 0 ≤ pickI c n ∧ pickI c n < n := by
  unfold pickI
  have key : ∀ m : Int, 0 ≤ m → 0 ≤ m.tmod n ∧ m.tmod n < n := fun m hm => ⟨Int.tmod_nonneg _ hm, Int.tmod_lt_of_pos _ hn⟩
  split
  · exact key _ (by omega)
  · exact key _ (by omega)
abbrev Tri := Int × Int × Int
def triA (p : Tri) : AV := .agg [.int .i64 p.1, .int .i64 p.2.1, .int .i64 p.2.2]
def triL (xs : List Tri) : AV := .lst (xs.map triA)
def R64t (p : Tri) : Prop := R64 p.1 ∧ R64 p.2.1 ∧ R64 p.2.2
def spanOf (e : Int) (p : Tri) : Spn := ⟨pickI p.1 e, pickI p.1 e + 1 + pickI p.2.1 (e - pickI p.1 e), pickI p.2.2 8⟩
def spansS (e : Int) (xs : List Tri) : List Spn := (xs.take 20).map (spanOf e)
theorem c_ref15_Spans (e : Int) (xs : List Tri) (h1 : 1 ≤ e) (h2 : e ≤ 10000000) (hx : ∀ p ∈ xs, R64t p) (hl : xs.length ≤ 9223372036854775807) : FnP Kx 35 [.int .i64 e, triL xs] (spL (spansS e xs)) := by
  refine FnT_of_body ent35 Tryd.func35 rfl Tryd.ntmps35 rfl (fun C0 hC0 => ?_)
  repeat' (first | refine G_ops Kx_ok 6 rfl ?_ | refine G_op Kx_ok rfl ?_ | refine G_run rfl rfl rfl ?_ | refine G_nil ?_ | refine G_seq ?_ | refine G_region rfl ?_ | refine G_skip ?_ | refine G_block ?_ | refine G_drawn Kx_mixed rfl ?_ | refine D_ops Kx_ok 6 rfl ?_ | refine D_op Kx_ok rfl ?_ | refine D_nil rfl ?_ | refine G_cond_t rfl ?_ | refine G_cond_f rfl ?_ | refine G_exit ?_ | refine G_splitD rfl (fun h => ?_) (fun h => ?_) | refine D_splitD rfl (fun h => ?_) (fun h => ?_) | ((fail_if_success refine G_isL rfl rfl ?_); refine G_split rfl (fun h => ?_) (fun h => ?_)) | ((fail_if_success refine D_isL rfl rfl ?_); refine D_split rfl (fun h => ?_) (fun h => ?_)) | refine G_condD rfl (fun h => ?_) (fun h => ?_) | refine G_condN rfl (fun h => ?_) (fun h => ?_) | refine G_cond rfl (fun h => ?_) (fun h => ?_) | refine G_ret (G_leave ?_))
  refine G_own_nil (t := 5) 1 74 3 rfl rfl ?_
  refine G_weakE [(5, .own 1), (0, .int .i64 e), (1, triL xs), (6, .int .i64 0)] (by repeat' (first | exact trivial | refine ⟨rfl, ?_⟩ | refine ⟨iv (by first | rfl | omega | (rw [w64 (by omega) (by omega)]; omega)), ?_⟩)) ?_
  refine G_loopF (fun (i : Nat) => [(5, .own 1), (6, .int .i64 i)]) (fun i => [(1, ownO ((xs.take i).map (spanOf e)))])
    (fun i => i ≤ xs.length ∧ i ≤ 20) (fun i => xs.length - i) 0 rfl ⟨by simp, by simp⟩ (G_atL hC0 rfl rfl (by repeat' (first | exact trivial | refine ⟨⟨rfl, rfl⟩, ?_⟩ | refine ⟨⟨iv (by first | rfl | omega | (rw [w64 (by omega) (by omega)]; omega)), rfl⟩, ?_⟩)) (by repeat' (first | exact trivial | refine ⟨.inl rfl, ?_⟩ | refine ⟨.inr ⟨rfl, rfl⟩, ?_⟩ | refine ⟨.inr ⟨arrE (by first | rfl | (rw [List.map_append]; rfl)), rfl⟩, ?_⟩)) (by repeat' (first | exact trivial | refine ⟨⟨rfl, rfl⟩, ?_⟩))) ?_
  rintro i ⟨g1, g2⟩
  dsimp only [List.cons_append, List.nil_append] at *
  repeat' (first | refine G_ops Kx_ok 6 rfl ?_ | refine G_op Kx_ok rfl ?_ | refine G_run rfl rfl rfl ?_ | refine G_nil ?_ | refine G_seq ?_ | refine G_region rfl ?_ | refine G_skip ?_ | refine G_block ?_ | refine G_drawn Kx_mixed rfl ?_ | refine D_ops Kx_ok 6 rfl ?_ | refine D_op Kx_ok rfl ?_ | refine D_nil rfl ?_ | refine G_cond_t rfl ?_ | refine G_cond_f rfl ?_ | refine G_exit ?_ | refine G_splitD rfl (fun h => ?_) (fun h => ?_) | refine D_splitD rfl (fun h => ?_) (fun h => ?_) | ((fail_if_success refine G_isL rfl rfl ?_); refine G_split rfl (fun h => ?_) (fun h => ?_)) | ((fail_if_success refine D_isL rfl rfl ?_); refine D_split rfl (fun h => ?_) (fun h => ?_)) | refine G_condD rfl (fun h => ?_) (fun h => ?_) | refine G_condN rfl (fun h => ?_) (fun h => ?_) | refine G_cond rfl (fun h => ?_) (fun h => ?_) | refine G_ret (G_leave ?_))
  · obtain ⟨p, hp, hd⟩ := drop_get (xs := xs) (i := i) (by simp at * <;> omega)
    have hlt : i < xs.length := by simp at * <;> omega
    obtain ⟨r1, r2, r3⟩ := hx p (List.mem_of_getElem? hp)
    have b1 := pickI_range p.1 e (by omega)
    have b2 := pickI_range p.2.1 (e - pickI p.1 e) (by omega)
    have e1 : IntKind.i64.wrap (e - pickI p.1 e) = e - pickI p.1 e := w64 (by omega) (by omega)
    have e2 : IntKind.i64.wrap (pickI p.1 e + 1) = pickI p.1 e + 1 := w64 (by omega) (by omega)
    have e3 : IntKind.i64.wrap (pickI p.1 e + 1 + pickI p.2.1 (e - pickI p.1 e)) = pickI p.1 e + 1 + pickI p.2.1 (e - pickI p.1 e) := w64 (by omega) (by omega)
    have htk : (xs.take (i + 1)).map (spanOf e) = (xs.take i).map (spanOf e) ++ [spanOf e p] := by
      rw [List.take_add_one, hp]; simp
    repeat' (first | refine G_ops Kx_ok 6 rfl ?_ | refine G_op Kx_ok rfl ?_ | refine G_run rfl rfl rfl ?_ | refine G_nil ?_ | refine G_seq ?_ | refine G_region rfl ?_ | refine G_skip ?_ | refine G_block ?_ | refine G_drawn Kx_mixed rfl ?_ | refine D_ops Kx_ok 6 rfl ?_ | refine D_op Kx_ok rfl ?_ | refine D_nil rfl ?_ | refine G_cond_t rfl ?_ | refine G_cond_f rfl ?_ | refine G_exit ?_ | (refine G_index_lst Kx_ok rfl rfl rfl rfl rfl (map_get (x := p) (by simpa using hp)) (by omega) rfl rfl rfl ?_) | (refine D_index_lst Kx_ok _ rfl rfl rfl rfl rfl rfl (map_get (x := p) (by simpa using hp)) (by omega) rfl rfl rfl rfl ?_) | refine G_appA Kx_ok rfl rfl rfl rfl rfl rfl rfl rfl rfl (fun zs e => by cases e <;> (intro y hy; obtain ⟨_, _, rfl⟩ := List.mem_map.1 hy; exact ⟨_, rfl, rfl⟩)) rfl (by simp at * <;> omega) rfl rfl rfl ?_ | refine D_appA Kx_ok rfl rfl rfl rfl rfl rfl rfl rfl rfl rfl (fun zs e => by cases e <;> (intro y hy; obtain ⟨_, _, rfl⟩ := List.mem_map.1 hy; exact ⟨_, rfl, rfl⟩)) rfl (by simp at * <;> omega) rfl rfl rfl rfl ?_ | refine G_appN Kx_ok rfl rfl rfl rfl rfl rfl rfl rfl (fun zs e => by cases e <;> (intro y hy; obtain ⟨_, _, rfl⟩ := List.mem_map.1 hy; exact ⟨_, rfl, rfl⟩)) rfl (by simp at * <;> omega) rfl rfl rfl ?_ | refine D_appN Kx_ok rfl rfl rfl rfl rfl rfl rfl rfl rfl (fun zs e => by cases e <;> (intro y hy; obtain ⟨_, _, rfl⟩ := List.mem_map.1 hy; exact ⟨_, rfl, rfl⟩)) rfl (by simp at * <;> omega) rfl rfl rfl rfl ?_ | refine G_callP rfl rfl rfl rfl (c_ref15_pick p.1 e r1 (by omega)) rfl rfl rfl ?_ | refine D_call rfl rfl rfl rfl rfl (c_ref15_pick p.1 e r1 (by omega)) rfl rfl rfl rfl ?_ | refine G_callP rfl rfl rfl rfl (c_ref15_pick p.2.1 (IntKind.i64.wrap (e - pickI p.1 e)) r2 (by rw [e1]; omega)) rfl rfl rfl ?_ | refine D_call rfl rfl rfl rfl rfl (c_ref15_pick p.2.1 (IntKind.i64.wrap (e - pickI p.1 e)) r2 (by rw [e1]; omega)) rfl rfl rfl rfl ?_ | refine G_callP rfl rfl rfl rfl (c_ref15_pick p.2.2 8 r3 (by omega)) rfl rfl rfl ?_ | refine D_call rfl rfl rfl rfl rfl (c_ref15_pick p.2.2 8 r3 (by omega)) rfl rfl rfl rfl ?_ | refine G_splitD rfl (fun h => ?_) (fun h => ?_) | refine D_splitD rfl (fun h => ?_) (fun h => ?_) | ((fail_if_success refine G_isL rfl rfl ?_); refine G_split rfl (fun h => ?_) (fun h => ?_)) | ((fail_if_success refine D_isL rfl rfl ?_); refine D_split rfl (fun h => ?_) (fun h => ?_)) | refine G_condD rfl (fun h => ?_) (fun h => ?_) | refine G_condN rfl (fun h => ?_) (fun h => ?_) | refine G_cond rfl (fun h => ?_) (fun h => ?_) | refine G_ret (G_leave ?_))
    rw [e1, e2, e3]
    refine G_nextF (i + 1) ⟨by omega, by simp at * <;> omega⟩ (by omega) ?_
    rw [htk]
    exact (G_atL hC0 rfl rfl (by repeat' (first | exact trivial | refine ⟨⟨rfl, rfl⟩, ?_⟩ | refine ⟨⟨iv (by first | rfl | omega | (rw [w64 (by omega) (by omega)]; omega)), rfl⟩, ?_⟩)) (by repeat' (first | exact trivial | refine ⟨.inl rfl, ?_⟩ | refine ⟨.inr ⟨rfl, rfl⟩, ?_⟩ | refine ⟨.inr ⟨arrE (by first | rfl | (rw [List.map_append]; rfl)), rfl⟩, ?_⟩)) (by repeat' (first | exact trivial | refine ⟨⟨rfl, rfl⟩, ?_⟩)))
  · refine G_freeze (m := 1) 4 rfl rfl ?_
    refine G_return Kx_ok rfl ?_
    rw [show i = 20 by omega]; rfl
  · refine G_freeze (m := 1) 4 rfl rfl ?_
    refine G_return Kx_ok rfl ?_
    have hi : i = xs.length := by simp at * <;> omega
    rw [spansS, List.take_of_length_le (by omega : xs.length ≤ 20), hi, List.take_length]; rfl
def madeS (n : Int) (xs : List Tri) : List Spn := (rpaint (1 + pickI n 400) 0 (spansS (1 + pickI n 400) xs)).getD []
theorem c_ref15_Made (n : Int) (xs : List Tri) (hn : R64 n) (hx : ∀ p ∈ xs, R64t p) (hl : xs.length ≤ 9223372036854775807) : FnP Kx 10 [.int .i64 n, triL xs] (spL (madeS n xs)) := by
  refine FnT_of_body ent10 Tryd.func10 rfl Tryd.ntmps10 rfl (fun C0 hC0 => ?_)
  have b := pickI_range n 400 (by omega)
  have e : IntKind.i64.wrap (1 + pickI n 400) = 1 + pickI n 400 := w64 (by omega) (by omega)
  have hs : (spansS (IntKind.i64.wrap (1 + pickI n 400)) xs).length ≤ 1000000000 := by simp [spansS]; omega
  repeat' (first | refine G_ops Kx_ok 6 rfl ?_ | refine G_op Kx_ok rfl ?_ | refine G_run rfl rfl rfl ?_ | refine G_nil ?_ | refine G_seq ?_ | refine G_region rfl ?_ | refine G_skip ?_ | refine G_block ?_ | refine G_drawn Kx_mixed rfl ?_ | refine D_ops Kx_ok 6 rfl ?_ | refine D_op Kx_ok rfl ?_ | refine D_nil rfl ?_ | refine G_cond_t rfl ?_ | refine G_cond_f rfl ?_ | refine G_exit ?_ | refine G_callP rfl rfl rfl rfl (c_ref15_pick n 400 hn (by omega)) rfl rfl rfl ?_ | refine D_call rfl rfl rfl rfl rfl (c_ref15_pick n 400 hn (by omega)) rfl rfl rfl rfl ?_ | refine G_callP rfl rfl rfl rfl (c_ref15_Spans (IntKind.i64.wrap (1 + pickI n 400)) xs (by omega) (by omega) hx hl) rfl rfl rfl ?_ | refine D_call rfl rfl rfl rfl rfl (c_ref15_Spans (IntKind.i64.wrap (1 + pickI n 400)) xs (by omega) (by omega) hx hl) rfl rfl rfl rfl ?_ | refine G_callP rfl rfl rfl rfl (c_ref15_Paint (IntKind.i64.wrap (1 + pickI n 400)) 0 (spansS (IntKind.i64.wrap (1 + pickI n 400)) xs) hs) rfl rfl rfl ?_ | refine D_call rfl rfl rfl rfl rfl (c_ref15_Paint (IntKind.i64.wrap (1 + pickI n 400)) 0 (spansS (IntKind.i64.wrap (1 + pickI n 400)) xs) hs) rfl rfl rfl rfl ?_ | refine G_splitD rfl (fun h => ?_) (fun h => ?_) | refine D_splitD rfl (fun h => ?_) (fun h => ?_) | ((fail_if_success refine G_isL rfl rfl ?_); refine G_split rfl (fun h => ?_) (fun h => ?_)) | ((fail_if_success refine D_isL rfl rfl ?_); refine D_split rfl (fun h => ?_) (fun h => ?_)) | refine G_condD rfl (fun h => ?_) (fun h => ?_) | refine G_condN rfl (fun h => ?_) (fun h => ?_) | refine G_cond rfl (fun h => ?_) (fun h => ?_) | refine G_ret (G_leave ?_))
  refine G_return Kx_ok rfl ?_
  rw [e]; rfl
def bentS (xs : List Spn) (how odd at' : Int) : List Spn :=
  if xs = [] then [⟨0, odd, 0⟩] else
  match xs[(pickI at' xs.length).toNat]? with
  | none => []
  | some s =>
    if pickI how 5 = 0 then xs.set (pickI at' xs.length).toNat ⟨odd, s.t, s.o⟩
    else if pickI how 5 = 1 then xs.set (pickI at' xs.length).toNat ⟨s.f, odd, s.o⟩
    else if pickI how 5 = 2 then xs.set (pickI at' xs.length).toNat ⟨s.f, s.t, odd⟩
    else if pickI how 5 = 3 then xs.take (pickI at' xs.length).toNat ++ xs.drop ((pickI at' xs.length).toNat + 1)
    else xs ++ [⟨endOf xs, odd, pickI at' 9⟩]
theorem spn_sized (xs : List Spn) : ∀ y ∈ xs.map spA, ∃ cs, y.cells = some cs ∧ cs.length = 3 := by
  intro y hy; obtain ⟨_, _, rfl⟩ := List.mem_map.1 hy; exact ⟨_, rfl, rfl⟩
theorem c_ref15_Bent (xs : List Spn) (how odd at' : Int) (h1 : R64 how) (h3 : R64 at') (hl : xs.length ≤ 1000000000) : FnP Kx 13 [spL xs, .int .i64 how, .int .i64 odd, .int .i64 at'] (spL (bentS xs how odd at')) := by
  refine FnT_of_body ent13 Tryd.func13 rfl Tryd.ntmps13 rfl (fun C0 hC0 => ?_)
  repeat' (first | refine G_ops Kx_ok 6 rfl ?_ | refine G_op Kx_ok rfl ?_ | refine G_run rfl rfl rfl ?_ | refine G_nil ?_ | refine G_seq ?_ | refine G_region rfl ?_ | refine G_skip ?_ | refine G_block ?_ | refine G_drawn Kx_mixed rfl ?_ | refine D_ops Kx_ok 6 rfl ?_ | refine D_op Kx_ok rfl ?_ | refine D_nil rfl ?_ | refine G_cond_t rfl ?_ | refine G_cond_f rfl ?_ | refine G_exit ?_ | refine G_appA Kx_ok rfl rfl rfl rfl rfl rfl rfl rfl rfl (fun zs e => by cases e <;> (intro y hy; obtain ⟨_, _, rfl⟩ := List.mem_map.1 hy; exact ⟨_, rfl, rfl⟩)) rfl (by first | omega | (simp at * <;> omega)) rfl rfl rfl ?_ | refine D_appA Kx_ok rfl rfl rfl rfl rfl rfl rfl rfl rfl rfl (fun zs e => by cases e <;> (intro y hy; obtain ⟨_, _, rfl⟩ := List.mem_map.1 hy; exact ⟨_, rfl, rfl⟩)) rfl (by first | omega | (simp at * <;> omega)) rfl rfl rfl rfl ?_ | refine G_appN Kx_ok rfl rfl rfl rfl rfl rfl rfl rfl (fun zs e => by cases e <;> (intro y hy; obtain ⟨_, _, rfl⟩ := List.mem_map.1 hy; exact ⟨_, rfl, rfl⟩)) rfl (by first | omega | (simp at * <;> omega)) rfl rfl rfl ?_ | refine D_appN Kx_ok rfl rfl rfl rfl rfl rfl rfl rfl rfl (fun zs e => by cases e <;> (intro y hy; obtain ⟨_, _, rfl⟩ := List.mem_map.1 hy; exact ⟨_, rfl, rfl⟩)) rfl (by first | omega | (simp at * <;> omega)) rfl rfl rfl rfl ?_ | refine G_splitD rfl (fun h => ?_) (fun h => ?_) | refine D_splitD rfl (fun h => ?_) (fun h => ?_) | ((fail_if_success refine G_isL rfl rfl ?_); refine G_split rfl (fun h => ?_) (fun h => ?_)) | ((fail_if_success refine D_isL rfl rfl ?_); refine D_split rfl (fun h => ?_) (fun h => ?_)) | refine G_condD rfl (fun h => ?_) (fun h => ?_) | refine G_condN rfl (fun h => ?_) (fun h => ?_) | refine G_cond rfl (fun h => ?_) (fun h => ?_) | refine G_ret (G_leave ?_))
  · have hx : xs = [] := by cases xs with
      | nil => rfl
      | cons a r => exfalso; simp at h <;> omega
    refine G_freeze (m := 2) 8 rfl rfl ?_
    refine G_return Kx_ok rfl ?_
    rw [hx]; rfl
  have hne : xs ≠ [] := fun e => by subst e; exact h rfl
  have hpos : 0 < xs.length := List.length_pos_iff.2 hne
  have b := pickI_range at' xs.length (by omega)
  obtain ⟨k, hk, hkl⟩ : ∃ k : Nat, pickI at' xs.length = k ∧ k < xs.length := ⟨(pickI at' xs.length).toNat, by omega, by omega⟩
  obtain ⟨s, hs⟩ : ∃ s, xs[k]? = some s := ⟨xs[k], List.getElem?_eq_getElem hkl⟩
  refine G_int (t := 22) (b := (xs.length : Int)) rfl (by simp) ?_
  refine G_arr (t := 1) (ys' := xs.map spA) rfl rfl ?_
  refine G_weakE [(22, .int .i64 xs.length), (9, .own 1), (0, spL xs), (1, .int .i64 how), (2, .int .i64 odd), (3, .int .i64 at'), (20, .int .i64 at')] (by repeat' (first | exact trivial | refine ⟨rfl, ?_⟩ | refine ⟨iv (by first | rfl | omega | (rw [w64 (by omega) (by omega)]; omega)), ?_⟩)) ?_
  repeat' (first | refine G_ops Kx_ok 6 rfl ?_ | refine G_op Kx_ok rfl ?_ | refine G_run rfl rfl rfl ?_ | refine G_nil ?_ | refine G_seq ?_ | refine G_region rfl ?_ | refine G_skip ?_ | refine G_block ?_ | refine D_ops Kx_ok 6 rfl ?_ | refine D_op Kx_ok rfl ?_ | refine D_nil rfl ?_ | refine G_cond_t rfl ?_ | refine G_cond_f rfl ?_ | refine G_exit ?_ | refine G_callP rfl rfl rfl rfl ((c_ref15_pick at' xs.length h3 (by omega)).eq (iv hk)) rfl rfl rfl ?_ | refine D_call rfl rfl rfl rfl rfl ((c_ref15_pick at' xs.length h3 (by omega)).eq (iv hk)) rfl rfl rfl rfl ?_ | refine G_callP rfl rfl rfl rfl (c_ref15_pick how 5 h1 (by omega)) rfl rfl rfl ?_ | refine D_call rfl rfl rfl rfl rfl (c_ref15_pick how 5 h1 (by omega)) rfl rfl rfl rfl ?_ | refine G_splitD rfl (fun h => ?_) (fun h => ?_) | refine D_splitD rfl (fun h => ?_) (fun h => ?_) | ((fail_if_success refine G_isL rfl rfl ?_); refine G_split rfl (fun h => ?_) (fun h => ?_)) | ((fail_if_success refine D_isL rfl rfl ?_); refine D_split rfl (fun h => ?_) (fun h => ?_)) | refine G_condD rfl (fun h => ?_) (fun h => ?_) | refine G_condN rfl (fun h => ?_) (fun h => ?_) | refine G_cond rfl (fun h => ?_) (fun h => ?_) | refine G_ret (G_leave ?_))
  · have e : bentS xs how odd at' = xs.set k ⟨odd, s.t, s.o⟩ := by simp only [bentS, if_neg hne, hk, Int.toNat_natCast, hs, if_pos ‹pickI how 5 = 0›]
    repeat' (first | refine G_ops Kx_ok 6 rfl ?_ | refine G_op Kx_ok rfl ?_ | refine G_run rfl rfl rfl ?_ | refine G_nil ?_ | refine G_seq ?_ | refine G_region rfl ?_ | refine G_skip ?_ | refine G_block ?_ | refine G_drawn Kx_mixed rfl ?_ | refine D_ops Kx_ok 6 rfl ?_ | refine D_op Kx_ok rfl ?_ | refine D_nil rfl ?_ | refine G_cond_t rfl ?_ | refine G_cond_f rfl ?_ | refine G_exit ?_ | refine G_index_own Kx_ok rfl rfl rfl rfl rfl rfl rfl (by omega) (by first | omega | (simp at * <;> omega)) rfl ?_ | refine D_index_own Kx_ok rfl rfl rfl rfl rfl rfl rfl rfl (by omega) (by first | omega | (simp at * <;> omega)) rfl rfl ?_ | refine G_store_elem Kx_ok rfl rfl rfl rfl (map_get (x := s) (by simpa using hs)) rfl rfl rfl rfl rfl rfl ?_ | refine D_store_elem Kx_ok rfl rfl rfl rfl rfl (map_get (x := s) (by simpa using hs)) rfl rfl rfl rfl rfl rfl rfl ?_ | refine G_splitD rfl (fun h => ?_) (fun h => ?_) | refine D_splitD rfl (fun h => ?_) (fun h => ?_) | ((fail_if_success refine G_isL rfl rfl ?_); refine G_split rfl (fun h => ?_) (fun h => ?_)) | ((fail_if_success refine D_isL rfl rfl ?_); refine D_split rfl (fun h => ?_) (fun h => ?_)) | refine G_condD rfl (fun h => ?_) (fun h => ?_) | refine G_condN rfl (fun h => ?_) (fun h => ?_) | refine G_cond rfl (fun h => ?_) (fun h => ?_) | refine G_ret (G_leave ?_))
    refine G_arr (t := 1) (ys' := (xs.set k ⟨odd, s.t, s.o⟩).map spA) rfl (map_set xs k ⟨odd, s.t, s.o⟩) ?_
    repeat' (first | refine G_ops Kx_ok 6 rfl ?_ | refine G_op Kx_ok rfl ?_ | refine G_run rfl rfl rfl ?_ | refine G_nil ?_ | refine G_seq ?_ | refine G_region rfl ?_ | refine G_skip ?_ | refine G_block ?_ | refine G_drawn Kx_mixed rfl ?_ | refine D_ops Kx_ok 6 rfl ?_ | refine D_op Kx_ok rfl ?_ | refine D_nil rfl ?_ | refine G_cond_t rfl ?_ | refine G_cond_f rfl ?_ | refine G_exit ?_ | refine G_splitD rfl (fun h => ?_) (fun h => ?_) | refine D_splitD rfl (fun h => ?_) (fun h => ?_) | ((fail_if_success refine G_isL rfl rfl ?_); refine G_split rfl (fun h => ?_) (fun h => ?_)) | ((fail_if_success refine D_isL rfl rfl ?_); refine D_split rfl (fun h => ?_) (fun h => ?_)) | refine G_condD rfl (fun h => ?_) (fun h => ?_) | refine G_condN rfl (fun h => ?_) (fun h => ?_) | refine G_cond rfl (fun h => ?_) (fun h => ?_) | refine G_ret (G_leave ?_))
    refine G_freeze (m := 1) 8 rfl rfl ?_
    refine G_return Kx_ok rfl ?_
    rw [e]; rfl
  · have e : bentS xs how odd at' = xs.set k ⟨s.f, odd, s.o⟩ := by simp only [bentS, if_neg hne, hk, Int.toNat_natCast, hs, if_neg ‹¬ pickI how 5 = 0›, if_pos ‹pickI how 5 = 1›]
    repeat' (first | refine G_ops Kx_ok 6 rfl ?_ | refine G_op Kx_ok rfl ?_ | refine G_run rfl rfl rfl ?_ | refine G_nil ?_ | refine G_seq ?_ | refine G_region rfl ?_ | refine G_skip ?_ | refine G_block ?_ | refine G_drawn Kx_mixed rfl ?_ | refine D_ops Kx_ok 6 rfl ?_ | refine D_op Kx_ok rfl ?_ | refine D_nil rfl ?_ | refine G_cond_t rfl ?_ | refine G_cond_f rfl ?_ | refine G_exit ?_ | refine G_index_own Kx_ok rfl rfl rfl rfl rfl rfl rfl (by omega) (by first | omega | (simp at * <;> omega)) rfl ?_ | refine D_index_own Kx_ok rfl rfl rfl rfl rfl rfl rfl rfl (by omega) (by first | omega | (simp at * <;> omega)) rfl rfl ?_ | refine G_store_elem Kx_ok rfl rfl rfl rfl (map_get (x := s) (by simpa using hs)) rfl rfl rfl rfl rfl rfl ?_ | refine D_store_elem Kx_ok rfl rfl rfl rfl rfl (map_get (x := s) (by simpa using hs)) rfl rfl rfl rfl rfl rfl rfl ?_ | refine G_splitD rfl (fun h => ?_) (fun h => ?_) | refine D_splitD rfl (fun h => ?_) (fun h => ?_) | ((fail_if_success refine G_isL rfl rfl ?_); refine G_split rfl (fun h => ?_) (fun h => ?_)) | ((fail_if_success refine D_isL rfl rfl ?_); refine D_split rfl (fun h => ?_) (fun h => ?_)) | refine G_condD rfl (fun h => ?_) (fun h => ?_) | refine G_condN rfl (fun h => ?_) (fun h => ?_) | refine G_cond rfl (fun h => ?_) (fun h => ?_) | refine G_ret (G_leave ?_))
    refine G_arr (t := 1) (ys' := (xs.set k ⟨s.f, odd, s.o⟩).map spA) rfl (map_set xs k ⟨s.f, odd, s.o⟩) ?_
    repeat' (first | refine G_ops Kx_ok 6 rfl ?_ | refine G_op Kx_ok rfl ?_ | refine G_run rfl rfl rfl ?_ | refine G_nil ?_ | refine G_seq ?_ | refine G_region rfl ?_ | refine G_skip ?_ | refine G_block ?_ | refine G_drawn Kx_mixed rfl ?_ | refine D_ops Kx_ok 6 rfl ?_ | refine D_op Kx_ok rfl ?_ | refine D_nil rfl ?_ | refine G_cond_t rfl ?_ | refine G_cond_f rfl ?_ | refine G_exit ?_ | refine G_splitD rfl (fun h => ?_) (fun h => ?_) | refine D_splitD rfl (fun h => ?_) (fun h => ?_) | ((fail_if_success refine G_isL rfl rfl ?_); refine G_split rfl (fun h => ?_) (fun h => ?_)) | ((fail_if_success refine D_isL rfl rfl ?_); refine D_split rfl (fun h => ?_) (fun h => ?_)) | refine G_condD rfl (fun h => ?_) (fun h => ?_) | refine G_condN rfl (fun h => ?_) (fun h => ?_) | refine G_cond rfl (fun h => ?_) (fun h => ?_) | refine G_ret (G_leave ?_))
    refine G_freeze (m := 1) 8 rfl rfl ?_
    refine G_return Kx_ok rfl ?_
    rw [e]; rfl
  · have e : bentS xs how odd at' = xs.set k ⟨s.f, s.t, odd⟩ := by simp only [bentS, if_neg hne, hk, Int.toNat_natCast, hs, if_neg ‹¬ pickI how 5 = 0›, if_neg ‹¬ pickI how 5 = 1›, if_pos ‹pickI how 5 = 2›]
    repeat' (first | refine G_ops Kx_ok 6 rfl ?_ | refine G_op Kx_ok rfl ?_ | refine G_run rfl rfl rfl ?_ | refine G_nil ?_ | refine G_seq ?_ | refine G_region rfl ?_ | refine G_skip ?_ | refine G_block ?_ | refine G_drawn Kx_mixed rfl ?_ | refine D_ops Kx_ok 6 rfl ?_ | refine D_op Kx_ok rfl ?_ | refine D_nil rfl ?_ | refine G_cond_t rfl ?_ | refine G_cond_f rfl ?_ | refine G_exit ?_ | refine G_index_own Kx_ok rfl rfl rfl rfl rfl rfl rfl (by omega) (by first | omega | (simp at * <;> omega)) rfl ?_ | refine D_index_own Kx_ok rfl rfl rfl rfl rfl rfl rfl rfl (by omega) (by first | omega | (simp at * <;> omega)) rfl rfl ?_ | refine G_store_elem Kx_ok rfl rfl rfl rfl (map_get (x := s) (by simpa using hs)) rfl rfl rfl rfl rfl rfl ?_ | refine D_store_elem Kx_ok rfl rfl rfl rfl rfl (map_get (x := s) (by simpa using hs)) rfl rfl rfl rfl rfl rfl rfl ?_ | refine G_splitD rfl (fun h => ?_) (fun h => ?_) | refine D_splitD rfl (fun h => ?_) (fun h => ?_) | ((fail_if_success refine G_isL rfl rfl ?_); refine G_split rfl (fun h => ?_) (fun h => ?_)) | ((fail_if_success refine D_isL rfl rfl ?_); refine D_split rfl (fun h => ?_) (fun h => ?_)) | refine G_condD rfl (fun h => ?_) (fun h => ?_) | refine G_condN rfl (fun h => ?_) (fun h => ?_) | refine G_cond rfl (fun h => ?_) (fun h => ?_) | refine G_ret (G_leave ?_))
    refine G_arr (t := 1) (ys' := (xs.set k ⟨s.f, s.t, odd⟩).map spA) rfl (map_set xs k ⟨s.f, s.t, odd⟩) ?_
    repeat' (first | refine G_ops Kx_ok 6 rfl ?_ | refine G_op Kx_ok rfl ?_ | refine G_run rfl rfl rfl ?_ | refine G_nil ?_ | refine G_seq ?_ | refine G_region rfl ?_ | refine G_skip ?_ | refine G_block ?_ | refine G_drawn Kx_mixed rfl ?_ | refine D_ops Kx_ok 6 rfl ?_ | refine D_op Kx_ok rfl ?_ | refine D_nil rfl ?_ | refine G_cond_t rfl ?_ | refine G_cond_f rfl ?_ | refine G_exit ?_ | refine G_splitD rfl (fun h => ?_) (fun h => ?_) | refine D_splitD rfl (fun h => ?_) (fun h => ?_) | ((fail_if_success refine G_isL rfl rfl ?_); refine G_split rfl (fun h => ?_) (fun h => ?_)) | ((fail_if_success refine D_isL rfl rfl ?_); refine D_split rfl (fun h => ?_) (fun h => ?_)) | refine G_condD rfl (fun h => ?_) (fun h => ?_) | refine G_condN rfl (fun h => ?_) (fun h => ?_) | refine G_cond rfl (fun h => ?_) (fun h => ?_) | refine G_ret (G_leave ?_))
    refine G_freeze (m := 1) 8 rfl rfl ?_
    refine G_return Kx_ok rfl ?_
    rw [e]; rfl
  · have e : bentS xs how odd at' = xs.take k ++ xs.drop (k + 1) := by simp only [bentS, if_neg hne, hk, Int.toNat_natCast, hs, if_neg ‹¬ pickI how 5 = 0›, if_neg ‹¬ pickI how 5 = 1›, if_neg ‹¬ pickI how 5 = 2›, if_pos ‹pickI how 5 = 3›]
    refine G_freeze (m := 1) 9 rfl rfl ?_
    repeat' (first | refine G_ops Kx_ok 6 rfl ?_ | refine G_op Kx_ok rfl ?_ | refine G_run rfl rfl rfl ?_ | refine G_nil ?_ | refine G_seq ?_ | refine G_region rfl ?_ | refine G_skip ?_ | refine G_block ?_ | refine G_drawn Kx_mixed rfl ?_ | refine D_ops Kx_ok 6 rfl ?_ | refine D_op Kx_ok rfl ?_ | refine D_nil rfl ?_ | refine G_cond_t rfl ?_ | refine G_cond_f rfl ?_ | refine G_exit ?_ | refine D_slice3 Kx_ok rfl rfl rfl rfl rfl rfl rfl (by omega) (by simp; omega) (spn_sized xs) rfl rfl ?_ | refine G_splitD rfl (fun h => ?_) (fun h => ?_) | refine D_splitD rfl (fun h => ?_) (fun h => ?_) | ((fail_if_success refine G_isL rfl rfl ?_); refine G_split rfl (fun h => ?_) (fun h => ?_)) | ((fail_if_success refine D_isL rfl rfl ?_); refine D_split rfl (fun h => ?_) (fun h => ?_)) | refine G_condD rfl (fun h => ?_) (fun h => ?_) | refine G_condN rfl (fun h => ?_) (fun h => ?_) | refine G_cond rfl (fun h => ?_) (fun h => ?_) | refine G_ret (G_leave ?_))
    refine D_val (t := 61) (v := .clip ((xs.map spA).take k)) (v' := .clip ((xs.take k).map spA)) rfl (by rw [List.map_take]) ?_
    refine D_int (t := 64) (b := ((k + 1 : Nat) : Int)) rfl (by rw [w64] <;> omega) ?_
    repeat' (first | refine G_ops Kx_ok 6 rfl ?_ | refine G_op Kx_ok rfl ?_ | refine G_run rfl rfl rfl ?_ | refine G_nil ?_ | refine G_seq ?_ | refine G_region rfl ?_ | refine G_skip ?_ | refine G_block ?_ | refine G_drawn Kx_mixed rfl ?_ | refine D_ops Kx_ok 6 rfl ?_ | refine D_op Kx_ok rfl ?_ | refine D_nil rfl ?_ | refine G_cond_t rfl ?_ | refine G_cond_f rfl ?_ | refine G_exit ?_ | refine D_slice Kx_ok rfl rfl rfl rfl rfl rfl rfl (by omega) (by simp; omega) (by simp) (spn_sized xs) rfl rfl ?_ | refine G_splitD rfl (fun h => ?_) (fun h => ?_) | refine D_splitD rfl (fun h => ?_) (fun h => ?_) | ((fail_if_success refine G_isL rfl rfl ?_); refine G_split rfl (fun h => ?_) (fun h => ?_)) | ((fail_if_success refine D_isL rfl rfl ?_); refine D_split rfl (fun h => ?_) (fun h => ?_)) | refine G_condD rfl (fun h => ?_) (fun h => ?_) | refine G_condN rfl (fun h => ?_) (fun h => ?_) | refine G_cond rfl (fun h => ?_) (fun h => ?_) | refine G_ret (G_leave ?_))
    refine D_val (t := 65) (v := .lst (((xs.map spA).take (xs.map spA).length).drop (k + 1))) (v' := .lst ((xs.drop (k + 1)).map spA)) rfl (by rw [List.map_drop, List.take_of_length_le (Nat.le_refl _)]) ?_
    by_cases hlast : xs.drop (k + 1) = []
    · rw [hlast]
      repeat' (first | refine G_ops Kx_ok 6 rfl ?_ | refine G_op Kx_ok rfl ?_ | refine G_run rfl rfl rfl ?_ | refine G_nil ?_ | refine G_seq ?_ | refine G_region rfl ?_ | refine G_skip ?_ | refine G_block ?_ | refine G_drawn Kx_mixed rfl ?_ | refine D_ops Kx_ok 6 rfl ?_ | refine D_op Kx_ok rfl ?_ | refine D_nil rfl ?_ | refine G_cond_t rfl ?_ | refine G_cond_f rfl ?_ | refine G_exit ?_ | refine D_appC0 Kx_ok rfl rfl rfl rfl rfl rfl rfl rfl rfl rfl rfl ?_ | refine G_splitD rfl (fun h => ?_) (fun h => ?_) | refine D_splitD rfl (fun h => ?_) (fun h => ?_) | ((fail_if_success refine G_isL rfl rfl ?_); refine G_split rfl (fun h => ?_) (fun h => ?_)) | ((fail_if_success refine D_isL rfl rfl ?_); refine D_split rfl (fun h => ?_) (fun h => ?_)) | refine G_condD rfl (fun h => ?_) (fun h => ?_) | refine G_condN rfl (fun h => ?_) (fun h => ?_) | refine G_cond rfl (fun h => ?_) (fun h => ?_) | refine G_ret (G_leave ?_))
      refine G_clip (t := 8) rfl ?_
      refine G_return Kx_ok rfl ?_
      rw [e, hlast, List.append_nil]; rfl
    · repeat' (first | refine G_ops Kx_ok 6 rfl ?_ | refine G_op Kx_ok rfl ?_ | refine G_run rfl rfl rfl ?_ | refine G_nil ?_ | refine G_seq ?_ | refine G_region rfl ?_ | refine G_skip ?_ | refine G_block ?_ | refine G_drawn Kx_mixed rfl ?_ | refine D_ops Kx_ok 6 rfl ?_ | refine D_op Kx_ok rfl ?_ | refine D_nil rfl ?_ | refine G_cond_t rfl ?_ | refine G_cond_f rfl ?_ | refine G_exit ?_ | refine D_appC Kx_ok rfl rfl rfl rfl rfl rfl rfl rfl rfl (spn_sized _) (spn_sized _) (by simpa using hlast) rfl (by simp; omega) rfl rfl rfl ?_ | refine G_splitD rfl (fun h => ?_) (fun h => ?_) | refine D_splitD rfl (fun h => ?_) (fun h => ?_) | ((fail_if_success refine G_isL rfl rfl ?_); refine G_split rfl (fun h => ?_) (fun h => ?_)) | ((fail_if_success refine D_isL rfl rfl ?_); refine D_split rfl (fun h => ?_) (fun h => ?_)) | refine G_condD rfl (fun h => ?_) (fun h => ?_) | refine G_condN rfl (fun h => ?_) (fun h => ?_) | refine G_cond rfl (fun h => ?_) (fun h => ?_) | refine G_ret (G_leave ?_))
      refine G_freeze (m := 2) 8 rfl rfl ?_
      refine G_return Kx_ok rfl ?_
      rw [e, spL, List.map_append]; rfl
  · have e : bentS xs how odd at' = xs ++ [⟨endOf xs, odd, pickI at' 9⟩] := by simp only [bentS, if_neg hne, hk, Int.toNat_natCast, hs, if_neg ‹¬ pickI how 5 = 0›, if_neg ‹¬ pickI how 5 = 1›, if_neg ‹¬ pickI how 5 = 2›, if_neg ‹¬ pickI how 5 = 3›]
    repeat' (first | refine G_ops Kx_ok 6 rfl ?_ | refine G_op Kx_ok rfl ?_ | refine G_run rfl rfl rfl ?_ | refine G_nil ?_ | refine G_seq ?_ | refine G_region rfl ?_ | refine G_skip ?_ | refine G_block ?_ | refine G_drawn Kx_mixed rfl ?_ | refine D_ops Kx_ok 6 rfl ?_ | refine D_op Kx_ok rfl ?_ | refine D_nil rfl ?_ | refine G_cond_t rfl ?_ | refine G_cond_f rfl ?_ | refine G_exit ?_ | refine G_appA Kx_ok rfl rfl rfl rfl rfl rfl rfl rfl rfl (fun zs e => by cases e <;> (intro y hy; obtain ⟨_, _, rfl⟩ := List.mem_map.1 hy; exact ⟨_, rfl, rfl⟩)) rfl (by simp; omega) rfl rfl rfl ?_ | refine D_appA Kx_ok rfl rfl rfl rfl rfl rfl rfl rfl rfl rfl (fun zs e => by cases e <;> (intro y hy; obtain ⟨_, _, rfl⟩ := List.mem_map.1 hy; exact ⟨_, rfl, rfl⟩)) rfl (by simp; omega) rfl rfl rfl rfl ?_ | refine G_appN Kx_ok rfl rfl rfl rfl rfl rfl rfl rfl (fun zs e => by cases e <;> (intro y hy; obtain ⟨_, _, rfl⟩ := List.mem_map.1 hy; exact ⟨_, rfl, rfl⟩)) rfl (by simp; omega) rfl rfl rfl ?_ | refine D_appN Kx_ok rfl rfl rfl rfl rfl rfl rfl rfl rfl (fun zs e => by cases e <;> (intro y hy; obtain ⟨_, _, rfl⟩ := List.mem_map.1 hy; exact ⟨_, rfl, rfl⟩)) rfl (by simp; omega) rfl rfl rfl rfl ?_ | refine G_callP rfl rfl rfl rfl (c_ref15_end xs (by omega)) rfl rfl rfl ?_ | refine D_call rfl rfl rfl rfl rfl (c_ref15_end xs (by omega)) rfl rfl rfl rfl ?_ | refine G_callP rfl rfl rfl rfl (c_ref15_pick at' 9 h3 (by omega)) rfl rfl rfl ?_ | refine D_call rfl rfl rfl rfl rfl (c_ref15_pick at' 9 h3 (by omega)) rfl rfl rfl rfl ?_ | refine G_splitD rfl (fun h => ?_) (fun h => ?_) | refine D_splitD rfl (fun h => ?_) (fun h => ?_) | ((fail_if_success refine G_isL rfl rfl ?_); refine G_split rfl (fun h => ?_) (fun h => ?_)) | ((fail_if_success refine D_isL rfl rfl ?_); refine D_split rfl (fun h => ?_) (fun h => ?_)) | refine G_condD rfl (fun h => ?_) (fun h => ?_) | refine G_condN rfl (fun h => ?_) (fun h => ?_) | refine G_cond rfl (fun h => ?_) (fun h => ?_) | refine G_ret (G_leave ?_))
    refine G_freeze (m := 3) 8 rfl rfl ?_
    refine G_return Kx_ok rfl ?_
    rw [e, spL, List.map_append]; rfl

end Go.Proofs.YtmdbpbncdkdipaaDoor
/- The plain law of the timelines: what the program computes is what the reference computes. -/
namespace Go.Proofs.YtmdbpbncdkdipaaDoor
open Go.Asl
theorem valid_eqG : ∀ (xs : List Spn) (a w : Int) (w' : Option Int), (w' = none → w = -1) → (∀ v, w' = some v → w = v) → validG a w xs = rvalidG a w' xs
  | [], _, _, _, _, _ => rfl
  | s :: r, a, w, w', h1, h2 => by
    have ih := valid_eqG r s.t s.o (some s.o) (by simp) (by simp)
    rw [Bool.eq_iff_iff]
    simp only [validG, rvalidG, isOwn, Bool.and_eq_true, decide_eq_true_eq, ih]
    cases w' with
    | none =>
      have := h1 rfl
      subst this
      constructor
      · rintro ⟨⟨⟨⟨⟨a1, a2⟩, a3⟩, a4, a5⟩, a6⟩, a7⟩
        exact ⟨⟨⟨⟨⟨⟨a1, a2⟩, a3⟩, a4⟩, a5⟩, by simp⟩, a7⟩
      · rintro ⟨⟨⟨⟨⟨⟨a1, a2⟩, a3⟩, a4⟩, a5⟩, a6⟩, a7⟩
        exact ⟨⟨⟨⟨⟨a1, a2⟩, a3⟩, a4, a5⟩, by omega⟩, a7⟩
    | some v =>
      have := h2 v rfl
      subst this
      constructor
      · rintro ⟨⟨⟨⟨⟨a1, a2⟩, a3⟩, a4, a5⟩, a6⟩, a7⟩
        exact ⟨⟨⟨⟨⟨⟨a1, a2⟩, a3⟩, a4⟩, a5⟩, by simpa using a6⟩, a7⟩
      · rintro ⟨⟨⟨⟨⟨⟨a1, a2⟩, a3⟩, a4⟩, a5⟩, a6⟩, a7⟩
        exact ⟨⟨⟨⟨⟨a1, a2⟩, a3⟩, a4, a5⟩, by simpa using a6⟩, a7⟩
theorem valid_eq (xs : List Spn) : rvalid xs = valid xs := by
  unfold valid rvalid
  rw [valid_eqG xs 0 (-1) none (by simp) (by simp), Bool.and_comm]
theorem cut_eq (a b : Int) (s : Spn) : cut a b s = cutW a b s := by
  simp only [cut, cutW, Spn.mk.injEq, and_true]
  constructor <;> split <;> split <;> omega
theorem addS_eq (xs : List Spn) (s : Spn) : addS xs s = if s.f < s.t then extS xs s else xs := by
  unfold addS extS
  by_cases h : s.t ≤ s.f
  · rw [if_pos h, if_neg (by omega)]
  · rw [if_neg h, if_pos (by omega)]
    cases hg : xs.getLast? with
    | none => have : xs = [] := by simpa using hg
              subst this; rfl
    | some l => rfl
theorem part_eq (a b : Int) (xs : List Spn) : ∀ acc, partS acc xs a b = partW xs a b acc := by
  induction xs with
  | nil => intro acc; rfl
  | cons s r ih =>
    intro acc
    show partS (addS acc (cut a b s)) r a b = partW r a b (stepW a b acc s)
    rw [ih, addS_eq, cut_eq]; rfl
theorem valid_len {xs : List Spn} (h : valid xs = true) : xs.length ≤ 200 := by
  unfold valid at h
  rw [Bool.and_eq_true, decide_eq_true_eq] at h
  exact h.2
theorem rput_eq (xs : List Spn) (s : Spn) : rput xs s = pput xs s := by
  unfold rput pput
  by_cases hs : s.f < s.t
  · rw [part_eq, part_eq, addS_eq, if_pos hs, valid_eq]
    simp only [isIn, isOwn, Bool.and_eq_true, decide_eq_true_eq]
    by_cases hc : valid xs = true ∧ ((0 ≤ s.f ∧ s.f < s.t) ∧ s.t ≤ endOf xs) ∧ (0 ≤ s.o ∧ s.o ≤ 2999) ∧ (partW xs s.t (endOf xs) (extS (partW xs 0 s.f []) s)).length ≤ 200
    · rw [if_pos hc, if_pos ⟨hc.1, hc.2.1.1.1, hc.2.1.1.2, hc.2.1.2, hc.2.2.1.1, hc.2.2.1.2, hc.2.2.2⟩]
    · rw [if_neg hc, if_neg (fun h => hc ⟨h.1, ⟨⟨h.2.1, h.2.2.1⟩, h.2.2.2.1⟩, ⟨h.2.2.2.2.1, h.2.2.2.2.2.1⟩, h.2.2.2.2.2.2⟩)]
  · rw [if_neg (fun h => hs h.2.2.1), if_neg (fun h => hs (by have := h.2.1; simp only [isIn, Bool.and_eq_true, decide_eq_true_eq] at this; exact this.1.2))]
theorem rjoin_eq (xs ys : List Spn) (t : Int) : rjoin xs ys t = pjoin xs ys t := by
  unfold rjoin pjoin
  rw [part_eq, part_eq, valid_eq, valid_eq]
theorem rwithin_eq (xs : List Spn) (s : Spe) : rwithin xs s = pwithin xs s := by
  unfold rwithin pwithin
  rw [part_eq, valid_eq]
  simp only [isIn, Bool.and_eq_true, decide_eq_true_eq]
  by_cases hc : valid xs = true ∧ 0 ≤ s.f ∧ s.f < s.t ∧ s.t ≤ endOf xs
  · have h1 := partW_len s.f s.t xs []
    have h2 := valid_len hc.1
    rw [List.length_nil] at h1
    rw [if_pos hc, if_pos ⟨hc.1, ⟨⟨hc.2.1, hc.2.2.1⟩, hc.2.2.2⟩, by omega⟩]
  · rw [if_neg hc, if_neg (fun h => hc ⟨h.1, h.2.1.1.1, h.2.1.1.2, h.2.1.2⟩)]
theorem rowned_eq (xs : List Spn) (w : Int) : rowned xs w = powned xs w := by
  unfold rowned powned
  rw [valid_eq]
theorem newR_eq (e w : Int) : newR e w = newS e w := by
  unfold newR newS
  split
  · rename_i h
    rw [addS_eq]
    by_cases he : e = 0
    · subst he; rfl
    · rw [if_neg he, if_pos (by show (0:Int) < e; omega)]; try rfl
  · rfl
theorem rpaint_eq (e w : Int) (xs : List Spn) : rpaint e w xs = ppaint e w xs := by
  unfold rpaint ppaint
  rw [newR_eq]
  congr 1
  funext o s
  cases o with
  | none => rfl
  | some l => exact rput_eq l s
theorem stepD_eq (s y : Spn) (acc : List Spe) : rstepD s acc y = stepDW s.o s.f s.t acc y := by
  have e1 : (cutW s.f s.t y).f = (meet s y).f := by simp only [cutW, meet]; split <;> split <;> omega
  have e2 : (cutW s.f s.t y).t = (meet s y).t := by simp only [cutW, meet]; split <;> split <;> omega
  have e3 : (cutW s.f s.t y).o = y.o := rfl
  unfold rstepD stepDW stepD
  rw [e1, e2, e3]
  by_cases h : (meet s y).f < (meet s y).t
  · rw [if_pos h]
    by_cases h2 : y.o = s.o
    · rw [if_pos h2, if_pos (.inr h2.symm)]
    · rw [if_neg h2, if_neg (fun q => q.elim (fun q => absurd h (by omega)) (fun q => h2 q.symm))]
  · rw [if_neg h, if_pos (.inl (by omega))]
theorem rdiff_eq (xs ys : List Spn) : rdiff xs ys = pdiff xs ys := by
  unfold rdiff pdiff
  rw [valid_eq, valid_eq]
  have : rdiffW xs ys = diffW xs ys := by
    unfold rdiffW diffW
    congr 1
    funext acc s
    unfold rrowD rowD
    congr 1
    funext acc y
    exact stepD_eq s y acc
  rw [this]
theorem valid_hit {a w : Int} : ∀ {xs : List Spn}, validG a w xs = true → ∀ s ∈ xs, s.t ≤ 10000000
  | [], _, s, h => by simp at h
  | x :: r, hv, s, h => by
    simp only [validG, Bool.and_eq_true, decide_eq_true_eq] at hv
    rcases List.mem_cons.1 h with rfl | h
    · exact hv.1.1.1.2
    · exact valid_hit hv.2 s h
theorem find_eq (xs : List Spn) (t : Int) (ht : R64 t) (h : ∀ s ∈ xs, s.t ≤ 10000000) : (firstW xs t (IntKind.i64.wrap (t + 1))).map (·.o) = (xs.find? (hit t)).map (·.o) := by
  induction xs with
  | nil => rfl
  | cons s r ih =>
    have ih := ih (fun x hx => h x (List.mem_cons_of_mem _ hx))
    have hs := h s (List.mem_cons_self ..)
    have key : ((cutW t (IntKind.i64.wrap (t + 1)) s).f < (cutW t (IntKind.i64.wrap (t + 1)) s).t) ↔ hit t s = true := by
      simp only [hit, Bool.and_eq_true, decide_eq_true_eq]
      obtain ⟨r1, r2⟩ := ht
      by_cases hm : t = 9223372036854775807
      · subst hm
        have : IntKind.i64.wrap (9223372036854775807 + 1) = -9223372036854775808 := by decide
        rw [this]
        simp only [cutW]
        split <;> split <;> omega
      · rw [w64 (by omega) (by omega)]
        simp only [cutW]
        split <;> split <;> omega
    unfold firstW at ih ⊢
    by_cases hh : hit t s = true
    · rw [List.map_cons, List.find?_cons_of_pos (by simpa using key.2 hh), List.find?_cons_of_pos hh]; rfl
    · rw [List.map_cons, List.find?_cons_of_neg (by simp only [decide_eq_true_eq]; exact fun q => hh (key.1 q)), List.find?_cons_of_neg hh]
      exact ih
theorem at_eq (xs : List Spn) (t : Int) (ht : R64 t) : atR (rvalid xs) xs t = .tup [.int .i64 (atS (patE xs t)), .int .i64 (errOf (patE xs t))] := by
  rw [valid_eq]
  unfold patE atR
  cases hv : valid xs with
  | false => rfl
  | true =>
    have h : ∀ s ∈ xs, s.t ≤ 10000000 := by
      unfold valid at hv
      rw [Bool.and_eq_true] at hv
      exact valid_hit hv.1
    have := find_eq xs t ht h
    rw [if_pos rfl]
    cases h1 : firstW xs t (IntKind.i64.wrap (t + 1)) with
    | none =>
      rw [h1] at this
      cases h2 : xs.find? (hit t) with
      | none => rfl
      | some s => rw [h2] at this; cases this
    | some c =>
      rw [h1] at this
      cases h2 : xs.find? (hit t) with
      | none => rw [h2] at this; cases this
      | some s =>
        rw [h2] at this
        simp only [Option.map_some, Option.some.injEq] at this
        simp only [atS, errOf, this]
end Go.Proofs.YtmdbpbncdkdipaaDoor
namespace Go.Proofs.YtmdbpbncdkdipaaDoor
open Go.Asl
set_option maxRecDepth 100000
set_option maxHeartbeats 4000000
attribute [local irreducible] Go.Asl.wpG Go.Code.wpIn Go.Asl.DrawG Go.Asl.LvX Go.Asl.G
/-- A verdict. -/
structure Ver where
  k : Int
  i : Int
  deriving DecidableEq
def verA (v : Ver) : AV := .agg [.int .i64 v.k, .int .i64 v.i]
def verL (xs : List Ver) : AV := .lst (xs.map verA)
def intL (xs : List Int) : AV := .lst (xs.map (AV.int .i64))
theorem c_judge_never (a b : Int) (l : AV) : FnP Kx 96 [.int .i64 a, .int .i64 b, l] (.bool false) := by
  refine FnT_of_body ent96 Tryd.func96 rfl Tryd.ntmps96 rfl (fun C0 hC0 => ?_)
  repeat' (first | refine G_ops Kx_ok 6 rfl ?_ | refine G_op Kx_ok rfl ?_ | refine G_run rfl rfl rfl ?_ | refine G_nil ?_ | refine G_seq ?_ | refine G_region rfl ?_ | refine G_skip ?_ | refine G_block ?_ | refine G_drawn Kx_mixed rfl ?_ | refine D_ops Kx_ok 6 rfl ?_ | refine D_op Kx_ok rfl ?_ | refine D_nil rfl ?_ | refine G_cond_t rfl ?_ | refine G_cond_f rfl ?_ | refine G_exit ?_ | refine G_splitD rfl (fun h => ?_) (fun h => ?_) | refine D_splitD rfl (fun h => ?_) (fun h => ?_) | ((fail_if_success refine G_isL rfl rfl ?_); refine G_split rfl (fun h => ?_) (fun h => ?_)) | ((fail_if_success refine D_isL rfl rfl ?_); refine D_split rfl (fun h => ?_) (fun h => ?_)) | refine G_condD rfl (fun h => ?_) (fun h => ?_) | refine G_condN rfl (fun h => ?_) (fun h => ?_) | refine G_cond rfl (fun h => ?_) (fun h => ?_) | refine G_ret (G_leave ?_))
  exact G_return Kx_ok rfl rfl
theorem c_judge_rules1 (a b : Int) (l : AV) : FnP Kx 97 [.int .i64 a, .int .i64 b, l] (.bool (decide (a ≠ IntKind.i64.wrap (1 + b)))) := by
  refine FnT_of_body ent97 Tryd.func97 rfl Tryd.ntmps97 rfl (fun C0 hC0 => ?_)
  repeat' (first | refine G_ops Kx_ok 6 rfl ?_ | refine G_op Kx_ok rfl ?_ | refine G_run rfl rfl rfl ?_ | refine G_nil ?_ | refine G_seq ?_ | refine G_region rfl ?_ | refine G_skip ?_ | refine G_block ?_ | refine G_drawn Kx_mixed rfl ?_ | refine D_ops Kx_ok 6 rfl ?_ | refine D_op Kx_ok rfl ?_ | refine D_nil rfl ?_ | refine G_cond_t rfl ?_ | refine G_cond_f rfl ?_ | refine G_exit ?_ | refine G_splitD rfl (fun h => ?_) (fun h => ?_) | refine D_splitD rfl (fun h => ?_) (fun h => ?_) | ((fail_if_success refine G_isL rfl rfl ?_); refine G_split rfl (fun h => ?_) (fun h => ?_)) | ((fail_if_success refine D_isL rfl rfl ?_); refine D_split rfl (fun h => ?_) (fun h => ?_)) | refine G_condD rfl (fun h => ?_) (fun h => ?_) | refine G_condN rfl (fun h => ?_) (fun h => ?_) | refine G_cond rfl (fun h => ?_) (fun h => ?_) | refine G_ret (G_leave ?_))
  exact G_return Kx_ok rfl rfl
theorem c_slices_Index (xs : List Int) (v : Int) (hl : xs.length ≤ 4611686018427387904) : FnP Kx 100 [intL xs, .int .i64 v] (.int .i64 (match xs.findIdx? (fun x => decide (v = x)) with | some i => (i : Int) | none => -1)) := by
  refine FnT_of_body ent100 Tryd.func100 rfl Tryd.ntmps100 rfl (fun C0 hC0 => ?_)
  repeat' (first | refine G_ops Kx_ok 6 rfl ?_ | refine G_op Kx_ok rfl ?_ | refine G_run rfl rfl rfl ?_ | refine G_nil ?_ | refine G_seq ?_ | refine G_region rfl ?_ | refine G_skip ?_ | refine G_block ?_ | refine G_drawn Kx_mixed rfl ?_ | refine D_ops Kx_ok 6 rfl ?_ | refine D_op Kx_ok rfl ?_ | refine D_nil rfl ?_ | refine G_cond_t rfl ?_ | refine G_cond_f rfl ?_ | refine G_exit ?_ | refine G_splitD rfl (fun h => ?_) (fun h => ?_) | refine D_splitD rfl (fun h => ?_) (fun h => ?_) | ((fail_if_success refine G_isL rfl rfl ?_); refine G_split rfl (fun h => ?_) (fun h => ?_)) | ((fail_if_success refine D_isL rfl rfl ?_); refine D_split rfl (fun h => ?_) (fun h => ?_)) | refine G_condD rfl (fun h => ?_) (fun h => ?_) | refine G_condN rfl (fun h => ?_) (fun h => ?_) | refine G_cond rfl (fun h => ?_) (fun h => ?_) | refine G_ret (G_leave ?_))
  refine G_loopF (fun (i : Nat) => [(8, .int .i64 i)]) (fun _ => []) (fun i => i ≤ xs.length ∧ ∀ j, j < i → xs[j]? ≠ some v) (fun i => xs.length - i) 0 rfl ⟨by omega, fun j hj => by omega⟩ (G_atE (by repeat' (first | exact trivial | refine ⟨rfl, ?_⟩))) ?_
  rintro i ⟨h1, h2⟩
  dsimp only [List.cons_append, List.nil_append] at *
  repeat' (first | refine G_ops Kx_ok 6 rfl ?_ | refine G_op Kx_ok rfl ?_ | refine G_run rfl rfl rfl ?_ | refine G_nil ?_ | refine G_seq ?_ | refine G_region rfl ?_ | refine G_skip ?_ | refine G_block ?_ | refine G_drawn Kx_mixed rfl ?_ | refine D_ops Kx_ok 6 rfl ?_ | refine D_op Kx_ok rfl ?_ | refine D_nil rfl ?_ | refine G_cond_t rfl ?_ | refine G_cond_f rfl ?_ | refine G_exit ?_ | refine G_splitD rfl (fun h => ?_) (fun h => ?_) | refine D_splitD rfl (fun h => ?_) (fun h => ?_) | ((fail_if_success refine G_isL rfl rfl ?_); refine G_split rfl (fun h => ?_) (fun h => ?_)) | ((fail_if_success refine D_isL rfl rfl ?_); refine D_split rfl (fun h => ?_) (fun h => ?_)) | refine G_condD rfl (fun h => ?_) (fun h => ?_) | refine G_condN rfl (fun h => ?_) (fun h => ?_) | refine G_cond rfl (fun h => ?_) (fun h => ?_) | refine G_ret (G_leave ?_))
  · obtain ⟨x, hx, hd⟩ := drop_get (xs := xs) (i := i) (by simp at * <;> omega)
    repeat' (first | refine G_ops Kx_ok 6 rfl ?_ | refine G_op Kx_ok rfl ?_ | refine G_run rfl rfl rfl ?_ | refine G_nil ?_ | refine G_seq ?_ | refine G_region rfl ?_ | refine G_skip ?_ | refine G_block ?_ | refine G_drawn Kx_mixed rfl ?_ | refine D_ops Kx_ok 6 rfl ?_ | refine D_op Kx_ok rfl ?_ | refine D_nil rfl ?_ | refine G_cond_t rfl ?_ | refine G_cond_f rfl ?_ | refine G_exit ?_ | (refine G_index_lst Kx_ok rfl rfl rfl rfl rfl (map_get (x := x) (by simpa using hx)) (by omega) rfl rfl rfl ?_) | (refine D_index_lst Kx_ok _ rfl rfl rfl rfl rfl rfl (map_get (x := x) (by simpa using hx)) (by omega) rfl rfl rfl rfl ?_) | refine G_splitD rfl (fun h => ?_) (fun h => ?_) | refine D_splitD rfl (fun h => ?_) (fun h => ?_) | ((fail_if_success refine G_isL rfl rfl ?_); refine G_split rfl (fun h => ?_) (fun h => ?_)) | ((fail_if_success refine D_isL rfl rfl ?_); refine D_split rfl (fun h => ?_) (fun h => ?_)) | refine G_condD rfl (fun h => ?_) (fun h => ?_) | refine G_condN rfl (fun h => ?_) (fun h => ?_) | refine G_cond rfl (fun h => ?_) (fun h => ?_) | refine G_ret (G_leave ?_))
    · refine G_return Kx_ok rfl ?_
      have hf : xs.findIdx? (fun x => decide (v = x)) = some i := by
        rw [List.findIdx?_eq_some_iff_getElem]
        have hlt := (List.getElem?_eq_some_iff.1 hx).1
        refine ⟨hlt, ?_, fun j hj => ?_⟩
        · have := (List.getElem?_eq_some_iff.1 hx).2
          simp [this, h]
        · have hn := h2 j hj
          rw [List.getElem?_eq_getElem (by omega)] at hn
          simp only [ne_eq, Option.some.injEq] at hn
          simpa using fun e => hn e.symm
      rw [hf]; rfl
    · refine G_nextF (i + 1) ⟨by simp at * <;> omega, fun j hj => ?_⟩ (by simp at * <;> omega) (G_atE (by repeat' (first | exact trivial | refine ⟨rfl, ?_⟩ | refine ⟨iv (by first | rfl | omega | (rw [w64 (by omega) (by omega)]; omega)), ?_⟩)))
      by_cases hji : j < i
      · exact h2 j hji
      · rw [show j = i by omega, hx]
        simpa using fun e => h e.symm
  · refine G_return Kx_ok rfl ?_
    have hf : xs.findIdx? (fun x => decide (v = x)) = none := by
      rw [List.findIdx?_eq_none_iff]
      intro x hx
      obtain ⟨j, hj, rfl⟩ := List.mem_iff_getElem.1 hx
      have hn := h2 j (by simp at * <;> omega)
      rw [List.getElem?_eq_getElem hj] at hn
      simp only [ne_eq, Option.some.injEq] at hn
      simpa using fun e => hn e.symm
    rw [hf]; rfl
theorem c_slices_Contains (xs : List Int) (v : Int) (hl : xs.length ≤ 4611686018427387904) : FnP Kx 99 [intL xs, .int .i64 v] (.bool (xs.contains v)) := by
  refine FnT_of_body ent99 Tryd.func99 rfl Tryd.ntmps99 rfl (fun C0 hC0 => ?_)
  repeat' (first | refine G_ops Kx_ok 6 rfl ?_ | refine G_op Kx_ok rfl ?_ | refine G_run rfl rfl rfl ?_ | refine G_nil ?_ | refine G_seq ?_ | refine G_region rfl ?_ | refine G_skip ?_ | refine G_block ?_ | refine G_drawn Kx_mixed rfl ?_ | refine D_ops Kx_ok 6 rfl ?_ | refine D_op Kx_ok rfl ?_ | refine D_nil rfl ?_ | refine G_cond_t rfl ?_ | refine G_cond_f rfl ?_ | refine G_exit ?_ | refine G_callP rfl rfl rfl rfl (c_slices_Index xs v hl) rfl rfl rfl ?_ | refine D_call rfl rfl rfl rfl rfl (c_slices_Index xs v hl) rfl rfl rfl rfl ?_ | refine G_splitD rfl (fun h => ?_) (fun h => ?_) | refine D_splitD rfl (fun h => ?_) (fun h => ?_) | ((fail_if_success refine G_isL rfl rfl ?_); refine G_split rfl (fun h => ?_) (fun h => ?_)) | ((fail_if_success refine D_isL rfl rfl ?_); refine D_split rfl (fun h => ?_) (fun h => ?_)) | refine G_condD rfl (fun h => ?_) (fun h => ?_) | refine G_condN rfl (fun h => ?_) (fun h => ?_) | refine G_cond rfl (fun h => ?_) (fun h => ?_) | refine G_ret (G_leave ?_))
  refine G_return Kx_ok rfl ?_
  have : xs.contains v = decide (0 ≤ (match xs.findIdx? (fun x => decide (v = x)) with | some i => (i : Int) | none => -1)) := by
    cases hf : xs.findIdx? (fun x => decide (v = x)) with
    | none =>
      rw [List.findIdx?_eq_none_iff] at hf
      rw [Bool.eq_iff_iff]
      simp only [List.contains_iff_mem, decide_eq_true_eq]
      constructor
      · intro hm; have := hf v hm; simp at this
      · intro h; omega
    | some i =>
      have := List.findIdx?_eq_some_iff_getElem.1 hf
      obtain ⟨hlt, he, _⟩ := this
      rw [Bool.eq_iff_iff]
      simp only [List.contains_iff_mem, decide_eq_true_eq]
      constructor
      · intro _; omega
      · intro _
        have := of_decide_eq_true he
        rw [this]; exact List.getElem_mem hlt
  rw [this]; rfl
theorem c_judge_rules2 (a b : Int) (l : List Int) (hl : l.length ≤ 4611686018427387904) : FnP Kx 98 [.int .i64 a, .int .i64 b, intL l] (.bool (l.contains (IntKind.i64.wrap (a - 1)))) := by
  refine FnT_of_body ent98 Tryd.func98 rfl Tryd.ntmps98 rfl (fun C0 hC0 => ?_)
  repeat' (first | refine G_ops Kx_ok 6 rfl ?_ | refine G_op Kx_ok rfl ?_ | refine G_run rfl rfl rfl ?_ | refine G_nil ?_ | refine G_seq ?_ | refine G_region rfl ?_ | refine G_skip ?_ | refine G_block ?_ | refine G_drawn Kx_mixed rfl ?_ | refine D_ops Kx_ok 6 rfl ?_ | refine D_op Kx_ok rfl ?_ | refine D_nil rfl ?_ | refine G_cond_t rfl ?_ | refine G_cond_f rfl ?_ | refine G_exit ?_ | refine G_callP rfl rfl rfl rfl (c_slices_Contains l (IntKind.i64.wrap (a - 1)) hl) rfl rfl rfl ?_ | refine D_call rfl rfl rfl rfl rfl (c_slices_Contains l (IntKind.i64.wrap (a - 1)) hl) rfl rfl rfl rfl ?_ | refine G_splitD rfl (fun h => ?_) (fun h => ?_) | refine D_splitD rfl (fun h => ?_) (fun h => ?_) | ((fail_if_success refine G_isL rfl rfl ?_); refine G_split rfl (fun h => ?_) (fun h => ?_)) | ((fail_if_success refine D_isL rfl rfl ?_); refine D_split rfl (fun h => ?_) (fun h => ?_)) | refine G_condD rfl (fun h => ?_) (fun h => ?_) | refine G_condN rfl (fun h => ?_) (fun h => ?_) | refine G_cond rfl (fun h => ?_) (fun h => ?_) | refine G_ret (G_leave ?_))
  exact G_return Kx_ok rfl rfl
/-- The rule for a kind. -/
def ruleA (k : Int) : AV := if k = 1 then .agg [.bool true, .fn 97 [] []] else if k = 2 then .agg [.bool true, .fn 98 [] []] else .agg [.bool false, .fn 96 [] []]
theorem c_judge_ruleOf (k : Int) : FnP Kx 53 [.int .i64 k] (ruleA k) := by
  refine FnT_of_body ent53 Tryd.func53 rfl Tryd.ntmps53 rfl (fun C0 hC0 => ?_)
  by_cases h0 : 0 ≤ k ∧ k < 5
  · obtain ⟨q, rfl⟩ := Int.eq_ofNat_of_zero_le h0.1
    have hq : q < 5 := by omega
    match q, hq with
    | 0, _ => (repeat' (first | refine G_ops Kx_ok 6 rfl ?_ | refine G_op Kx_ok rfl ?_ | refine G_run rfl rfl rfl ?_ | refine G_nil ?_ | refine G_seq ?_ | refine G_region rfl ?_ | refine G_skip ?_ | refine G_block ?_ | refine G_drawn Kx_mixed rfl ?_ | refine D_ops Kx_ok 6 rfl ?_ | refine D_op Kx_ok rfl ?_ | refine D_nil rfl ?_ | refine G_cond_t rfl ?_ | refine G_cond_f rfl ?_ | refine G_exit ?_ | refine G_splitD rfl (fun h => ?_) (fun h => ?_) | refine D_splitD rfl (fun h => ?_) (fun h => ?_) | ((fail_if_success refine G_isL rfl rfl ?_); refine G_split rfl (fun h => ?_) (fun h => ?_)) | ((fail_if_success refine D_isL rfl rfl ?_); refine D_split rfl (fun h => ?_) (fun h => ?_)) | refine G_condD rfl (fun h => ?_) (fun h => ?_) | refine G_condN rfl (fun h => ?_) (fun h => ?_) | refine G_cond rfl (fun h => ?_) (fun h => ?_) | refine G_ret (G_leave ?_))); exact G_return Kx_ok rfl rfl
    | 1, _ => (repeat' (first | refine G_ops Kx_ok 6 rfl ?_ | refine G_op Kx_ok rfl ?_ | refine G_run rfl rfl rfl ?_ | refine G_nil ?_ | refine G_seq ?_ | refine G_region rfl ?_ | refine G_skip ?_ | refine G_block ?_ | refine G_drawn Kx_mixed rfl ?_ | refine D_ops Kx_ok 6 rfl ?_ | refine D_op Kx_ok rfl ?_ | refine D_nil rfl ?_ | refine G_cond_t rfl ?_ | refine G_cond_f rfl ?_ | refine G_exit ?_ | refine G_splitD rfl (fun h => ?_) (fun h => ?_) | refine D_splitD rfl (fun h => ?_) (fun h => ?_) | ((fail_if_success refine G_isL rfl rfl ?_); refine G_split rfl (fun h => ?_) (fun h => ?_)) | ((fail_if_success refine D_isL rfl rfl ?_); refine D_split rfl (fun h => ?_) (fun h => ?_)) | refine G_condD rfl (fun h => ?_) (fun h => ?_) | refine G_condN rfl (fun h => ?_) (fun h => ?_) | refine G_cond rfl (fun h => ?_) (fun h => ?_) | refine G_ret (G_leave ?_))); exact G_return Kx_ok rfl rfl
    | 2, _ => (repeat' (first | refine G_ops Kx_ok 6 rfl ?_ | refine G_op Kx_ok rfl ?_ | refine G_run rfl rfl rfl ?_ | refine G_nil ?_ | refine G_seq ?_ | refine G_region rfl ?_ | refine G_skip ?_ | refine G_block ?_ | refine G_drawn Kx_mixed rfl ?_ | refine D_ops Kx_ok 6 rfl ?_ | refine D_op Kx_ok rfl ?_ | refine D_nil rfl ?_ | refine G_cond_t rfl ?_ | refine G_cond_f rfl ?_ | refine G_exit ?_ | refine G_splitD rfl (fun h => ?_) (fun h => ?_) | refine D_splitD rfl (fun h => ?_) (fun h => ?_) | ((fail_if_success refine G_isL rfl rfl ?_); refine G_split rfl (fun h => ?_) (fun h => ?_)) | ((fail_if_success refine D_isL rfl rfl ?_); refine D_split rfl (fun h => ?_) (fun h => ?_)) | refine G_condD rfl (fun h => ?_) (fun h => ?_) | refine G_condN rfl (fun h => ?_) (fun h => ?_) | refine G_cond rfl (fun h => ?_) (fun h => ?_) | refine G_ret (G_leave ?_))); exact G_return Kx_ok rfl rfl
    | 3, _ => (repeat' (first | refine G_ops Kx_ok 6 rfl ?_ | refine G_op Kx_ok rfl ?_ | refine G_run rfl rfl rfl ?_ | refine G_nil ?_ | refine G_seq ?_ | refine G_region rfl ?_ | refine G_skip ?_ | refine G_block ?_ | refine G_drawn Kx_mixed rfl ?_ | refine D_ops Kx_ok 6 rfl ?_ | refine D_op Kx_ok rfl ?_ | refine D_nil rfl ?_ | refine G_cond_t rfl ?_ | refine G_cond_f rfl ?_ | refine G_exit ?_ | refine G_splitD rfl (fun h => ?_) (fun h => ?_) | refine D_splitD rfl (fun h => ?_) (fun h => ?_) | ((fail_if_success refine G_isL rfl rfl ?_); refine G_split rfl (fun h => ?_) (fun h => ?_)) | ((fail_if_success refine D_isL rfl rfl ?_); refine D_split rfl (fun h => ?_) (fun h => ?_)) | refine G_condD rfl (fun h => ?_) (fun h => ?_) | refine G_condN rfl (fun h => ?_) (fun h => ?_) | refine G_cond rfl (fun h => ?_) (fun h => ?_) | refine G_ret (G_leave ?_))); exact G_return Kx_ok rfl rfl
    | 4, _ => (repeat' (first | refine G_ops Kx_ok 6 rfl ?_ | refine G_op Kx_ok rfl ?_ | refine G_run rfl rfl rfl ?_ | refine G_nil ?_ | refine G_seq ?_ | refine G_region rfl ?_ | refine G_skip ?_ | refine G_block ?_ | refine G_drawn Kx_mixed rfl ?_ | refine D_ops Kx_ok 6 rfl ?_ | refine D_op Kx_ok rfl ?_ | refine D_nil rfl ?_ | refine G_cond_t rfl ?_ | refine G_cond_f rfl ?_ | refine G_exit ?_ | refine G_splitD rfl (fun h => ?_) (fun h => ?_) | refine D_splitD rfl (fun h => ?_) (fun h => ?_) | ((fail_if_success refine G_isL rfl rfl ?_); refine G_split rfl (fun h => ?_) (fun h => ?_)) | ((fail_if_success refine D_isL rfl rfl ?_); refine D_split rfl (fun h => ?_) (fun h => ?_)) | refine G_condD rfl (fun h => ?_) (fun h => ?_) | refine G_condN rfl (fun h => ?_) (fun h => ?_) | refine G_cond rfl (fun h => ?_) (fun h => ?_) | refine G_ret (G_leave ?_))); exact G_return Kx_ok rfl rfl
  · have e : ruleA k = .agg [.bool false, .fn 96 [] []] := by unfold ruleA; rw [if_neg (by omega), if_neg (by omega)]
    repeat' (first | refine G_ops Kx_ok 6 rfl ?_ | refine G_op Kx_ok rfl ?_ | refine G_run rfl rfl rfl ?_ | refine G_nil ?_ | refine G_seq ?_ | refine G_region rfl ?_ | refine G_skip ?_ | refine G_block ?_ | refine G_drawn Kx_mixed rfl ?_ | refine D_ops Kx_ok 6 rfl ?_ | refine D_op Kx_ok rfl ?_ | refine D_nil rfl ?_ | refine G_cond_t rfl ?_ | refine G_cond_f rfl ?_ | refine G_exit ?_ | refine G_splitD rfl (fun h => ?_) (fun h => ?_) | refine D_splitD rfl (fun h => ?_) (fun h => ?_) | ((fail_if_success refine G_isL rfl rfl ?_); refine G_split rfl (fun h => ?_) (fun h => ?_)) | ((fail_if_success refine D_isL rfl rfl ?_); refine D_split rfl (fun h => ?_) (fun h => ?_)) | refine G_condD rfl (fun h => ?_) (fun h => ?_) | refine G_condN rfl (fun h => ?_) (fun h => ?_) | refine G_cond rfl (fun h => ?_) (fun h => ?_) | refine G_ret (G_leave ?_))
    · refine G_return Kx_ok rfl ?_
      rw [e]; rfl
    · refine G_return Kx_ok rfl ?_
      rw [e]; rfl
    · exfalso; omega

end Go.Proofs.YtmdbpbncdkdipaaDoor
namespace Go.Proofs.YtmdbpbncdkdipaaDoor
open Go.Asl
set_option maxRecDepth 100000
set_option maxHeartbeats 4000000
attribute [local irreducible] Go.Asl.wpG Go.Code.wpIn Go.Asl.DrawG Go.Asl.LvX Go.Asl.G
theorem eqVer : eqPlain Kx.P 54 = true := by kernel_rfl
def verOk (v : Ver) : Bool := decide (1 ≤ v.k) && decide (v.k ≤ 4) && decide (0 ≤ v.i) && decide (v.i < 200) && (decide (v.k = 1) || decide (v.i = 0))
theorem verOk_iff (v : Ver) : verOk v = true ↔ 1 ≤ v.k ∧ v.k ≤ 4 ∧ 0 ≤ v.i ∧ v.i < 200 ∧ (v.k = 1 ∨ v.i = 0) := by
  unfold verOk
  simp only [Bool.and_eq_true, Bool.or_eq_true, decide_eq_true_eq, and_assoc]
def vOk (xs : List Ver) : Bool := xs.all verOk && decide (xs.length ≤ 200)
theorem c_heard_ValidVerdicts (xs : List Ver) (hl : xs.length ≤ 4611686018427387904) : FnP Kx 52 [verL xs] (.bool (vOk xs)) := by
  refine FnT_of_body ent52 Tryd.func52 rfl Tryd.ntmps52 rfl (fun C0 hC0 => ?_)
  repeat' (first | refine G_ops Kx_ok 6 rfl ?_ | refine G_op Kx_ok rfl ?_ | refine G_run rfl rfl rfl ?_ | refine G_nil ?_ | refine G_seq ?_ | refine G_region rfl ?_ | refine G_skip ?_ | refine G_block ?_ | refine G_drawn Kx_mixed rfl ?_ | refine D_ops Kx_ok 6 rfl ?_ | refine D_op Kx_ok rfl ?_ | refine D_nil rfl ?_ | refine G_cond_t rfl ?_ | refine G_cond_f rfl ?_ | refine G_exit ?_ | refine G_splitD rfl (fun h => ?_) (fun h => ?_) | refine D_splitD rfl (fun h => ?_) (fun h => ?_) | ((fail_if_success refine G_isL rfl rfl ?_); refine G_split rfl (fun h => ?_) (fun h => ?_)) | ((fail_if_success refine D_isL rfl rfl ?_); refine D_split rfl (fun h => ?_) (fun h => ?_)) | refine G_condD rfl (fun h => ?_) (fun h => ?_) | refine G_condN rfl (fun h => ?_) (fun h => ?_) | refine G_cond rfl (fun h => ?_) (fun h => ?_) | refine G_ret (G_leave ?_))
  refine G_loopF (fun (i : Nat) => [(7, .int .i64 i)]) (fun _ => []) (fun i => i ≤ xs.length ∧ (xs.drop i).all verOk = xs.all verOk) (fun i => xs.length - i) 0 rfl ⟨by omega, rfl⟩ (G_atE (by repeat' (first | exact trivial | refine ⟨rfl, ?_⟩))) ?_
  rintro i ⟨h1, h2⟩
  dsimp only [List.cons_append, List.nil_append] at *
  repeat' (first | refine G_ops Kx_ok 6 rfl ?_ | refine G_op Kx_ok rfl ?_ | refine G_run rfl rfl rfl ?_ | refine G_nil ?_ | refine G_seq ?_ | refine G_region rfl ?_ | refine G_skip ?_ | refine G_block ?_ | refine G_drawn Kx_mixed rfl ?_ | refine D_ops Kx_ok 6 rfl ?_ | refine D_op Kx_ok rfl ?_ | refine D_nil rfl ?_ | refine G_cond_t rfl ?_ | refine G_cond_f rfl ?_ | refine G_exit ?_ | refine G_splitD rfl (fun h => ?_) (fun h => ?_) | refine D_splitD rfl (fun h => ?_) (fun h => ?_) | ((fail_if_success refine G_isL rfl rfl ?_); refine G_split rfl (fun h => ?_) (fun h => ?_)) | ((fail_if_success refine D_isL rfl rfl ?_); refine D_split rfl (fun h => ?_) (fun h => ?_)) | refine G_condD rfl (fun h => ?_) (fun h => ?_) | refine G_condN rfl (fun h => ?_) (fun h => ?_) | refine G_cond rfl (fun h => ?_) (fun h => ?_) | refine G_ret (G_leave ?_))
  · obtain ⟨v, hv, hd⟩ := drop_get (xs := xs) (i := i) (by simp at * <;> omega)
    rw [hd, List.all_cons] at h2
    have hres : verOk v = false → AV.bool false = .bool (vOk xs) := by intro h; rw [vOk, ← h2, h]; rfl
    repeat' (first | refine G_ops Kx_ok 6 rfl ?_ | refine G_op Kx_ok rfl ?_ | refine G_run rfl rfl rfl ?_ | refine G_nil ?_ | refine G_seq ?_ | refine G_region rfl ?_ | refine G_skip ?_ | refine G_block ?_ | refine G_drawn Kx_mixed rfl ?_ | refine D_ops Kx_ok 6 rfl ?_ | refine D_op Kx_ok rfl ?_ | refine D_nil rfl ?_ | refine G_cond_t rfl ?_ | refine G_cond_f rfl ?_ | refine G_exit ?_ | (refine G_index_lst Kx_ok rfl rfl rfl rfl rfl (map_get (x := v) (by simpa using hv)) (by omega) rfl rfl rfl ?_) | (refine D_index_lst Kx_ok _ rfl rfl rfl rfl rfl rfl (map_get (x := v) (by simpa using hv)) (by omega) rfl rfl rfl rfl ?_) | refine G_eqS Kx_ok (neg := true) rfl rfl rfl rfl rfl rfl eqVer rfl ?_ | refine D_eqS Kx_ok true rfl rfl rfl rfl rfl rfl rfl eqVer rfl rfl ?_ | refine G_eqS Kx_ok (neg := false) rfl rfl rfl rfl rfl rfl eqVer rfl ?_ | refine D_eqS Kx_ok false rfl rfl rfl rfl rfl rfl rfl eqVer rfl rfl ?_ | refine G_splitD rfl (fun h => ?_) (fun h => ?_) | refine D_splitD rfl (fun h => ?_) (fun h => ?_) | ((fail_if_success refine G_isL rfl rfl ?_); refine G_split rfl (fun h => ?_) (fun h => ?_)) | ((fail_if_success refine D_isL rfl rfl ?_); refine D_split rfl (fun h => ?_) (fun h => ?_)) | refine G_condD rfl (fun h => ?_) (fun h => ?_) | refine G_condN rfl (fun h => ?_) (fun h => ?_) | refine G_cond rfl (fun h => ?_) (fun h => ?_) | refine G_ret (G_leave ?_))
    all_goals first
      | (refine G_return Kx_ok rfl (hres ?_)
         rw [← Bool.not_eq_true, verOk_iff]
         simp at * <;> omega)
      | (have hok : verOk v = true := by
           rw [verOk_iff]
           simp at * <;> omega
         exact G_nextF (i + 1) ⟨by simp at * <;> omega, by rw [← h2, hok, Bool.true_and]⟩ (by simp at * <;> omega) (G_atL hC0 rfl rfl (by repeat' (first | exact trivial | refine ⟨⟨rfl, rfl⟩, ?_⟩ | refine ⟨⟨iv (by first | rfl | omega | (rw [w64 (by omega) (by omega)]; omega)), rfl⟩, ?_⟩)) (by repeat' (first | exact trivial | refine ⟨.inl rfl, ?_⟩ | refine ⟨.inr ⟨rfl, rfl⟩, ?_⟩ | refine ⟨.inr ⟨arrE (by first | rfl | (rw [List.map_append]; rfl)), rfl⟩, ?_⟩)) (by repeat' (first | exact trivial | refine ⟨⟨rfl, rfl⟩, ?_⟩))))
  · refine G_return Kx_ok rfl ?_
    rw [List.drop_eq_nil_of_le (by simp at * <;> omega)] at h2
    rw [vOk, ← h2, List.all_nil, Bool.true_and]
    simp only [resV, List.length_map, AV.bool.injEq, decide_eq_decide]
    omega
theorem c_ref37_in (n l u : Int) : FnP Kx 73 [.int .i64 n, .int .i64 l, .int .i64 u] (.bool (decide (l ≤ n) && decide (n ≤ u))) := by
  refine FnT_of_body ent73 Tryd.func73 rfl Tryd.ntmps73 rfl (fun C0 hC0 => ?_)
  repeat' (first | refine G_ops Kx_ok 6 rfl ?_ | refine G_op Kx_ok rfl ?_ | refine G_run rfl rfl rfl ?_ | refine G_nil ?_ | refine G_seq ?_ | refine G_region rfl ?_ | refine G_skip ?_ | refine G_block ?_ | refine G_drawn Kx_mixed rfl ?_ | refine D_ops Kx_ok 6 rfl ?_ | refine D_op Kx_ok rfl ?_ | refine D_nil rfl ?_ | refine G_cond_t rfl ?_ | refine G_cond_f rfl ?_ | refine G_exit ?_ | refine G_splitD rfl (fun h => ?_) (fun h => ?_) | refine D_splitD rfl (fun h => ?_) (fun h => ?_) | ((fail_if_success refine G_isL rfl rfl ?_); refine G_split rfl (fun h => ?_) (fun h => ?_)) | ((fail_if_success refine D_isL rfl rfl ?_); refine D_split rfl (fun h => ?_) (fun h => ?_)) | refine G_condD rfl (fun h => ?_) (fun h => ?_) | refine G_condN rfl (fun h => ?_) (fun h => ?_) | refine G_cond rfl (fun h => ?_) (fun h => ?_) | refine G_ret (G_leave ?_))
  all_goals refine G_return Kx_ok rfl ?_
  all_goals simp_all [resV]
  all_goals omega
theorem c_ref37_ValidVerdicts (xs : List Ver) (hl : xs.length ≤ 4611686018427387904) : FnP Kx 54 [verL xs] (.bool (vOk xs)) := by
  refine FnT_of_body ent54 Tryd.func54 rfl Tryd.ntmps54 rfl (fun C0 hC0 => ?_)
  repeat' (first | refine G_ops Kx_ok 6 rfl ?_ | refine G_op Kx_ok rfl ?_ | refine G_run rfl rfl rfl ?_ | refine G_nil ?_ | refine G_seq ?_ | refine G_region rfl ?_ | refine G_skip ?_ | refine G_block ?_ | refine G_drawn Kx_mixed rfl ?_ | refine D_ops Kx_ok 6 rfl ?_ | refine D_op Kx_ok rfl ?_ | refine D_nil rfl ?_ | refine G_cond_t rfl ?_ | refine G_cond_f rfl ?_ | refine G_exit ?_ | refine G_splitD rfl (fun h => ?_) (fun h => ?_) | refine D_splitD rfl (fun h => ?_) (fun h => ?_) | ((fail_if_success refine G_isL rfl rfl ?_); refine G_split rfl (fun h => ?_) (fun h => ?_)) | ((fail_if_success refine D_isL rfl rfl ?_); refine D_split rfl (fun h => ?_) (fun h => ?_)) | refine G_condD rfl (fun h => ?_) (fun h => ?_) | refine G_condN rfl (fun h => ?_) (fun h => ?_) | refine G_cond rfl (fun h => ?_) (fun h => ?_) | refine G_ret (G_leave ?_))
  refine G_loopF (fun (i : Nat) => [(3, .int .i64 i)]) (fun _ => []) (fun i => i ≤ xs.length ∧ (xs.drop i).all verOk = xs.all verOk) (fun i => xs.length - i) 0 rfl ⟨by omega, rfl⟩ (G_atE (by repeat' (first | exact trivial | refine ⟨rfl, ?_⟩))) ?_
  rintro i ⟨h1, h2⟩
  dsimp only [List.cons_append, List.nil_append] at *
  repeat' (first | refine G_ops Kx_ok 6 rfl ?_ | refine G_op Kx_ok rfl ?_ | refine G_run rfl rfl rfl ?_ | refine G_nil ?_ | refine G_seq ?_ | refine G_region rfl ?_ | refine G_skip ?_ | refine G_block ?_ | refine G_drawn Kx_mixed rfl ?_ | refine D_ops Kx_ok 6 rfl ?_ | refine D_op Kx_ok rfl ?_ | refine D_nil rfl ?_ | refine G_cond_t rfl ?_ | refine G_cond_f rfl ?_ | refine G_exit ?_ | refine G_splitD rfl (fun h => ?_) (fun h => ?_) | refine D_splitD rfl (fun h => ?_) (fun h => ?_) | ((fail_if_success refine G_isL rfl rfl ?_); refine G_split rfl (fun h => ?_) (fun h => ?_)) | ((fail_if_success refine D_isL rfl rfl ?_); refine D_split rfl (fun h => ?_) (fun h => ?_)) | refine G_condD rfl (fun h => ?_) (fun h => ?_) | refine G_condN rfl (fun h => ?_) (fun h => ?_) | refine G_cond rfl (fun h => ?_) (fun h => ?_) | refine G_ret (G_leave ?_))
  · obtain ⟨v, hv, hd⟩ := drop_get (xs := xs) (i := i) (by simp at * <;> omega)
    rw [hd, List.all_cons] at h2
    have hres : verOk v = false → AV.bool false = .bool (vOk xs) := by intro h; rw [vOk, ← h2, h]; rfl
    repeat' (first | refine G_ops Kx_ok 6 rfl ?_ | refine G_op Kx_ok rfl ?_ | refine G_run rfl rfl rfl ?_ | refine G_nil ?_ | refine G_seq ?_ | refine G_region rfl ?_ | refine G_skip ?_ | refine G_block ?_ | refine G_drawn Kx_mixed rfl ?_ | refine D_ops Kx_ok 6 rfl ?_ | refine D_op Kx_ok rfl ?_ | refine D_nil rfl ?_ | refine G_cond_t rfl ?_ | refine G_cond_f rfl ?_ | refine G_exit ?_ | (refine G_index_lst Kx_ok rfl rfl rfl rfl rfl (map_get (x := v) (by simpa using hv)) (by omega) rfl rfl rfl ?_) | (refine D_index_lst Kx_ok _ rfl rfl rfl rfl rfl rfl (map_get (x := v) (by simpa using hv)) (by omega) rfl rfl rfl rfl ?_) | refine G_callP rfl rfl rfl rfl (c_ref37_in v.k 1 4) rfl rfl rfl ?_ | refine D_call rfl rfl rfl rfl rfl (c_ref37_in v.k 1 4) rfl rfl rfl rfl ?_ | refine G_callP rfl rfl rfl rfl (c_ref37_in v.i 0 199) rfl rfl rfl ?_ | refine D_call rfl rfl rfl rfl rfl (c_ref37_in v.i 0 199) rfl rfl rfl rfl ?_ | refine G_splitD rfl (fun h => ?_) (fun h => ?_) | refine D_splitD rfl (fun h => ?_) (fun h => ?_) | ((fail_if_success refine G_isL rfl rfl ?_); refine G_split rfl (fun h => ?_) (fun h => ?_)) | ((fail_if_success refine D_isL rfl rfl ?_); refine D_split rfl (fun h => ?_) (fun h => ?_)) | refine G_condD rfl (fun h => ?_) (fun h => ?_) | refine G_condN rfl (fun h => ?_) (fun h => ?_) | refine G_cond rfl (fun h => ?_) (fun h => ?_) | refine G_ret (G_leave ?_))
    all_goals first
      | (refine G_return Kx_ok rfl (hres ?_)
         rw [← Bool.not_eq_true, verOk_iff]
         simp at * <;> omega)
      | (have hok : verOk v = true := by
           rw [verOk_iff]
           simp at * <;> omega
         exact G_nextF (i + 1) ⟨by simp at * <;> omega, by rw [← h2, hok, Bool.true_and]⟩ (by simp at * <;> omega) (G_atE (by repeat' (first | exact trivial | refine ⟨rfl, ?_⟩ | refine ⟨iv (by first | rfl | omega | (rw [w64 (by omega) (by omega)]; omega)), ?_⟩))))
  · refine G_return Kx_ok rfl ?_
    rw [List.drop_eq_nil_of_le (by simp at * <;> omega)] at h2
    rw [vOk, ← h2, List.all_nil, Bool.true_and]
    simp only [resV, List.length_map, AV.bool.injEq, decide_eq_decide]
    omega

end Go.Proofs.YtmdbpbncdkdipaaDoor
