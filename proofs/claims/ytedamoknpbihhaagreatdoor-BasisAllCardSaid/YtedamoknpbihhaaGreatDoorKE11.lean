/- Closed facts, by the kernel. -/
import Derived.Test.YtedamoknpbihhaaGreatDoorKB
namespace Go.Dam.Tab
open Go Go.Dam
set_option maxRecDepth 1000000
def e0 : Ent := ⟨[(.string ⟨#[50]⟩)],[],(.tuple #[P 34,tt]),[(34,[ff,P 11,P 23],(.t 118)),(11,[S 10 1 2],(.t 138)),(23,[S 22 1 2],(.t 138)),(10,[w 2,w 0],(.n 1)),(22,[w 1,w 0],(.n 1))]⟩
def e2 : Ent := ⟨[P 0,P 1],[(.cells [ff,P 2,P 3] (.t 118)),(.cells [ff,P 4,P 5] (.t 118)),(.cells [S 6 0 1] (.t 138)),(.cells [S 7 1 2] (.t 138)),(.cells [S 8 1 2] (.t 138)),(.cells [S 9 1 2] (.t 138)),(.cells [w 0] (.n 1)),(.cells [w 1,w 0] (.n 1)),(.cells [w 2,w 0] (.n 1)),(.cells [w 1,w 0] (.n 1))],(.int .i64 (.negSucc 0)),[]⟩
def e6 : Ent := ⟨[P 0,P 1],[(.cells [ff,P 2,P 3] (.t 118)),(.cells [ff,P 4,P 5] (.t 118)),(.cells [S 6 1 2] (.t 138)),(.cells [S 7 1 2] (.t 138)),(.cells [S 8 0 1] (.t 138)),(.cells [S 9 1 2] (.t 138)),(.cells [w 1,w 0] (.n 1)),(.cells [w 1,w 0] (.n 1)),(.cells [w 0] (.n 1)),(.cells [w 1,w 0] (.n 1))],P 54,[(54,[ff,P 41,P 43],(.t 118)),(41,[S 40 0 1],(.t 138)),(43,[S 42 1 2],(.t 138)),(40,[w 0],(.n 1)),(42,[w 1,w 0],(.n 1))]⟩
def e15 : Ent := ⟨[(.int .i64 (.ofNat 1))],[],P 4,[(4,[ff,P 1,P 3],(.t 118)),(1,[S 0 1 2],(.t 138)),(3,[S 2 1 2],(.t 138)),(0,[w 1,w 0],(.n 1)),(2,[w 1,w 0],(.n 1))]⟩
def e16 : Ent := ⟨[P 0,P 1],[(.cells [ff,P 2,P 3] (.t 118)),(.cells [ff,P 4,P 5] (.t 118)),(.cells [S 6 1 2] (.t 138)),(.cells [S 7 1 2] (.t 138)),(.cells [S 8 1 2] (.t 138)),(.cells [S 9 1 2] (.t 138)),(.cells [w 1,w 0] (.n 1)),(.cells [w 1,w 0] (.n 1)),(.cells [w 1,w 0] (.n 1)),(.cells [w 1,w 0] (.n 1))],(.tuple #[P 54,tt]),[(54,[ff,P 41,P 43],(.t 118)),(41,[S 40 1 2],(.t 138)),(43,[S 42 1 2],(.t 138)),(40,[w 1,w 0],(.n 1)),(42,[w 1,w 0],(.n 1))]⟩
def e18 : Ent := ⟨[P 0,P 1],[(.cells [tt,P 2,P 3] (.t 118)),(.cells [ff,P 4,P 5] (.t 118)),(.cells [S 6 1 2] (.t 138)),(.cells [S 7 1 2] (.t 138)),(.cells [S 8 1 2] (.t 138)),(.cells [S 9 1 2] (.t 138)),(.cells [w 1,w 0] (.n 1)),(.cells [w 1,w 0] (.n 1)),(.cells [w 1,w 0] (.n 1)),(.cells [w 1,w 0] (.n 1))],(.tuple #[P 54,tt]),[(54,[tt,P 41,P 43],(.t 118)),(41,[S 40 1 2],(.t 138)),(43,[S 42 1 2],(.t 138)),(40,[w 1,w 0],(.n 1)),(42,[w 1,w 0],(.n 1))]⟩
def e20 : Ent := ⟨[P 0,P 1],[(.cells [ff,P 2,P 3] (.t 118)),(.cells [ff,P 4,P 5] (.t 118)),(.cells [S 6 1 2] (.t 138)),(.cells [S 7 1 2] (.t 138)),(.cells [S 8 1 2] (.t 138)),(.cells [S 9 1 2] (.t 138)),(.cells [w 3,w 0] (.n 1)),(.cells [w 1,w 0] (.n 1)),(.cells [w 2,w 0] (.n 1)),(.cells [w 1,w 0] (.n 1))],(.int .i64 (.ofNat 1)),[]⟩
def e22 : Ent := ⟨[P 0],[(.cells [tt,P 1,P 2] (.t 118)),(.cells [S 3 1 2] (.t 138)),(.cells [S 4 1 2] (.t 138)),(.cells [w 1,w 0] (.n 1)),(.cells [w 1,w 0] (.n 1))],(.int .i64 (.negSucc 0)),[]⟩
def e25 : Ent := ⟨[P 0,P 1],[(.cells [ff,P 2,P 3] (.t 118)),(.cells [ff,P 4,P 5] (.t 118)),(.cells [S 6 0 1] (.t 138)),(.cells [S 7 1 2] (.t 138)),(.cells [S 8 1 2] (.t 138)),(.cells [S 9 1 2] (.t 138)),(.cells [w 0] (.n 1)),(.cells [w 1,w 0] (.n 1)),(.cells [w 1,w 0] (.n 1)),(.cells [w 1,w 0] (.n 1))],P 50,[(50,[ff,P 4,P 5],(.t 118))]⟩
def e27 : Ent := ⟨[P 0,P 1],[(.cells [ff,P 2,P 3] (.t 118)),(.cells [tt,P 4,P 5] (.t 118)),(.cells [S 6 1 2] (.t 138)),(.cells [S 7 1 2] (.t 138)),(.cells [S 8 1 2] (.t 138)),(.cells [S 9 1 2] (.t 138)),(.cells [w 3,w 0] (.n 1)),(.cells [w 1,w 0] (.n 1)),(.cells [w 1,w 0] (.n 1)),(.cells [w 1,w 0] (.n 1))],P 52,[(52,[ff,P 41,P 3],(.t 118)),(41,[S 40 1 1],(.t 138)),(40,[w 2],(.n 1))]⟩
def e29 : Ent := ⟨[P 0,P 1],[(.cells [ff,P 2,P 3] (.t 118)),(.cells [tt,P 4,P 5] (.t 118)),(.cells [S 6 1 2] (.t 138)),(.cells [S 7 1 2] (.t 138)),(.cells [S 8 1 2] (.t 138)),(.cells [S 9 1 2] (.t 138)),(.cells [w 1,w 0] (.n 1)),(.cells [w 1,w 0] (.n 1)),(.cells [w 1,w 0] (.n 1)),(.cells [w 1,w 0] (.n 1))],(.tuple #[P 54,tt]),[(54,[tt,P 41,P 43],(.t 118)),(41,[S 40 1 2],(.t 138)),(43,[S 42 1 2],(.t 138)),(40,[w 1,w 0],(.n 1)),(42,[w 1,w 0],(.n 1))]⟩
def e34 : Ent := ⟨[P 0,P 1],[(.cells [ff,P 2,P 3] (.t 118)),(.cells [tt,P 4,P 5] (.t 118)),(.cells [S 6 1 2] (.t 138)),(.cells [S 7 1 2] (.t 138)),(.cells [S 8 1 2] (.t 138)),(.cells [S 9 1 2] (.t 138)),(.cells [w 3,w 0] (.n 1)),(.cells [w 1,w 0] (.n 1)),(.cells [w 1,w 0] (.n 1)),(.cells [w 1,w 0] (.n 1))],P 54,[(54,[tt,P 41,P 43],(.t 118)),(41,[S 40 1 2],(.t 138)),(43,[S 42 1 2],(.t 138)),(40,[w 3,w 0],(.n 1)),(42,[w 1,w 0],(.n 1))]⟩
def e37 : Ent := ⟨[P 0,P 1],[(.cells [ff,P 2,P 3] (.t 118)),(.cells [ff,P 4,P 5] (.t 118)),(.cells [S 6 1 1] (.t 138)),(.cells [S 7 1 2] (.t 138)),(.cells [S 8 1 2] (.t 138)),(.cells [S 9 1 2] (.t 138)),(.cells [w 2] (.n 1)),(.cells [w 1,w 0] (.n 1)),(.cells [w 2,w 0] (.n 1)),(.cells [w 1,w 0] (.n 1))],(.int .i64 (.ofNat 0)),[]⟩
def e38 : Ent := ⟨[P 0],[(.cells [ff,P 1,P 2] (.t 118)),(.cells [S 3 1 1] (.t 138)),(.cells [S 4 1 2] (.t 138)),(.cells [w 2] (.n 1)),(.cells [w 1,w 0] (.n 1))],(.string ⟨#[50]⟩),[]⟩
def e44 : Ent := ⟨[P 0],[(.cells [ff,P 1,P 2] (.t 118)),(.cells [S 3 1 2] (.t 138)),(.cells [S 4 1 2] (.t 138)),(.cells [w 3,w 0] (.n 1)),(.cells [w 1,w 0] (.n 1))],(.string ⟨#[51]⟩),[]⟩
def e46 : Ent := ⟨[P 0,P 1],[(.cells [ff,P 2,P 3] (.t 118)),(.cells [ff,P 4,P 5] (.t 118)),(.cells [S 6 1 2] (.t 138)),(.cells [S 7 1 2] (.t 138)),(.cells [S 8 1 2] (.t 138)),(.cells [S 9 1 2] (.t 138)),(.cells [w 3,w 0] (.n 1)),(.cells [w 1,w 0] (.n 1)),(.cells [w 1,w 0] (.n 1)),(.cells [w 1,w 0] (.n 1))],(.int .i64 (.ofNat 1)),[]⟩
def e48 : Ent := ⟨[P 0,P 1],[(.cells [tt,P 2,P 3] (.t 118)),(.cells [tt,P 4,P 5] (.t 118)),(.cells [S 6 1 1] (.t 138)),(.cells [S 7 1 2] (.t 138)),(.cells [S 8 1 2] (.t 138)),(.cells [S 9 1 2] (.t 138)),(.cells [w 2] (.n 1)),(.cells [w 1,w 0] (.n 1)),(.cells [w 1,w 0] (.n 1)),(.cells [w 1,w 0] (.n 1))],(.tuple #[P 54,tt]),[(54,[ff,P 41,P 43],(.t 118)),(41,[S 40 1 2],(.t 138)),(43,[S 42 1 2],(.t 138)),(40,[w 2,w 0],(.n 1)),(42,[w 1,w 0],(.n 1))]⟩
def e61 : Ent := ⟨[(.string ⟨#[55]⟩)],[],(.tuple #[P 34,tt]),[(34,[ff,P 11,P 23],(.t 118)),(11,[S 10 1 2],(.t 138)),(23,[S 22 1 2],(.t 138)),(10,[w 7,w 0],(.n 1)),(22,[w 1,w 0],(.n 1))]⟩
def e64 : Ent := ⟨[P 0],[(.cells [ff,P 1,P 2] (.t 118)),(.cells [S 3 1 2] (.t 138)),(.cells [S 4 1 2] (.t 138)),(.cells [w 2,w 0] (.n 1)),(.cells [w 1,w 0] (.n 1))],(.int .i64 (.ofNat 1)),[]⟩
def e65 : Ent := ⟨[P 0,P 1],[(.cells [ff,P 2,P 3] (.t 118)),(.cells [ff,P 4,P 5] (.t 118)),(.cells [S 6 1 2] (.t 138)),(.cells [S 7 1 2] (.t 138)),(.cells [S 8 1 2] (.t 138)),(.cells [S 9 1 2] (.t 138)),(.cells [w 1,w 0] (.n 1)),(.cells [w 1,w 0] (.n 1)),(.cells [w 2,w 0] (.n 1)),(.cells [w 1,w 0] (.n 1))],P 54,[(54,[ff,P 41,P 43],(.t 118)),(41,[S 40 1 2],(.t 138)),(43,[S 42 1 2],(.t 138)),(40,[w 2,w 0],(.n 1)),(42,[w 1,w 0],(.n 1))]⟩
def e79 : Ent := ⟨[P 0,P 1],[(.cells [ff,P 2,P 3] (.t 118)),(.cells [ff,P 4,P 5] (.t 118)),(.cells [S 6 0 2] (.t 138)),(.cells [S 7 1 2] (.t 138)),(.cells [S 8 1 1] (.t 138)),(.cells [S 9 1 1] (.t 138)),(.cells [w 0,w 0] (.n 1)),(.cells [w 1,w 0] (.n 1)),(.cells [w 1] (.n 1)),(.cells [w 1] (.n 1))],P 50,[(50,[ff,P 4,P 5],(.t 118))]⟩
def e80 : Ent := ⟨[P 0],[(.cells [ff,P 1,P 2] (.t 118)),(.cells [(.slice none 0 0)] (.t 138)),(.cells [S 3 1 1] (.t 138)),(.cells [w 1] (.n 1))],(.int .i64 (.ofNat 0)),[]⟩
def e84 : Ent := ⟨[P 0,P 1],[(.cells [tt,P 2,P 3] (.t 118)),(.cells [ff,P 4,P 5] (.t 118)),(.cells [S 6 1 1] (.t 138)),(.cells [S 7 1 1] (.t 138)),(.cells [S 8 1 2] (.t 138)),(.cells [S 9 1 2] (.t 138)),(.cells [w 1] (.n 1)),(.cells [w 1] (.n 1)),(.cells [w 2,w 0] (.n 1)),(.cells [w 1,w 0] (.n 1))],P 52,[(52,[ff,P 41,P 3],(.t 118)),(41,[S 40 1 1],(.t 138)),(40,[w 1],(.n 1))]⟩
def e85 : Ent := ⟨[P 0,P 1],[(.cells [ff,P 2,P 3] (.t 118)),(.cells [ff,P 4,P 5] (.t 118)),(.cells [S 6 1 2] (.t 138)),(.cells [S 7 1 2] (.t 138)),(.cells [S 8 1 2] (.t 138)),(.cells [S 9 1 2] (.t 138)),(.cells [w 3,w 0] (.n 1)),(.cells [w 1,w 0] (.n 1)),(.cells [w 3,w 0] (.n 1)),(.cells [w 1,w 0] (.n 1))],P 54,[(54,[ff,P 41,P 43],(.t 118)),(41,[S 40 1 2],(.t 138)),(43,[S 42 1 2],(.t 138)),(40,[w 9,w 0],(.n 1)),(42,[w 1,w 0],(.n 1))]⟩
def e86 : Ent := ⟨[P 0,P 1],[(.cells [ff,P 2,P 3] (.t 118)),(.cells [ff,P 4,P 5] (.t 118)),(.cells [S 6 0 2] (.t 138)),(.cells [S 7 1 2] (.t 138)),(.cells [S 8 1 2] (.t 138)),(.cells [S 9 1 2] (.t 138)),(.cells [w 0,w 0] (.n 1)),(.cells [w 1,w 0] (.n 1)),(.cells [w 9,w 0] (.n 1)),(.cells [w 1,w 0] (.n 1))],P 50,[(50,[ff,P 4,P 5],(.t 118))]⟩
def e87 : Ent := ⟨[P 0,P 1],[(.cells [ff,P 2,P 3] (.t 118)),(.cells [ff,P 4,P 5] (.t 118)),(.cells [S 6 1 2] (.t 138)),(.cells [S 7 1 2] (.t 138)),(.cells [S 8 1 2] (.t 138)),(.cells [S 9 1 2] (.t 138)),(.cells [w 3,w 0] (.n 1)),(.cells [w 1,w 0] (.n 1)),(.cells [w 3,w 0] (.n 1)),(.cells [w 1,w 0] (.n 1))],P 68,[(68,[ff,P 57,P 3],(.t 118)),(57,[S 56 0 1],(.t 138)),(56,[w 0],(.n 1))]⟩
def e88 : Ent := ⟨[P 0,P 1],[(.cells [tt,P 2,P 3] (.t 118)),(.cells [ff,P 4,P 5] (.t 118)),(.cells [S 6 1 1] (.t 138)),(.cells [S 7 1 2] (.t 138)),(.cells [S 8 1 2] (.t 138)),(.cells [S 9 1 2] (.t 138)),(.cells [w 1] (.n 1)),(.cells [w 1,w 0] (.n 1)),(.cells [w 2,w 0] (.n 1)),(.cells [w 1,w 0] (.n 1))],P 54,[(54,[tt,P 41,P 43],(.t 118)),(41,[S 40 1 2],(.t 138)),(43,[S 42 1 2],(.t 138)),(40,[w 2,w 0],(.n 1)),(42,[w 1,w 0],(.n 1))]⟩
def e89 : Ent := ⟨[P 0,P 1],[(.cells [ff,P 2,P 3] (.t 118)),(.cells [tt,P 4,P 5] (.t 118)),(.cells [S 6 1 2] (.t 138)),(.cells [S 7 1 2] (.t 138)),(.cells [S 8 1 2] (.t 138)),(.cells [S 9 1 2] (.t 138)),(.cells [w 9,w 0] (.n 1)),(.cells [w 1,w 0] (.n 1)),(.cells [w 2,w 0] (.n 1)),(.cells [w 1,w 0] (.n 1))],P 52,[(52,[ff,P 41,P 3],(.t 118)),(41,[S 40 1 1],(.t 138)),(40,[w 7],(.n 1))]⟩
def e90 : Ent := ⟨[P 0],[(.cells [ff,P 1,P 2] (.t 118)),(.cells [S 3 0 1] (.t 138)),(.cells [S 4 1 2] (.t 138)),(.cells [w 0] (.n 1)),(.cells [w 1,w 0] (.n 1))],(.int .i64 (.ofNat 0)),[]⟩
def e92 : Ent := ⟨[P 0,P 1],[(.cells [ff,P 2,P 3] (.t 118)),(.cells [ff,P 4,P 5] (.t 118)),(.cells [S 6 1 1] (.t 138)),(.cells [S 7 1 2] (.t 138)),(.cells [S 8 0 0] (.t 138)),(.cells [S 9 1 2] (.t 138)),(.cells [w 7] (.n 1)),(.cells [w 1,w 0] (.n 1)),(.cells [] (.n 1)),(.cells [w 1,w 0] (.n 1))],P 52,[(52,[ff,P 41,P 3],(.t 118)),(41,[S 40 1 2],(.t 138)),(40,[w 7,w 0],(.n 1))]⟩
def e94 : Ent := ⟨[P 0],[(.cells [ff,P 1,P 2] (.t 118)),(.cells [S 3 1 2] (.t 138)),(.cells [S 4 1 2] (.t 138)),(.cells [w 5,w 0] (.n 1)),(.cells [w 1,w 0] (.n 1))],(.string ⟨#[53]⟩),[]⟩
def e99 : Ent := ⟨[(.string ⟨#[56]⟩)],[],(.tuple #[P 34,tt]),[(34,[ff,P 11,P 23],(.t 118)),(11,[S 10 1 2],(.t 138)),(23,[S 22 1 2],(.t 138)),(10,[w 8,w 0],(.n 1)),(22,[w 1,w 0],(.n 1))]⟩
def e100 : Ent := ⟨[(.string ⟨#[48,46,53]⟩)],[],(.tuple #[(.pointer none),ff]),[]⟩
def e107 : Ent := ⟨[(.string ⟨#[49,47,50]⟩)],[],(.tuple #[P 52,tt]),[(52,[ff,P 23,P 35],(.t 118)),(23,[S 22 1 2],(.t 138)),(35,[S 34 1 2],(.t 138)),(22,[w 1,w 0],(.n 1)),(34,[w 2,w 0],(.n 1))]⟩
def e111 : Ent := ⟨[P 0,P 1],[(.cells [ff,P 2,P 3] (.t 118)),(.cells [ff,P 4,P 5] (.t 118)),(.cells [S 6 0 1] (.t 138)),(.cells [S 7 1 2] (.t 138)),(.cells [S 8 1 2] (.t 138)),(.cells [S 9 1 2] (.t 138)),(.cells [w 0] (.n 1)),(.cells [w 1,w 0] (.n 1)),(.cells [w 8,w 0] (.n 1)),(.cells [w 1,w 0] (.n 1))],(.int .i64 (.negSucc 0)),[]⟩
def e113 : Ent := ⟨[(.string ⟨#[51,52,48,50,56,50,51,54,54,57,50,48,57,51,56,52,54,51,52,54,51,51,55,52,54,48,55,52,51,49,55,54,56,50,49,49,52,53,54]⟩)],[],(.tuple #[P 47,tt]),[(47,[S 46 5 5],(.t 138)),(46,[w 0,w 0,w 0,w 0,w 1],(.n 1))]⟩
def e114 : Ent := ⟨[(.string ⟨#[45,55,47,51]⟩)],[],(.tuple #[P 52,tt]),[(52,[tt,P 23,P 35],(.t 118)),(23,[S 22 1 2],(.t 138)),(35,[S 34 1 2],(.t 138)),(22,[w 7,w 0],(.n 1)),(34,[w 3,w 0],(.n 1))]⟩
def e120 : Ent := ⟨[P 0,P 0],[(.cells [ff,P 1,P 2] (.t 118)),(.cells [S 3 1 2] (.t 138)),(.cells [S 4 1 2] (.t 138)),(.cells [w 2,w 0] (.n 1)),(.cells [w 1,w 0] (.n 1))],(.tuple #[P 81,tt]),[(81,[ff,P 62,P 78],(.t 118)),(62,[S 61 1 1],(.t 138)),(78,[S 77 1 1],(.t 138)),(61,[w 1],(.n 1)),(77,[w 1],(.n 1))]⟩
def e123 : Ent := ⟨[P 0,P 1],[(.cells [ff,P 2,P 3] (.t 118)),(.cells [ff,P 4,P 5] (.t 118)),(.cells [S 6 1 2] (.t 138)),(.cells [S 7 1 2] (.t 138)),(.cells [S 8 1 1] (.t 138)),(.cells [S 9 1 1] (.t 138)),(.cells [w 1,w 0] (.n 1)),(.cells [w 1,w 0] (.n 1)),(.cells [w 1] (.n 1)),(.cells [w 1] (.n 1))],P 54,[(54,[ff,P 41,P 43],(.t 118)),(41,[S 40 1 2],(.t 138)),(43,[S 42 1 2],(.t 138)),(40,[w 1,w 0],(.n 1)),(42,[w 1,w 0],(.n 1))]⟩
def e125 : Ent := ⟨[P 0,P 1],[(.cells [ff,P 2,P 3] (.t 118)),(.cells [ff,P 4,P 5] (.t 118)),(.cells [S 6 1 2] (.t 138)),(.cells [S 7 1 2] (.t 138)),(.cells [S 8 1 2] (.t 138)),(.cells [S 9 1 2] (.t 138)),(.cells [w 1,w 0] (.n 1)),(.cells [w 1,w 0] (.n 1)),(.cells [w 1,w 0] (.n 1)),(.cells [w 2,w 0] (.n 1))],P 80,[(80,[ff,P 61,P 63],(.t 118)),(61,[S 60 1 1],(.t 138)),(63,[S 62 1 2],(.t 138)),(60,[w 1],(.n 1)),(62,[w 2,w 0],(.n 1))]⟩
def e126 : Ent := ⟨[P 0],[(.cells [ff,P 1,P 2] (.t 118)),(.cells [S 3 1 2] (.t 138)),(.cells [S 4 1 2] (.t 138)),(.cells [w 3,w 0] (.n 1)),(.cells [w 2,w 0] (.n 1))],(.int .i64 (.ofNat 1)),[]⟩
def e131 : Ent := ⟨[P 0,P 0],[(.cells [ff,P 1,P 2] (.t 118)),(.cells [S 3 1 1] (.t 138)),(.cells [S 4 1 2] (.t 138)),(.cells [w 1] (.n 1)),(.cells [w 2,w 0] (.n 1))],(.tuple #[P 81,tt]),[(81,[ff,P 62,P 78],(.t 118)),(62,[S 61 1 1],(.t 138)),(78,[S 77 1 1],(.t 138)),(61,[w 1],(.n 1)),(77,[w 1],(.n 1))]⟩
def e132 : Ent := ⟨[P 0,P 1],[(.cells [ff,P 2,P 3] (.t 118)),(.cells [ff,P 4,P 5] (.t 118)),(.cells [S 6 1 1] (.t 138)),(.cells [S 7 1 2] (.t 138)),(.cells [S 8 1 1] (.t 138)),(.cells [S 9 1 2] (.t 138)),(.cells [w 1] (.n 1)),(.cells [w 2,w 0] (.n 1)),(.cells [w 1] (.n 1)),(.cells [w 2,w 0] (.n 1))],(.tuple #[P 86,tt]),[(86,[ff,P 67,P 83],(.t 118)),(67,[S 66 1 1],(.t 138)),(83,[S 82 1 1],(.t 138)),(66,[w 1],(.n 1)),(82,[w 1],(.n 1))]⟩
def e134 : Ent := ⟨[P 0,P 1],[(.cells [ff,P 2,P 3] (.t 118)),(.cells [ff,P 4,P 5] (.t 118)),(.cells [S 6 1 2] (.t 138)),(.cells [S 7 1 2] (.t 138)),(.cells [S 8 1 2] (.t 138)),(.cells [S 9 1 2] (.t 138)),(.cells [w 1,w 0] (.n 1)),(.cells [w 2,w 0] (.n 1)),(.cells [w 1,w 0] (.n 1)),(.cells [w 2,w 0] (.n 1))],P 86,[(86,[ff,P 68,P 83],(.t 118)),(68,[(.slice none 0 0)],(.t 138)),(83,[S 82 1 1],(.t 138)),(82,[w 1],(.n 1))]⟩
def e136 : Ent := ⟨[P 0,(.pointer none)],[(.cells [ff,P 1,P 2] (.t 118)),(.cells [S 3 1 1] (.t 138)),(.cells [S 4 1 1] (.t 138)),(.cells [w 1] (.n 1)),(.cells [w 1] (.n 1))],P 36,[(36,[ff,P 25,P 2],(.t 118)),(25,[S 24 1 2],(.t 138)),(24,[w 1,w 0],(.n 1))]⟩
def e138 : Ent := ⟨[P 0],[(.cells [S 1 5 5] (.t 138)),(.cells [w 0,w 0,w 0,w 0,w 1] (.n 1))],(.int .i64 (.ofNat 128)),[]⟩
def e142 : Ent := ⟨[P 0],[(.cells [tt,P 1,P 2] (.t 118)),(.cells [S 3 1 2] (.t 138)),(.cells [S 4 1 2] (.t 138)),(.cells [w 3,w 0] (.n 1)),(.cells [w 1,w 0] (.n 1))],(.string ⟨#[45,51]⟩),[]⟩
def e143 : Ent := ⟨[P 0],[(.cells [tt,P 1,P 2] (.t 118)),(.cells [S 3 1 1] (.t 138)),(.cells [S 4 1 1] (.t 138)),(.cells [w 25] (.n 1)),(.cells [w 2] (.n 1))],(.string ⟨#[45,50,53,47,50]⟩),[]⟩
def e147 : Ent := ⟨[P 0,P 1],[(.cells [ff,P 2,P 3] (.t 118)),(.cells [ff,P 4,P 5] (.t 118)),(.cells [S 6 1 2] (.t 138)),(.cells [S 7 1 2] (.t 138)),(.cells [S 8 1 2] (.t 138)),(.cells [S 9 1 2] (.t 138)),(.cells [w 2,w 0] (.n 1)),(.cells [w 1,w 0] (.n 1)),(.cells [w 1,w 0] (.n 1)),(.cells [w 1,w 0] (.n 1))],P 52,[(52,[ff,P 41,P 3],(.t 118)),(41,[S 40 1 2],(.t 138)),(40,[w 3,w 0],(.n 1))]⟩
def e148 : Ent := ⟨[P 0,P 1],[(.cells [ff,P 2,P 3] (.t 118)),(.cells [ff,P 4,P 5] (.t 118)),(.cells [S 6 0 2] (.t 138)),(.cells [S 7 1 2] (.t 138)),(.cells [S 8 1 2] (.t 138)),(.cells [S 9 1 2] (.t 138)),(.cells [w 0,w 0] (.n 1)),(.cells [w 1,w 0] (.n 1)),(.cells [w 3,w 0] (.n 1)),(.cells [w 1,w 0] (.n 1))],P 66,[(66,[tt,P 4,P 5],(.t 118))]⟩
def e149 : Ent := ⟨[P 0],[(.cells [tt,P 1,P 2] (.t 118)),(.cells [S 3 1 2] (.t 138)),(.cells [S 4 1 2] (.t 138)),(.cells [w 3,w 0] (.n 1)),(.cells [w 1,w 0] (.n 1))],(.int .i64 (.negSucc 0)),[]⟩
/-- victualler/frac.Get -/
theorem e0ok : Ent.ok K0 33 e0 = true := by kernel_rfl
/-- (*victualler/frac.Frac).Cmp -/
theorem e2ok : Ent.ok K0 17 e2 = true := by kernel_rfl
/-- (*victualler/frac.Frac).Mul -/
theorem e6ok : Ent.ok K0 44 e6 = true := by kernel_rfl
/-- victualler/frac.Of -/
theorem e15ok : Ent.ok K0 25 e15 = true := by kernel_rfl
/-- (*victualler/frac.Frac).Div -/
theorem e16ok : Ent.ok K0 42 e16 = true := by kernel_rfl
/-- (*victualler/frac.Frac).Div -/
theorem e18ok : Ent.ok K0 42 e18 = true := by kernel_rfl
/-- (*victualler/frac.Frac).Cmp -/
theorem e20ok : Ent.ok K0 17 e20 = true := by kernel_rfl
/-- (*victualler/frac.Frac).Sign -/
theorem e22ok : Ent.ok K0 40 e22 = true := by kernel_rfl
/-- (*victualler/frac.Frac).Add -/
theorem e25ok : Ent.ok K0 41 e25 = true := by kernel_rfl
/-- (*victualler/frac.Frac).Add -/
theorem e27ok : Ent.ok K0 41 e27 = true := by kernel_rfl
/-- (*victualler/frac.Frac).Div -/
theorem e29ok : Ent.ok K0 42 e29 = true := by kernel_rfl
/-- (*victualler/frac.Frac).Mul -/
theorem e34ok : Ent.ok K0 44 e34 = true := by kernel_rfl
/-- (*victualler/frac.Frac).Cmp -/
theorem e37ok : Ent.ok K0 17 e37 = true := by kernel_rfl
/-- (*victualler/frac.Frac).Text -/
theorem e38ok : Ent.ok K0 8 e38 = true := by kernel_rfl
/-- (*victualler/frac.Frac).Text -/
theorem e44ok : Ent.ok K0 8 e44 = true := by kernel_rfl
/-- (*victualler/frac.Frac).Cmp -/
theorem e46ok : Ent.ok K0 17 e46 = true := by kernel_rfl
/-- (*victualler/frac.Frac).Div -/
theorem e48ok : Ent.ok K0 42 e48 = true := by kernel_rfl
/-- victualler/frac.Get -/
theorem e61ok : Ent.ok K0 33 e61 = true := by kernel_rfl
/-- (*victualler/frac.Frac).Sign -/
theorem e64ok : Ent.ok K0 40 e64 = true := by kernel_rfl
/-- (*victualler/frac.Frac).Mul -/
theorem e65ok : Ent.ok K0 44 e65 = true := by kernel_rfl
/-- (*victualler/frac.Frac).Add -/
theorem e79ok : Ent.ok K0 41 e79 = true := by kernel_rfl
/-- (*victualler/frac.Frac).Sign -/
theorem e80ok : Ent.ok K0 40 e80 = true := by kernel_rfl
/-- (*victualler/frac.Frac).Add -/
theorem e84ok : Ent.ok K0 41 e84 = true := by kernel_rfl
/-- (*victualler/frac.Frac).Mul -/
theorem e85ok : Ent.ok K0 44 e85 = true := by kernel_rfl
/-- (*victualler/frac.Frac).Add -/
theorem e86ok : Ent.ok K0 41 e86 = true := by kernel_rfl
/-- (*victualler/frac.Frac).Sub -/
theorem e87ok : Ent.ok K0 43 e87 = true := by kernel_rfl
/-- (*victualler/frac.Frac).Mul -/
theorem e88ok : Ent.ok K0 44 e88 = true := by kernel_rfl
/-- (*victualler/frac.Frac).Add -/
theorem e89ok : Ent.ok K0 41 e89 = true := by kernel_rfl
/-- (*victualler/frac.Frac).Sign -/
theorem e90ok : Ent.ok K0 40 e90 = true := by kernel_rfl
/-- (*victualler/frac.Frac).Add -/
theorem e92ok : Ent.ok K0 41 e92 = true := by kernel_rfl
/-- (*victualler/frac.Frac).Text -/
theorem e94ok : Ent.ok K0 8 e94 = true := by kernel_rfl
/-- victualler/frac.Get -/
theorem e99ok : Ent.ok K0 33 e99 = true := by kernel_rfl
/-- victualler/frac.Get -/
theorem e100ok : Ent.ok K0 33 e100 = true := by kernel_rfl
/-- victualler/frac.Get -/
theorem e107ok : Ent.ok K0 33 e107 = true := by kernel_rfl
/-- (*victualler/frac.Frac).Cmp -/
theorem e111ok : Ent.ok K0 17 e111 = true := by kernel_rfl
/-- victualler/nat.Get -/
theorem e113ok : Ent.ok K0 82 e113 = true := by kernel_rfl
/-- victualler/frac.Get -/
theorem e114ok : Ent.ok K0 33 e114 = true := by kernel_rfl
/-- (*victualler/frac.Frac).Div -/
theorem e120ok : Ent.ok K0 42 e120 = true := by kernel_rfl
/-- (*victualler/frac.Frac).Mul -/
theorem e123ok : Ent.ok K0 44 e123 = true := by kernel_rfl
/-- (*victualler/frac.Frac).Sub -/
theorem e125ok : Ent.ok K0 43 e125 = true := by kernel_rfl
/-- (*victualler/frac.Frac).Sign -/
theorem e126ok : Ent.ok K0 40 e126 = true := by kernel_rfl
/-- (*victualler/frac.Frac).Div -/
theorem e131ok : Ent.ok K0 42 e131 = true := by kernel_rfl
/-- (*victualler/frac.Frac).Div -/
theorem e132ok : Ent.ok K0 42 e132 = true := by kernel_rfl
/-- (*victualler/frac.Frac).Sub -/
theorem e134ok : Ent.ok K0 43 e134 = true := by kernel_rfl
/-- (*victualler/frac.Frac).Add -/
theorem e136ok : Ent.ok K0 41 e136 = true := by kernel_rfl
/-- (*victualler/nat.Nat).Twos -/
theorem e138ok : Ent.ok K0 261 e138 = true := by kernel_rfl
/-- (*victualler/frac.Frac).Text -/
theorem e142ok : Ent.ok K0 8 e142 = true := by kernel_rfl
/-- (*victualler/frac.Frac).Text -/
theorem e143ok : Ent.ok K0 8 e143 = true := by kernel_rfl
/-- (*victualler/frac.Frac).Add -/
theorem e147ok : Ent.ok K0 41 e147 = true := by kernel_rfl
/-- (*victualler/frac.Frac).Sub -/
theorem e148ok : Ent.ok K0 43 e148 = true := by kernel_rfl
/-- (*victualler/frac.Frac).Sign -/
theorem e149ok : Ent.ok K0 40 e149 = true := by kernel_rfl
end Go.Dam.Tab
