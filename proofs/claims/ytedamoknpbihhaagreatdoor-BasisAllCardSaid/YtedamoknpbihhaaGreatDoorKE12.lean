/- Closed facts, by the kernel. -/
import Derived.Test.YtedamoknpbihhaaGreatDoorKB
namespace Go.Dam.Tab
open Go Go.Dam
set_option maxRecDepth 1000000
def e1 : Ent := ⟨[(.string ⟨#[48]⟩)],[],(.tuple #[P 34,tt]),[(34,[ff,P 11,P 23],(.t 118)),(11,[S 10 0 1],(.t 138)),(23,[S 22 1 2],(.t 138)),(10,[w 0],(.n 1)),(22,[w 1,w 0],(.n 1))]⟩
def e3 : Ent := ⟨[(.string ⟨#[51]⟩)],[],(.tuple #[P 34,tt]),[(34,[ff,P 11,P 23],(.t 118)),(11,[S 10 1 2],(.t 138)),(23,[S 22 1 2],(.t 138)),(10,[w 3,w 0],(.n 1)),(22,[w 1,w 0],(.n 1))]⟩
def e8 : Ent := ⟨[P 0,P 1],[(.cells [ff,P 2,P 3] (.t 118)),(.cells [ff,P 4,P 5] (.t 118)),(.cells [S 6 0 1] (.t 138)),(.cells [S 7 1 2] (.t 138)),(.cells [S 8 0 1] (.t 138)),(.cells [S 9 1 2] (.t 138)),(.cells [w 0] (.n 1)),(.cells [w 1,w 0] (.n 1)),(.cells [w 0] (.n 1)),(.cells [w 1,w 0] (.n 1))],P 50,[(50,[ff,P 4,P 5],(.t 118))]⟩
def e10 : Ent := ⟨[P 0],[(.cells [ff,P 1,P 2] (.t 118)),(.cells [S 3 1 2] (.t 138)),(.cells [S 4 1 2] (.t 138)),(.cells [w 1,w 0] (.n 1)),(.cells [w 1,w 0] (.n 1))],(.int .i64 (.ofNat 1)),[]⟩
def e13 : Ent := ⟨[P 0,P 1],[(.cells [ff,P 2,P 3] (.t 118)),(.cells [ff,P 4,P 5] (.t 118)),(.cells [S 6 0 1] (.t 138)),(.cells [S 7 1 2] (.t 138)),(.cells [S 8 1 2] (.t 138)),(.cells [S 9 1 2] (.t 138)),(.cells [w 0] (.n 1)),(.cells [w 1,w 0] (.n 1)),(.cells [w 3,w 0] (.n 1)),(.cells [w 1,w 0] (.n 1))],P 50,[(50,[ff,P 4,P 5],(.t 118))]⟩
def e14 : Ent := ⟨[P 0,P 1],[(.cells [ff,P 2,P 3] (.t 118)),(.cells [ff,P 4,P 5] (.t 118)),(.cells [S 6 1 2] (.t 138)),(.cells [S 7 1 2] (.t 138)),(.cells [S 8 1 2] (.t 138)),(.cells [S 9 1 2] (.t 138)),(.cells [w 1,w 0] (.n 1)),(.cells [w 1,w 0] (.n 1)),(.cells [w 3,w 0] (.n 1)),(.cells [w 1,w 0] (.n 1))],P 54,[(54,[ff,P 41,P 43],(.t 118)),(41,[S 40 1 2],(.t 138)),(43,[S 42 1 2],(.t 138)),(40,[w 3,w 0],(.n 1)),(42,[w 1,w 0],(.n 1))]⟩
def e23 : Ent := ⟨[P 0,P 1],[(.cells [ff,P 2,P 3] (.t 118)),(.cells [ff,P 4,P 5] (.t 118)),(.cells [S 6 1 2] (.t 138)),(.cells [S 7 1 2] (.t 138)),(.cells [S 8 1 2] (.t 138)),(.cells [S 9 1 2] (.t 138)),(.cells [w 2,w 0] (.n 1)),(.cells [w 1,w 0] (.n 1)),(.cells [w 3,w 0] (.n 1)),(.cells [w 1,w 0] (.n 1))],P 68,[(68,[tt,P 57,P 3],(.t 118)),(57,[S 56 1 1],(.t 138)),(56,[w 1],(.n 1))]⟩
def e28 : Ent := ⟨[P 0,P 1],[(.cells [tt,P 2,P 3] (.t 118)),(.cells [tt,P 4,P 5] (.t 118)),(.cells [S 6 1 2] (.t 138)),(.cells [S 7 1 2] (.t 138)),(.cells [S 8 1 2] (.t 138)),(.cells [S 9 1 2] (.t 138)),(.cells [w 1,w 0] (.n 1)),(.cells [w 1,w 0] (.n 1)),(.cells [w 1,w 0] (.n 1)),(.cells [w 1,w 0] (.n 1))],(.tuple #[P 54,tt]),[(54,[ff,P 41,P 43],(.t 118)),(41,[S 40 1 2],(.t 138)),(43,[S 42 1 2],(.t 138)),(40,[w 1,w 0],(.n 1)),(42,[w 1,w 0],(.n 1))]⟩
def e30 : Ent := ⟨[P 0,P 1],[(.cells [ff,P 2,P 3] (.t 118)),(.cells [ff,P 4,P 5] (.t 118)),(.cells [S 6 1 2] (.t 138)),(.cells [S 7 1 2] (.t 138)),(.cells [S 8 0 1] (.t 138)),(.cells [S 9 1 2] (.t 138)),(.cells [w 1,w 0] (.n 1)),(.cells [w 1,w 0] (.n 1)),(.cells [w 0] (.n 1)),(.cells [w 1,w 0] (.n 1))],(.int .i64 (.ofNat 1)),[]⟩
def e32 : Ent := ⟨[P 0,P 1],[(.cells [ff,P 2,P 3] (.t 118)),(.cells [ff,P 4,P 5] (.t 118)),(.cells [S 6 1 2] (.t 138)),(.cells [S 7 1 2] (.t 138)),(.cells [S 8 1 2] (.t 138)),(.cells [S 9 1 2] (.t 138)),(.cells [w 3,w 0] (.n 1)),(.cells [w 1,w 0] (.n 1)),(.cells [w 1,w 0] (.n 1)),(.cells [w 1,w 0] (.n 1))],P 54,[(54,[ff,P 41,P 43],(.t 118)),(41,[S 40 1 2],(.t 138)),(43,[S 42 1 2],(.t 138)),(40,[w 3,w 0],(.n 1)),(42,[w 1,w 0],(.n 1))]⟩
def e33 : Ent := ⟨[P 0,P 1],[(.cells [ff,P 2,P 3] (.t 118)),(.cells [ff,P 4,P 5] (.t 118)),(.cells [S 6 0 2] (.t 138)),(.cells [S 7 1 2] (.t 138)),(.cells [S 8 1 2] (.t 138)),(.cells [S 9 1 2] (.t 138)),(.cells [w 0,w 0] (.n 1)),(.cells [w 1,w 0] (.n 1)),(.cells [w 3,w 0] (.n 1)),(.cells [w 1,w 0] (.n 1))],P 50,[(50,[ff,P 4,P 5],(.t 118))]⟩
def e35 : Ent := ⟨[P 0,P 1],[(.cells [ff,P 2,P 3] (.t 118)),(.cells [tt,P 4,P 5] (.t 118)),(.cells [S 6 1 2] (.t 138)),(.cells [S 7 1 2] (.t 138)),(.cells [S 8 1 2] (.t 138)),(.cells [S 9 1 2] (.t 138)),(.cells [w 2,w 0] (.n 1)),(.cells [w 1,w 0] (.n 1)),(.cells [w 3,w 0] (.n 1)),(.cells [w 1,w 0] (.n 1))],P 52,[(52,[tt,P 41,P 3],(.t 118)),(41,[S 40 1 1],(.t 138)),(40,[w 1],(.n 1))]⟩
def e39 : Ent := ⟨[P 0],[(.cells [ff,P 1,P 2] (.t 118)),(.cells [S 3 1 2] (.t 138)),(.cells [S 4 1 2] (.t 138)),(.cells [w 1,w 0] (.n 1)),(.cells [w 1,w 0] (.n 1))],(.string ⟨#[49]⟩),[]⟩
def e42 : Ent := ⟨[P 0,P 1],[(.cells [ff,P 2,P 3] (.t 118)),(.cells [ff,P 4,P 5] (.t 118)),(.cells [S 6 1 2] (.t 138)),(.cells [S 7 1 2] (.t 138)),(.cells [S 8 1 2] (.t 138)),(.cells [S 9 1 2] (.t 138)),(.cells [w 4,w 0] (.n 1)),(.cells [w 1,w 0] (.n 1)),(.cells [w 3,w 0] (.n 1)),(.cells [w 1,w 0] (.n 1))],P 52,[(52,[ff,P 41,P 3],(.t 118)),(41,[S 40 1 2],(.t 138)),(40,[w 7,w 0],(.n 1))]⟩
def e45 : Ent := ⟨[P 0,P 1],[(.cells [ff,P 2,P 3] (.t 118)),(.cells [ff,P 4,P 5] (.t 118)),(.cells [S 6 0 1] (.t 138)),(.cells [S 7 1 2] (.t 138)),(.cells [S 8 1 2] (.t 138)),(.cells [S 9 1 2] (.t 138)),(.cells [w 0] (.n 1)),(.cells [w 1,w 0] (.n 1)),(.cells [w 1,w 0] (.n 1)),(.cells [w 1,w 0] (.n 1))],(.int .i64 (.negSucc 0)),[]⟩
def e51 : Ent := ⟨[P 0,P 1],[(.cells [ff,P 2,P 3] (.t 118)),(.cells [tt,P 4,P 5] (.t 118)),(.cells [S 6 1 2] (.t 138)),(.cells [S 7 1 2] (.t 138)),(.cells [S 8 1 2] (.t 138)),(.cells [S 9 1 2] (.t 138)),(.cells [w 3,w 0] (.n 1)),(.cells [w 1,w 0] (.n 1)),(.cells [w 2,w 0] (.n 1)),(.cells [w 1,w 0] (.n 1))],P 52,[(52,[ff,P 41,P 3],(.t 118)),(41,[S 40 1 1],(.t 138)),(40,[w 1],(.n 1))]⟩
def e53 : Ent := ⟨[P 0,P 1],[(.cells [ff,P 2,P 3] (.t 118)),(.cells [ff,P 4,P 5] (.t 118)),(.cells [S 6 1 1] (.t 138)),(.cells [S 7 1 2] (.t 138)),(.cells [S 8 1 2] (.t 138)),(.cells [S 9 1 2] (.t 138)),(.cells [w 1] (.n 1)),(.cells [w 1,w 0] (.n 1)),(.cells [w 1,w 0] (.n 1)),(.cells [w 1,w 0] (.n 1))],(.int .i64 (.ofNat 0)),[]⟩
def e54 : Ent := ⟨[P 0],[(.cells [ff,P 1,P 2] (.t 118)),(.cells [S 3 1 1] (.t 138)),(.cells [S 4 1 2] (.t 138)),(.cells [w 1] (.n 1)),(.cells [w 1,w 0] (.n 1))],(.string ⟨#[49]⟩),[]⟩
def e55 : Ent := ⟨[P 0],[(.cells [ff,P 1,P 2] (.t 118)),(.cells [S 3 1 2] (.t 138)),(.cells [S 4 1 2] (.t 138)),(.cells [w 2,w 0] (.n 1)),(.cells [w 1,w 0] (.n 1))],(.string ⟨#[50]⟩),[]⟩
def e56 : Ent := ⟨[P 0,P 1],[(.cells [ff,P 2,P 3] (.t 118)),(.cells [ff,P 4,P 5] (.t 118)),(.cells [S 6 1 2] (.t 138)),(.cells [S 7 1 2] (.t 138)),(.cells [S 8 1 2] (.t 138)),(.cells [S 9 1 2] (.t 138)),(.cells [w 2,w 0] (.n 1)),(.cells [w 1,w 0] (.n 1)),(.cells [w 1,w 0] (.n 1)),(.cells [w 1,w 0] (.n 1))],P 54,[(54,[ff,P 41,P 43],(.t 118)),(41,[S 40 1 2],(.t 138)),(43,[S 42 1 2],(.t 138)),(40,[w 2,w 0],(.n 1)),(42,[w 1,w 0],(.n 1))]⟩
def e57 : Ent := ⟨[P 0,P 1],[(.cells [ff,P 2,P 3] (.t 118)),(.cells [ff,P 4,P 5] (.t 118)),(.cells [S 6 0 2] (.t 138)),(.cells [S 7 1 2] (.t 138)),(.cells [S 8 1 2] (.t 138)),(.cells [S 9 1 2] (.t 138)),(.cells [w 0,w 0] (.n 1)),(.cells [w 1,w 0] (.n 1)),(.cells [w 2,w 0] (.n 1)),(.cells [w 1,w 0] (.n 1))],P 50,[(50,[ff,P 4,P 5],(.t 118))]⟩
def e59 : Ent := ⟨[P 0,P 1],[(.cells [ff,P 2,P 3] (.t 118)),(.cells [ff,P 4,P 5] (.t 118)),(.cells [S 6 1 2] (.t 138)),(.cells [S 7 1 2] (.t 138)),(.cells [S 8 1 2] (.t 138)),(.cells [S 9 1 2] (.t 138)),(.cells [w 2,w 0] (.n 1)),(.cells [w 1,w 0] (.n 1)),(.cells [w 6,w 0] (.n 1)),(.cells [w 1,w 0] (.n 1))],P 52,[(52,[ff,P 41,P 3],(.t 118)),(41,[S 40 1 2],(.t 138)),(40,[w 8,w 0],(.n 1))]⟩
def e63 : Ent := ⟨[(.int .i64 (.ofNat 2))],[],P 4,[(4,[ff,P 1,P 3],(.t 118)),(1,[S 0 1 2],(.t 138)),(3,[S 2 1 2],(.t 138)),(0,[w 2,w 0],(.n 1)),(2,[w 1,w 0],(.n 1))]⟩
def e66 : Ent := ⟨[P 0],[(.cells [ff,P 1,P 2] (.t 118)),(.cells [S 3 0 2] (.t 138)),(.cells [S 4 1 2] (.t 138)),(.cells [w 0,w 0] (.n 1)),(.cells [w 1,w 0] (.n 1))],(.int .i64 (.ofNat 0)),[]⟩
def e67 : Ent := ⟨[P 0,P 1],[(.cells [ff,P 2,P 3] (.t 118)),(.cells [ff,P 4,P 5] (.t 118)),(.cells [S 6 1 2] (.t 138)),(.cells [S 7 1 2] (.t 138)),(.cells [S 8 1 2] (.t 138)),(.cells [S 9 1 2] (.t 138)),(.cells [w 1,w 0] (.n 1)),(.cells [w 1,w 0] (.n 1)),(.cells [w 1,w 0] (.n 1)),(.cells [w 1,w 0] (.n 1))],P 54,[(54,[ff,P 41,P 43],(.t 118)),(41,[S 40 1 2],(.t 138)),(43,[S 42 1 2],(.t 138)),(40,[w 1,w 0],(.n 1)),(42,[w 1,w 0],(.n 1))]⟩
def e70 : Ent := ⟨[P 0,(.pointer none)],[(.cells [ff,P 1,P 2] (.t 118)),(.cells [S 3 1 2] (.t 138)),(.cells [S 4 1 2] (.t 138)),(.cells [w 1,w 0] (.n 1)),(.cells [w 1,w 0] (.n 1))],P 36,[(36,[ff,P 25,P 2],(.t 118)),(25,[S 24 1 2],(.t 138)),(24,[w 1,w 0],(.n 1))]⟩
def e71 : Ent := ⟨[P 0,P 1],[(.cells [ff,P 2,P 3] (.t 118)),(.cells [ff,P 4,P 5] (.t 118)),(.cells [S 6 1 2] (.t 138)),(.cells [S 7 1 2] (.t 138)),(.cells [S 8 1 2] (.t 138)),(.cells [S 9 1 2] (.t 138)),(.cells [w 1,w 0] (.n 1)),(.cells [w 1,w 0] (.n 1)),(.cells [w 2,w 0] (.n 1)),(.cells [w 1,w 0] (.n 1))],(.tuple #[P 60,tt]),[(60,[ff,P 41,P 43],(.t 118)),(41,[S 40 1 2],(.t 138)),(43,[S 42 1 2],(.t 138)),(40,[w 1,w 0],(.n 1)),(42,[w 2,w 0],(.n 1))]⟩
def e76 : Ent := ⟨[P 0,P 1],[(.cells [ff,P 2,P 3] (.t 118)),(.cells [ff,P 4,P 5] (.t 118)),(.cells [S 6 1 2] (.t 138)),(.cells [S 7 1 2] (.t 138)),(.cells [S 8 0 1] (.t 138)),(.cells [S 9 1 2] (.t 138)),(.cells [w 1,w 0] (.n 1)),(.cells [w 1,w 0] (.n 1)),(.cells [w 0] (.n 1)),(.cells [w 1,w 0] (.n 1))],P 68,[(68,[ff,P 57,P 3],(.t 118)),(57,[S 56 1 2],(.t 138)),(56,[w 1,w 0],(.n 1))]⟩
def e81 : Ent := ⟨[P 0],[(.cells [tt,P 1,P 2] (.t 118)),(.cells [S 3 1 2] (.t 138)),(.cells [S 4 1 2] (.t 138)),(.cells [w 1,w 0] (.n 1)),(.cells [w 2,w 0] (.n 1))],(.int .i64 (.negSucc 0)),[]⟩
def e82 : Ent := ⟨[P 0,P 1],[(.cells [tt,P 2,P 3] (.t 118)),(.cells [ff,P 4,P 5] (.t 118)),(.cells [S 6 1 2] (.t 138)),(.cells [S 7 1 2] (.t 138)),(.cells [S 8 1 2] (.t 138)),(.cells [S 9 1 2] (.t 138)),(.cells [w 1,w 0] (.n 1)),(.cells [w 2,w 0] (.n 1)),(.cells [w 2,w 0] (.n 1)),(.cells [w 1,w 0] (.n 1))],P 86,[(86,[tt,P 67,P 83],(.t 118)),(67,[S 66 1 1],(.t 138)),(83,[S 82 1 1],(.t 138)),(66,[w 1],(.n 1)),(82,[w 1],(.n 1))]⟩
def e83 : Ent := ⟨[P 0,P 1],[(.cells [ff,P 2,P 3] (.t 118)),(.cells [tt,P 4,P 5] (.t 118)),(.cells [S 6 0 2] (.t 138)),(.cells [S 7 1 2] (.t 138)),(.cells [S 8 1 1] (.t 138)),(.cells [S 9 1 1] (.t 138)),(.cells [w 0,w 0] (.n 1)),(.cells [w 1,w 0] (.n 1)),(.cells [w 1] (.n 1)),(.cells [w 1] (.n 1))],P 50,[(50,[tt,P 4,P 5],(.t 118))]⟩
def e93 : Ent := ⟨[(.string ⟨#[53]⟩)],[],(.tuple #[P 34,tt]),[(34,[ff,P 11,P 23],(.t 118)),(11,[S 10 1 2],(.t 138)),(23,[S 22 1 2],(.t 138)),(10,[w 5,w 0],(.n 1)),(22,[w 1,w 0],(.n 1))]⟩
def e95 : Ent := ⟨[(.string ⟨#[49,48]⟩)],[],(.tuple #[P 34,tt]),[(34,[ff,P 11,P 23],(.t 118)),(11,[S 10 1 2],(.t 138)),(23,[S 22 1 2],(.t 138)),(10,[w 10,w 0],(.n 1)),(22,[w 1,w 0],(.n 1))]⟩
def e96 : Ent := ⟨[P 0],[(.cells [ff,P 1,P 2] (.t 118)),(.cells [S 3 1 2] (.t 138)),(.cells [S 4 1 2] (.t 138)),(.cells [w 10,w 0] (.n 1)),(.cells [w 1,w 0] (.n 1))],(.string ⟨#[49,48]⟩),[]⟩
def e98 : Ent := ⟨[P 0],[(.cells [ff,P 1,P 2] (.t 118)),(.cells [S 3 1 2] (.t 138)),(.cells [S 4 1 2] (.t 138)),(.cells [w 4,w 0] (.n 1)),(.cells [w 1,w 0] (.n 1))],(.string ⟨#[52]⟩),[]⟩
def e102 : Ent := ⟨[(.string ⟨#[49,48]⟩)],[],(.tuple #[P 11,tt]),[(11,[S 10 1 2],(.t 138)),(10,[w 10,w 0],(.n 1))]⟩
def e103 : Ent := ⟨[ff,P 0,P 1],[(.cells [S 2 1 2] (.t 138)),(.cells [S 3 1 2] (.t 138)),(.cells [w 5,w 0] (.n 1)),(.cells [w 10,w 0] (.n 1))],(.tuple #[P 52,tt]),[(52,[ff,P 33,P 49],(.t 118)),(33,[S 32 1 1],(.t 138)),(49,[S 48 1 1],(.t 138)),(32,[w 1],(.n 1)),(48,[w 2],(.n 1))]⟩
def e104 : Ent := ⟨[P 0],[(.cells [ff,P 1,P 2] (.t 118)),(.cells [S 3 1 1] (.t 138)),(.cells [S 4 1 1] (.t 138)),(.cells [w 1] (.n 1)),(.cells [w 2] (.n 1))],(.string ⟨#[49,47,50]⟩),[]⟩
def e108 : Ent := ⟨[P 0,P 1],[(.cells [ff,P 2,P 3] (.t 118)),(.cells [ff,P 4,P 5] (.t 118)),(.cells [S 6 0 2] (.t 138)),(.cells [S 7 1 2] (.t 138)),(.cells [S 8 1 2] (.t 138)),(.cells [S 9 1 2] (.t 138)),(.cells [w 0,w 0] (.n 1)),(.cells [w 1,w 0] (.n 1)),(.cells [w 1,w 0] (.n 1)),(.cells [w 2,w 0] (.n 1))],P 56,[(56,[ff,P 4,P 5],(.t 118))]⟩
def e109 : Ent := ⟨[P 0,P 1],[(.cells [ff,P 2,P 3] (.t 118)),(.cells [ff,P 4,P 5] (.t 118)),(.cells [S 6 1 2] (.t 138)),(.cells [S 7 1 2] (.t 138)),(.cells [S 8 1 2] (.t 138)),(.cells [S 9 1 2] (.t 138)),(.cells [w 1,w 0] (.n 1)),(.cells [w 2,w 0] (.n 1)),(.cells [w 1,w 0] (.n 1)),(.cells [w 2,w 0] (.n 1))],P 84,[(84,[ff,P 65,P 81],(.t 118)),(65,[S 64 1 1],(.t 138)),(81,[S 80 1 1],(.t 138)),(64,[w 1],(.n 1)),(80,[w 1],(.n 1))]⟩
def e110 : Ent := ⟨[P 0,P 1],[(.cells [ff,P 2,P 3] (.t 118)),(.cells [ff,P 4,P 5] (.t 118)),(.cells [S 6 1 1] (.t 138)),(.cells [S 7 1 1] (.t 138)),(.cells [S 8 1 2] (.t 138)),(.cells [S 9 1 2] (.t 138)),(.cells [w 1] (.n 1)),(.cells [w 1] (.n 1)),(.cells [w 1,w 0] (.n 1)),(.cells [w 1,w 0] (.n 1))],(.int .i64 (.ofNat 0)),[]⟩
def e115 : Ent := ⟨[(.string ⟨#[45,49,46,50,53,101,49]⟩)],[],(.tuple #[(.pointer none),ff]),[]⟩
def e118 : Ent := ⟨[(.string ⟨#[45,49,47,50]⟩)],[],(.tuple #[P 52,tt]),[(52,[tt,P 23,P 35],(.t 118)),(23,[S 22 1 2],(.t 138)),(35,[S 34 1 2],(.t 138)),(22,[w 1,w 0],(.n 1)),(34,[w 2,w 0],(.n 1))]⟩
def e127 : Ent := ⟨[P 0,P 1],[(.cells [ff,P 2,P 3] (.t 118)),(.cells [ff,P 4,P 5] (.t 118)),(.cells [S 6 1 2] (.t 138)),(.cells [S 7 1 2] (.t 138)),(.cells [S 8 1 2] (.t 138)),(.cells [S 9 1 2] (.t 138)),(.cells [w 1,w 0] (.n 1)),(.cells [w 1,w 0] (.n 1)),(.cells [w 3,w 0] (.n 1)),(.cells [w 2,w 0] (.n 1))],P 60,[(60,[ff,P 41,P 43],(.t 118)),(41,[S 40 1 2],(.t 138)),(43,[S 42 1 2],(.t 138)),(40,[w 3,w 0],(.n 1)),(42,[w 2,w 0],(.n 1))]⟩
def e129 : Ent := ⟨[P 0],[(.cells [ff,P 1,P 2] (.t 118)),(.cells [S 3 1 1] (.t 138)),(.cells [S 4 1 2] (.t 138)),(.cells [w 1] (.n 1)),(.cells [w 2,w 0] (.n 1))],(.int .i64 (.ofNat 1)),[]⟩
def e130 : Ent := ⟨[P 0,P 1],[(.cells [ff,P 2,P 3] (.t 118)),(.cells [ff,P 4,P 5] (.t 118)),(.cells [S 6 0 1] (.t 138)),(.cells [S 7 1 2] (.t 138)),(.cells [S 8 1 1] (.t 138)),(.cells [S 9 1 2] (.t 138)),(.cells [w 0] (.n 1)),(.cells [w 1,w 0] (.n 1)),(.cells [w 1] (.n 1)),(.cells [w 2,w 0] (.n 1))],(.tuple #[P 54,tt]),[(54,[ff,P 41,P 43],(.t 118)),(41,[S 40 0 1],(.t 138)),(43,[S 42 1 2],(.t 138)),(40,[w 0],(.n 1)),(42,[w 1,w 0],(.n 1))]⟩
def e135 : Ent := ⟨[P 0,P 1],[(.cells [ff,P 2,P 3] (.t 118)),(.cells [ff,P 4,P 5] (.t 118)),(.cells [S 6 1 2] (.t 138)),(.cells [S 7 1 2] (.t 138)),(.cells [S 8 1 2] (.t 138)),(.cells [S 9 1 2] (.t 138)),(.cells [w 3,w 0] (.n 1)),(.cells [w 2,w 0] (.n 1)),(.cells [w 1,w 0] (.n 1)),(.cells [w 2,w 0] (.n 1))],P 100,[(100,[ff,P 81,P 97],(.t 118)),(81,[S 80 1 1],(.t 138)),(97,[S 96 1 1],(.t 138)),(80,[w 1],(.n 1)),(96,[w 1],(.n 1))]⟩
def e140 : Ent := ⟨[P 0],[(.cells [tt,P 1,P 2] (.t 118)),(.cells [S 3 1 2] (.t 138)),(.cells [S 4 1 2] (.t 138)),(.cells [w 7,w 0] (.n 1)),(.cells [w 3,w 0] (.n 1))],(.string ⟨#[45,55,47,51]⟩),[]⟩
def e150 : Ent := ⟨[P 0,P 1],[(.cells [tt,P 2,P 3] (.t 118)),(.cells [ff,P 4,P 5] (.t 118)),(.cells [S 6 1 2] (.t 138)),(.cells [S 7 1 2] (.t 138)),(.cells [S 8 1 2] (.t 138)),(.cells [S 9 1 2] (.t 138)),(.cells [w 3,w 0] (.n 1)),(.cells [w 1,w 0] (.n 1)),(.cells [w 2,w 0] (.n 1)),(.cells [w 1,w 0] (.n 1))],P 54,[(54,[tt,P 41,P 43],(.t 118)),(41,[S 40 1 2],(.t 138)),(43,[S 42 1 2],(.t 138)),(40,[w 6,w 0],(.n 1)),(42,[w 1,w 0],(.n 1))]⟩
def e152 : Ent := ⟨[P 0,P 1],[(.cells [ff,P 2,P 3] (.t 118)),(.cells [ff,P 4,P 5] (.t 118)),(.cells [S 6 1 2] (.t 138)),(.cells [S 7 1 2] (.t 138)),(.cells [S 8 1 2] (.t 138)),(.cells [S 9 1 2] (.t 138)),(.cells [w 7,w 0] (.n 1)),(.cells [w 1,w 0] (.n 1)),(.cells [w 7,w 0] (.n 1)),(.cells [w 1,w 0] (.n 1))],(.int .i64 (.ofNat 0)),[]⟩
def e153 : Ent := ⟨[P 0],[(.cells [ff,P 1,P 2] (.t 118)),(.cells [S 3 1 1] (.t 138)),(.cells [S 4 1 1] (.t 138)),(.cells [w 1] (.n 1)),(.cells [w 1] (.n 1))],(.string ⟨#[49]⟩),[]⟩
/-- victualler/frac.Get -/
theorem e1ok : Ent.ok K0 33 e1 = true := by kernel_rfl
/-- victualler/frac.Get -/
theorem e3ok : Ent.ok K0 33 e3 = true := by kernel_rfl
/-- (*victualler/frac.Frac).Add -/
theorem e8ok : Ent.ok K0 41 e8 = true := by kernel_rfl
/-- (*victualler/frac.Frac).Sign -/
theorem e10ok : Ent.ok K0 40 e10 = true := by kernel_rfl
/-- (*victualler/frac.Frac).Add -/
theorem e13ok : Ent.ok K0 41 e13 = true := by kernel_rfl
/-- (*victualler/frac.Frac).Mul -/
theorem e14ok : Ent.ok K0 44 e14 = true := by kernel_rfl
/-- (*victualler/frac.Frac).Sub -/
theorem e23ok : Ent.ok K0 43 e23 = true := by kernel_rfl
/-- (*victualler/frac.Frac).Div -/
theorem e28ok : Ent.ok K0 42 e28 = true := by kernel_rfl
/-- (*victualler/frac.Frac).Cmp -/
theorem e30ok : Ent.ok K0 17 e30 = true := by kernel_rfl
/-- (*victualler/frac.Frac).Mul -/
theorem e32ok : Ent.ok K0 44 e32 = true := by kernel_rfl
/-- (*victualler/frac.Frac).Add -/
theorem e33ok : Ent.ok K0 41 e33 = true := by kernel_rfl
/-- (*victualler/frac.Frac).Add -/
theorem e35ok : Ent.ok K0 41 e35 = true := by kernel_rfl
/-- (*victualler/frac.Frac).Text -/
theorem e39ok : Ent.ok K0 8 e39 = true := by kernel_rfl
/-- (*victualler/frac.Frac).Add -/
theorem e42ok : Ent.ok K0 41 e42 = true := by kernel_rfl
/-- (*victualler/frac.Frac).Cmp -/
theorem e45ok : Ent.ok K0 17 e45 = true := by kernel_rfl
/-- (*victualler/frac.Frac).Add -/
theorem e51ok : Ent.ok K0 41 e51 = true := by kernel_rfl
/-- (*victualler/frac.Frac).Cmp -/
theorem e53ok : Ent.ok K0 17 e53 = true := by kernel_rfl
/-- (*victualler/frac.Frac).Text -/
theorem e54ok : Ent.ok K0 8 e54 = true := by kernel_rfl
/-- (*victualler/frac.Frac).Text -/
theorem e55ok : Ent.ok K0 8 e55 = true := by kernel_rfl
/-- (*victualler/frac.Frac).Mul -/
theorem e56ok : Ent.ok K0 44 e56 = true := by kernel_rfl
/-- (*victualler/frac.Frac).Add -/
theorem e57ok : Ent.ok K0 41 e57 = true := by kernel_rfl
/-- (*victualler/frac.Frac).Add -/
theorem e59ok : Ent.ok K0 41 e59 = true := by kernel_rfl
/-- victualler/frac.Of -/
theorem e63ok : Ent.ok K0 25 e63 = true := by kernel_rfl
/-- (*victualler/frac.Frac).Sign -/
theorem e66ok : Ent.ok K0 40 e66 = true := by kernel_rfl
/-- (*victualler/frac.Frac).Mul -/
theorem e67ok : Ent.ok K0 44 e67 = true := by kernel_rfl
/-- (*victualler/frac.Frac).Add -/
theorem e70ok : Ent.ok K0 41 e70 = true := by kernel_rfl
/-- (*victualler/frac.Frac).Div -/
theorem e71ok : Ent.ok K0 42 e71 = true := by kernel_rfl
/-- (*victualler/frac.Frac).Sub -/
theorem e76ok : Ent.ok K0 43 e76 = true := by kernel_rfl
/-- (*victualler/frac.Frac).Sign -/
theorem e81ok : Ent.ok K0 40 e81 = true := by kernel_rfl
/-- (*victualler/frac.Frac).Mul -/
theorem e82ok : Ent.ok K0 44 e82 = true := by kernel_rfl
/-- (*victualler/frac.Frac).Add -/
theorem e83ok : Ent.ok K0 41 e83 = true := by kernel_rfl
/-- victualler/frac.Get -/
theorem e93ok : Ent.ok K0 33 e93 = true := by kernel_rfl
/-- victualler/frac.Get -/
theorem e95ok : Ent.ok K0 33 e95 = true := by kernel_rfl
/-- (*victualler/frac.Frac).Text -/
theorem e96ok : Ent.ok K0 8 e96 = true := by kernel_rfl
/-- (*victualler/frac.Frac).Text -/
theorem e98ok : Ent.ok K0 8 e98 = true := by kernel_rfl
/-- victualler/nat.Get -/
theorem e102ok : Ent.ok K0 82 e102 = true := by kernel_rfl
/-- victualler/frac.New -/
theorem e103ok : Ent.ok K0 96 e103 = true := by kernel_rfl
/-- (*victualler/frac.Frac).Text -/
theorem e104ok : Ent.ok K0 8 e104 = true := by kernel_rfl
/-- (*victualler/frac.Frac).Add -/
theorem e108ok : Ent.ok K0 41 e108 = true := by kernel_rfl
/-- (*victualler/frac.Frac).Add -/
theorem e109ok : Ent.ok K0 41 e109 = true := by kernel_rfl
/-- (*victualler/frac.Frac).Cmp -/
theorem e110ok : Ent.ok K0 17 e110 = true := by kernel_rfl
/-- victualler/frac.Get -/
theorem e115ok : Ent.ok K0 33 e115 = true := by kernel_rfl
/-- victualler/frac.Get -/
theorem e118ok : Ent.ok K0 33 e118 = true := by kernel_rfl
/-- (*victualler/frac.Frac).Mul -/
theorem e127ok : Ent.ok K0 44 e127 = true := by kernel_rfl
/-- (*victualler/frac.Frac).Sign -/
theorem e129ok : Ent.ok K0 40 e129 = true := by kernel_rfl
/-- (*victualler/frac.Frac).Div -/
theorem e130ok : Ent.ok K0 42 e130 = true := by kernel_rfl
/-- (*victualler/frac.Frac).Sub -/
theorem e135ok : Ent.ok K0 43 e135 = true := by kernel_rfl
/-- (*victualler/frac.Frac).Text -/
theorem e140ok : Ent.ok K0 8 e140 = true := by kernel_rfl
/-- (*victualler/frac.Frac).Mul -/
theorem e150ok : Ent.ok K0 44 e150 = true := by kernel_rfl
/-- (*victualler/frac.Frac).Cmp -/
theorem e152ok : Ent.ok K0 17 e152 = true := by kernel_rfl
/-- (*victualler/frac.Frac).Text -/
theorem e153ok : Ent.ok K0 8 e153 = true := by kernel_rfl
end Go.Dam.Tab
