/- Closed facts, by the kernel. -/
import Derived.Test.YtedamoknpbihhaaGreatDoorKB
namespace Go.Dam.Tab
open Go Go.Dam
set_option maxRecDepth 1000000
def e4 : Ent := ⟨[(.string ⟨#[49]⟩)],[],(.tuple #[P 34,tt]),[(34,[ff,P 11,P 23],(.t 118)),(11,[S 10 1 2],(.t 138)),(23,[S 22 1 2],(.t 138)),(10,[w 1,w 0],(.n 1)),(22,[w 1,w 0],(.n 1))]⟩
def e5 : Ent := ⟨[(.int .i64 (.ofNat 0))],[],P 4,[(4,[ff,P 1,P 3],(.t 118)),(1,[S 0 0 2],(.t 138)),(3,[S 2 1 2],(.t 138)),(0,[w 0,w 0],(.n 1)),(2,[w 1,w 0],(.n 1))]⟩
def e7 : Ent := ⟨[P 0,P 1],[(.cells [ff,P 2,P 3] (.t 118)),(.cells [ff,P 4,P 5] (.t 118)),(.cells [S 6 0 2] (.t 138)),(.cells [S 7 1 2] (.t 138)),(.cells [S 8 0 1] (.t 138)),(.cells [S 9 1 2] (.t 138)),(.cells [w 0,w 0] (.n 1)),(.cells [w 1,w 0] (.n 1)),(.cells [w 0] (.n 1)),(.cells [w 1,w 0] (.n 1))],P 50,[(50,[ff,P 4,P 5],(.t 118))]⟩
def e9 : Ent := ⟨[P 0,P 1],[(.cells [ff,P 2,P 3] (.t 118)),(.cells [ff,P 4,P 5] (.t 118)),(.cells [S 6 0 1] (.t 138)),(.cells [S 7 1 2] (.t 138)),(.cells [S 8 1 2] (.t 138)),(.cells [S 9 1 2] (.t 138)),(.cells [w 0] (.n 1)),(.cells [w 1,w 0] (.n 1)),(.cells [w 3,w 0] (.n 1)),(.cells [w 1,w 0] (.n 1))],(.int .i64 (.negSucc 0)),[]⟩
def e11 : Ent := ⟨[P 0,P 1],[(.cells [ff,P 2,P 3] (.t 118)),(.cells [ff,P 4,P 5] (.t 118)),(.cells [S 6 1 2] (.t 138)),(.cells [S 7 1 2] (.t 138)),(.cells [S 8 0 1] (.t 138)),(.cells [S 9 1 2] (.t 138)),(.cells [w 3,w 0] (.n 1)),(.cells [w 1,w 0] (.n 1)),(.cells [w 0] (.n 1)),(.cells [w 1,w 0] (.n 1))],P 68,[(68,[ff,P 57,P 3],(.t 118)),(57,[S 56 1 2],(.t 138)),(56,[w 3,w 0],(.n 1))]⟩
def e12 : Ent := ⟨[P 0,P 1],[(.cells [ff,P 2,P 3] (.t 118)),(.cells [ff,P 4,P 5] (.t 118)),(.cells [S 6 1 2] (.t 138)),(.cells [S 7 1 2] (.t 138)),(.cells [S 8 1 2] (.t 138)),(.cells [S 9 1 2] (.t 138)),(.cells [w 3,w 0] (.n 1)),(.cells [w 1,w 0] (.n 1)),(.cells [w 1,w 0] (.n 1)),(.cells [w 1,w 0] (.n 1))],(.tuple #[P 54,tt]),[(54,[ff,P 41,P 43],(.t 118)),(41,[S 40 1 2],(.t 138)),(43,[S 42 1 2],(.t 138)),(40,[w 3,w 0],(.n 1)),(42,[w 1,w 0],(.n 1))]⟩
def e17 : Ent := ⟨[P 0],[(.cells [ff,P 1,P 2] (.t 118)),(.cells [S 3 1 2] (.t 138)),(.cells [S 4 1 2] (.t 138)),(.cells [w 1,w 0] (.n 1)),(.cells [w 1,w 0] (.n 1))],P 20,[(20,[tt,P 1,P 2],(.t 118))]⟩
def e19 : Ent := ⟨[P 0,P 1],[(.cells [ff,P 2,P 3] (.t 118)),(.cells [ff,P 4,P 5] (.t 118)),(.cells [S 6 1 2] (.t 138)),(.cells [S 7 1 2] (.t 138)),(.cells [S 8 0 1] (.t 138)),(.cells [S 9 1 2] (.t 138)),(.cells [w 3,w 0] (.n 1)),(.cells [w 1,w 0] (.n 1)),(.cells [w 0] (.n 1)),(.cells [w 1,w 0] (.n 1))],(.int .i64 (.ofNat 1)),[]⟩
def e21 : Ent := ⟨[P 0,P 1],[(.cells [ff,P 2,P 3] (.t 118)),(.cells [ff,P 4,P 5] (.t 118)),(.cells [S 6 1 2] (.t 138)),(.cells [S 7 1 2] (.t 138)),(.cells [S 8 1 2] (.t 138)),(.cells [S 9 1 2] (.t 138)),(.cells [w 3,w 0] (.n 1)),(.cells [w 1,w 0] (.n 1)),(.cells [w 3,w 0] (.n 1)),(.cells [w 1,w 0] (.n 1))],(.int .i64 (.ofNat 0)),[]⟩
def e24 : Ent := ⟨[P 0,P 1],[(.cells [tt,P 2,P 3] (.t 118)),(.cells [tt,P 4,P 5] (.t 118)),(.cells [S 6 1 1] (.t 138)),(.cells [S 7 1 2] (.t 138)),(.cells [S 8 1 2] (.t 138)),(.cells [S 9 1 2] (.t 138)),(.cells [w 1] (.n 1)),(.cells [w 1,w 0] (.n 1)),(.cells [w 1,w 0] (.n 1)),(.cells [w 1,w 0] (.n 1))],(.tuple #[P 54,tt]),[(54,[ff,P 41,P 43],(.t 118)),(41,[S 40 1 2],(.t 138)),(43,[S 42 1 2],(.t 138)),(40,[w 1,w 0],(.n 1)),(42,[w 1,w 0],(.n 1))]⟩
def e26 : Ent := ⟨[P 0,P 1],[(.cells [tt,P 2,P 3] (.t 118)),(.cells [ff,P 4,P 5] (.t 118)),(.cells [S 6 1 2] (.t 138)),(.cells [S 7 1 2] (.t 138)),(.cells [S 8 1 2] (.t 138)),(.cells [S 9 1 2] (.t 138)),(.cells [w 1,w 0] (.n 1)),(.cells [w 1,w 0] (.n 1)),(.cells [w 1,w 0] (.n 1)),(.cells [w 1,w 0] (.n 1))],P 54,[(54,[tt,P 41,P 43],(.t 118)),(41,[S 40 1 2],(.t 138)),(43,[S 42 1 2],(.t 138)),(40,[w 1,w 0],(.n 1)),(42,[w 1,w 0],(.n 1))]⟩
def e31 : Ent := ⟨[P 0],[(.cells [ff,P 1,P 2] (.t 118)),(.cells [S 3 1 2] (.t 138)),(.cells [S 4 1 2] (.t 138)),(.cells [w 3,w 0] (.n 1)),(.cells [w 1,w 0] (.n 1))],(.int .i64 (.ofNat 1)),[]⟩
def e36 : Ent := ⟨[P 0],[(.cells [tt,P 1,P 2] (.t 118)),(.cells [S 3 1 1] (.t 138)),(.cells [S 4 1 2] (.t 138)),(.cells [w 1] (.n 1)),(.cells [w 1,w 0] (.n 1))],(.int .i64 (.negSucc 0)),[]⟩
def e40 : Ent := ⟨[P 0,P 1],[(.cells [ff,P 2,P 3] (.t 118)),(.cells [ff,P 4,P 5] (.t 118)),(.cells [S 6 1 2] (.t 138)),(.cells [S 7 1 2] (.t 138)),(.cells [S 8 1 2] (.t 138)),(.cells [S 9 1 2] (.t 138)),(.cells [w 2,w 0] (.n 1)),(.cells [w 1,w 0] (.n 1)),(.cells [w 2,w 0] (.n 1)),(.cells [w 1,w 0] (.n 1))],P 54,[(54,[ff,P 41,P 43],(.t 118)),(41,[S 40 1 2],(.t 138)),(43,[S 42 1 2],(.t 138)),(40,[w 4,w 0],(.n 1)),(42,[w 1,w 0],(.n 1))]⟩
def e41 : Ent := ⟨[P 0,P 1],[(.cells [ff,P 2,P 3] (.t 118)),(.cells [ff,P 4,P 5] (.t 118)),(.cells [S 6 0 2] (.t 138)),(.cells [S 7 1 2] (.t 138)),(.cells [S 8 1 2] (.t 138)),(.cells [S 9 1 2] (.t 138)),(.cells [w 0,w 0] (.n 1)),(.cells [w 1,w 0] (.n 1)),(.cells [w 4,w 0] (.n 1)),(.cells [w 1,w 0] (.n 1))],P 50,[(50,[ff,P 4,P 5],(.t 118))]⟩
def e43 : Ent := ⟨[P 0],[(.cells [ff,P 1,P 2] (.t 118)),(.cells [S 3 1 2] (.t 138)),(.cells [S 4 1 2] (.t 138)),(.cells [w 7,w 0] (.n 1)),(.cells [w 1,w 0] (.n 1))],(.string ⟨#[55]⟩),[]⟩
def e47 : Ent := ⟨[P 0,P 1],[(.cells [ff,P 2,P 3] (.t 118)),(.cells [ff,P 4,P 5] (.t 118)),(.cells [S 6 1 2] (.t 138)),(.cells [S 7 1 2] (.t 138)),(.cells [S 8 1 2] (.t 138)),(.cells [S 9 1 2] (.t 138)),(.cells [w 1,w 0] (.n 1)),(.cells [w 1,w 0] (.n 1)),(.cells [w 3,w 0] (.n 1)),(.cells [w 1,w 0] (.n 1))],P 68,[(68,[tt,P 57,P 3],(.t 118)),(57,[S 56 1 1],(.t 138)),(56,[w 2],(.n 1))]⟩
def e49 : Ent := ⟨[P 0,P 1],[(.cells [ff,P 2,P 3] (.t 118)),(.cells [ff,P 4,P 5] (.t 118)),(.cells [S 6 0 1] (.t 138)),(.cells [S 7 1 2] (.t 138)),(.cells [S 8 1 2] (.t 138)),(.cells [S 9 1 2] (.t 138)),(.cells [w 0] (.n 1)),(.cells [w 1,w 0] (.n 1)),(.cells [w 2,w 0] (.n 1)),(.cells [w 1,w 0] (.n 1))],P 50,[(50,[ff,P 4,P 5],(.t 118))]⟩
def e50 : Ent := ⟨[P 0,P 1],[(.cells [tt,P 2,P 3] (.t 118)),(.cells [ff,P 4,P 5] (.t 118)),(.cells [S 6 1 2] (.t 138)),(.cells [S 7 1 2] (.t 138)),(.cells [S 8 1 2] (.t 138)),(.cells [S 9 1 2] (.t 138)),(.cells [w 1,w 0] (.n 1)),(.cells [w 1,w 0] (.n 1)),(.cells [w 2,w 0] (.n 1)),(.cells [w 1,w 0] (.n 1))],P 54,[(54,[tt,P 41,P 43],(.t 118)),(41,[S 40 1 2],(.t 138)),(43,[S 42 1 2],(.t 138)),(40,[w 2,w 0],(.n 1)),(42,[w 1,w 0],(.n 1))]⟩
def e52 : Ent := ⟨[P 0,P 1],[(.cells [ff,P 2,P 3] (.t 118)),(.cells [ff,P 4,P 5] (.t 118)),(.cells [S 6 1 2] (.t 138)),(.cells [S 7 1 2] (.t 138)),(.cells [S 8 0 1] (.t 138)),(.cells [S 9 1 2] (.t 138)),(.cells [w 2,w 0] (.n 1)),(.cells [w 1,w 0] (.n 1)),(.cells [w 0] (.n 1)),(.cells [w 1,w 0] (.n 1))],(.int .i64 (.ofNat 1)),[]⟩
def e58 : Ent := ⟨[P 0,P 1],[(.cells [ff,P 2,P 3] (.t 118)),(.cells [ff,P 4,P 5] (.t 118)),(.cells [S 6 1 2] (.t 138)),(.cells [S 7 1 2] (.t 138)),(.cells [S 8 1 2] (.t 138)),(.cells [S 9 1 2] (.t 138)),(.cells [w 3,w 0] (.n 1)),(.cells [w 1,w 0] (.n 1)),(.cells [w 2,w 0] (.n 1)),(.cells [w 1,w 0] (.n 1))],P 54,[(54,[ff,P 41,P 43],(.t 118)),(41,[S 40 1 2],(.t 138)),(43,[S 42 1 2],(.t 138)),(40,[w 6,w 0],(.n 1)),(42,[w 1,w 0],(.n 1))]⟩
def e60 : Ent := ⟨[P 0],[(.cells [ff,P 1,P 2] (.t 118)),(.cells [S 3 1 2] (.t 138)),(.cells [S 4 1 2] (.t 138)),(.cells [w 8,w 0] (.n 1)),(.cells [w 1,w 0] (.n 1))],(.string ⟨#[56]⟩),[]⟩
def e62 : Ent := ⟨[P 0],[(.cells [ff,P 1,P 2] (.t 118)),(.cells [S 3 1 2] (.t 138)),(.cells [S 4 1 2] (.t 138)),(.cells [w 2,w 0] (.n 1)),(.cells [w 1,w 0] (.n 1))],tt,[]⟩
def e68 : Ent := ⟨[P 0,P 1],[(.cells [ff,P 2,P 3] (.t 118)),(.cells [ff,P 4,P 5] (.t 118)),(.cells [S 6 0 2] (.t 138)),(.cells [S 7 1 2] (.t 138)),(.cells [S 8 1 2] (.t 138)),(.cells [S 9 1 2] (.t 138)),(.cells [w 0,w 0] (.n 1)),(.cells [w 1,w 0] (.n 1)),(.cells [w 1,w 0] (.n 1)),(.cells [w 1,w 0] (.n 1))],P 50,[(50,[ff,P 4,P 5],(.t 118))]⟩
def e69 : Ent := ⟨[P 0,(.pointer none)],[(.cells [ff,P 1,P 2] (.t 118)),(.cells [S 3 1 2] (.t 138)),(.cells [S 4 1 2] (.t 138)),(.cells [w 2,w 0] (.n 1)),(.cells [w 1,w 0] (.n 1))],P 36,[(36,[ff,P 25,P 2],(.t 118)),(25,[S 24 1 2],(.t 138)),(24,[w 2,w 0],(.n 1))]⟩
def e72 : Ent := ⟨[P 0,P 1],[(.cells [ff,P 2,P 3] (.t 118)),(.cells [ff,P 4,P 5] (.t 118)),(.cells [S 6 0 2] (.t 138)),(.cells [S 7 1 2] (.t 138)),(.cells [S 8 1 2] (.t 138)),(.cells [S 9 1 2] (.t 138)),(.cells [w 0,w 0] (.n 1)),(.cells [w 1,w 0] (.n 1)),(.cells [w 2,w 0] (.n 1)),(.cells [w 1,w 0] (.n 1))],(.tuple #[P 72,tt]),[(72,[ff,P 54,P 69],(.t 118)),(54,[(.slice none 0 0)],(.t 138)),(69,[S 68 1 1],(.t 138)),(68,[w 1],(.n 1))]⟩
def e73 : Ent := ⟨[P 0,P 1],[(.cells [ff,P 2,P 3] (.t 118)),(.cells [ff,P 4,P 5] (.t 118)),(.cells [S 6 1 2] (.t 138)),(.cells [S 7 1 2] (.t 138)),(.cells [S 8 1 2] (.t 138)),(.cells [S 9 1 2] (.t 138)),(.cells [w 1,w 0] (.n 1)),(.cells [w 1,w 0] (.n 1)),(.cells [w 1,w 0] (.n 1)),(.cells [w 2,w 0] (.n 1))],P 60,[(60,[ff,P 41,P 43],(.t 118)),(41,[S 40 1 2],(.t 138)),(43,[S 42 1 2],(.t 138)),(40,[w 1,w 0],(.n 1)),(42,[w 2,w 0],(.n 1))]⟩
def e74 : Ent := ⟨[P 0,P 1],[(.cells [ff,P 2,P 3] (.t 118)),(.cells [ff,P 4,P 5] (.t 118)),(.cells [S 6 0 2] (.t 138)),(.cells [S 7 1 2] (.t 138)),(.cells [S 8 1 2] (.t 138)),(.cells [S 9 1 2] (.t 138)),(.cells [w 0,w 0] (.n 1)),(.cells [w 1,w 0] (.n 1)),(.cells [w 1,w 0] (.n 1)),(.cells [w 2,w 0] (.n 1))],P 72,[(72,[tt,P 4,P 5],(.t 118))]⟩
def e75 : Ent := ⟨[P 0,P 1],[(.cells [ff,P 2,P 3] (.t 118)),(.cells [ff,P 4,P 5] (.t 118)),(.cells [S 6 1 2] (.t 138)),(.cells [S 7 1 2] (.t 138)),(.cells [(.slice none 0 0)] (.t 138)),(.cells [S 8 1 1] (.t 138)),(.cells [w 1,w 0] (.n 1)),(.cells [w 1,w 0] (.n 1)),(.cells [w 1] (.n 1))],P 53,[(53,[ff,P 40,P 42],(.t 118)),(40,[S 39 0 1],(.t 138)),(42,[S 41 1 2],(.t 138)),(39,[w 0],(.n 1)),(41,[w 1,w 0],(.n 1))]⟩
def e77 : Ent := ⟨[P 0],[(.cells [ff,P 1,P 2] (.t 118)),(.cells [S 3 1 2] (.t 138)),(.cells [S 4 1 2] (.t 138)),(.cells [w 1,w 0] (.n 1)),(.cells [w 2,w 0] (.n 1))],(.int .i64 (.ofNat 1)),[]⟩
def e78 : Ent := ⟨[P 0,P 1],[(.cells [ff,P 2,P 3] (.t 118)),(.cells [ff,P 4,P 5] (.t 118)),(.cells [S 6 1 2] (.t 138)),(.cells [S 7 1 2] (.t 138)),(.cells [S 8 1 2] (.t 138)),(.cells [S 9 1 2] (.t 138)),(.cells [w 1,w 0] (.n 1)),(.cells [w 2,w 0] (.n 1)),(.cells [w 2,w 0] (.n 1)),(.cells [w 1,w 0] (.n 1))],P 86,[(86,[ff,P 67,P 83],(.t 118)),(67,[S 66 1 1],(.t 138)),(83,[S 82 1 1],(.t 138)),(66,[w 1],(.n 1)),(82,[w 1],(.n 1))]⟩
def e91 : Ent := ⟨[P 0,P 1],[(.cells [ff,P 2,P 3] (.t 118)),(.cells [ff,P 4,P 5] (.t 118)),(.cells [S 6 0 1] (.t 138)),(.cells [S 7 1 2] (.t 138)),(.cells [S 8 0 1] (.t 138)),(.cells [S 9 1 2] (.t 138)),(.cells [w 0] (.n 1)),(.cells [w 1,w 0] (.n 1)),(.cells [w 0] (.n 1)),(.cells [w 1,w 0] (.n 1))],P 54,[(54,[ff,P 41,P 43],(.t 118)),(41,[S 40 0 0],(.t 138)),(43,[S 42 1 2],(.t 138)),(40,[],(.n 1)),(42,[w 1,w 0],(.n 1))]⟩
def e97 : Ent := ⟨[(.string ⟨#[52]⟩)],[],(.tuple #[P 34,tt]),[(34,[ff,P 11,P 23],(.t 118)),(11,[S 10 1 2],(.t 138)),(23,[S 22 1 2],(.t 138)),(10,[w 4,w 0],(.n 1)),(22,[w 1,w 0],(.n 1))]⟩
def e101 : Ent := ⟨[(.string ⟨#[53]⟩)],[],(.tuple #[P 11,tt]),[(11,[S 10 1 2],(.t 138)),(10,[w 5,w 0],(.n 1))]⟩
def e105 : Ent := ⟨[(.string ⟨#[49,50]⟩)],[],(.tuple #[P 34,tt]),[(34,[ff,P 11,P 23],(.t 118)),(11,[S 10 1 2],(.t 138)),(23,[S 22 1 2],(.t 138)),(10,[w 12,w 0],(.n 1)),(22,[w 1,w 0],(.n 1))]⟩
def e106 : Ent := ⟨[P 0],[(.cells [ff,P 1,P 2] (.t 118)),(.cells [S 3 1 2] (.t 138)),(.cells [S 4 1 2] (.t 138)),(.cells [w 12,w 0] (.n 1)),(.cells [w 1,w 0] (.n 1))],(.string ⟨#[49,50]⟩),[]⟩
def e112 : Ent := ⟨[P 0],[(.cells [ff,P 1,P 2] (.t 118)),(.cells [S 3 1 2] (.t 138)),(.cells [S 4 1 2] (.t 138)),(.cells [w 1,w 0] (.n 1)),(.cells [w 2,w 0] (.n 1))],(.string ⟨#[49,47,50]⟩),[]⟩
def e116 : Ent := ⟨[(.string ⟨#[49,50,53]⟩)],[],(.tuple #[P 11,tt]),[(11,[S 10 1 2],(.t 138)),(10,[w 125,w 0],(.n 1))]⟩
def e117 : Ent := ⟨[tt,P 0,P 1],[(.cells [S 2 1 2] (.t 138)),(.cells [S 3 1 2] (.t 138)),(.cells [w 125,w 0] (.n 1)),(.cells [w 10,w 0] (.n 1))],(.tuple #[P 52,tt]),[(52,[tt,P 33,P 49],(.t 118)),(33,[S 32 1 1],(.t 138)),(49,[S 48 1 1],(.t 138)),(32,[w 25],(.n 1)),(48,[w 2],(.n 1))]⟩
def e119 : Ent := ⟨[(.int .i64 (.ofNat 3))],[],P 4,[(4,[ff,P 1,P 3],(.t 118)),(1,[S 0 1 2],(.t 138)),(3,[S 2 1 2],(.t 138)),(0,[w 3,w 0],(.n 1)),(2,[w 1,w 0],(.n 1))]⟩
def e121 : Ent := ⟨[P 0,P 1],[(.cells [ff,P 2,P 3] (.t 118)),(.cells [ff,P 4,P 5] (.t 118)),(.cells [S 6 1 2] (.t 138)),(.cells [S 7 1 2] (.t 138)),(.cells [S 8 1 2] (.t 138)),(.cells [S 9 1 2] (.t 138)),(.cells [w 3,w 0] (.n 1)),(.cells [w 1,w 0] (.n 1)),(.cells [w 2,w 0] (.n 1)),(.cells [w 1,w 0] (.n 1))],(.tuple #[P 60,tt]),[(60,[ff,P 41,P 43],(.t 118)),(41,[S 40 1 2],(.t 138)),(43,[S 42 1 2],(.t 138)),(40,[w 3,w 0],(.n 1)),(42,[w 2,w 0],(.n 1))]⟩
def e122 : Ent := ⟨[P 0],[(.cells [ff,P 1,P 2] (.t 118)),(.cells [S 3 1 1] (.t 138)),(.cells [S 4 1 1] (.t 138)),(.cells [w 1] (.n 1)),(.cells [w 1] (.n 1))],(.int .i64 (.ofNat 1)),[]⟩
def e124 : Ent := ⟨[P 0,P 1],[(.cells [ff,P 2,P 3] (.t 118)),(.cells [ff,P 4,P 5] (.t 118)),(.cells [S 6 1 2] (.t 138)),(.cells [S 7 1 2] (.t 138)),(.cells [S 8 1 2] (.t 138)),(.cells [S 9 1 2] (.t 138)),(.cells [w 1,w 0] (.n 1)),(.cells [w 1,w 0] (.n 1)),(.cells [w 1,w 0] (.n 1)),(.cells [w 1,w 0] (.n 1))],P 68,[(68,[ff,P 57,P 3],(.t 118)),(57,[S 56 0 1],(.t 138)),(56,[w 0],(.n 1))]⟩
def e128 : Ent := ⟨[P 0,P 1],[(.cells [ff,P 2,P 3] (.t 118)),(.cells [ff,P 4,P 5] (.t 118)),(.cells [S 6 1 2] (.t 138)),(.cells [S 7 1 2] (.t 138)),(.cells [S 8 1 2] (.t 138)),(.cells [S 9 1 2] (.t 138)),(.cells [w 2,w 0] (.n 1)),(.cells [w 1,w 0] (.n 1)),(.cells [w 3,w 0] (.n 1)),(.cells [w 2,w 0] (.n 1))],P 80,[(80,[ff,P 61,P 63],(.t 118)),(61,[S 60 1 1],(.t 138)),(63,[S 62 1 2],(.t 138)),(60,[w 1],(.n 1)),(62,[w 2,w 0],(.n 1))]⟩
def e133 : Ent := ⟨[P 0,P 1],[(.cells [ff,P 2,P 3] (.t 118)),(.cells [ff,P 4,P 5] (.t 118)),(.cells [S 6 1 2] (.t 138)),(.cells [S 7 1 2] (.t 138)),(.cells [S 8 1 1] (.t 138)),(.cells [S 9 1 1] (.t 138)),(.cells [w 1,w 0] (.n 1)),(.cells [w 2,w 0] (.n 1)),(.cells [w 1] (.n 1)),(.cells [w 1] (.n 1))],P 60,[(60,[ff,P 41,P 43],(.t 118)),(41,[S 40 1 2],(.t 138)),(43,[S 42 1 2],(.t 138)),(40,[w 1,w 0],(.n 1)),(42,[w 2,w 0],(.n 1))]⟩
def e137 : Ent := ⟨[P 0],[(.cells [S 1 5 5] (.t 138)),(.cells [w 0,w 0,w 0,w 0,w 1] (.n 1))],(.int .i64 (.ofNat 129)),[]⟩
def e141 : Ent := ⟨[P 0],[(.cells [tt,P 1,P 2] (.t 118)),(.cells [S 3 1 2] (.t 138)),(.cells [S 4 1 2] (.t 138)),(.cells [w 7,w 0] (.n 1)),(.cells [w 3,w 0] (.n 1))],P 52,[(52,[tt,P 39,P 41],(.t 118)),(39,[S 38 1 2],(.t 138)),(41,[S 40 1 2],(.t 138)),(38,[w 3,w 0],(.n 1)),(40,[w 1,w 0],(.n 1))]⟩
def e144 : Ent := ⟨[P 0],[(.cells [tt,P 1,P 2] (.t 118)),(.cells [S 3 1 2] (.t 138)),(.cells [S 4 1 2] (.t 138)),(.cells [w 1,w 0] (.n 1)),(.cells [w 2,w 0] (.n 1))],(.string ⟨#[45,49,47,50]⟩),[]⟩
def e145 : Ent := ⟨[P 0],[(.cells [ff,P 1,P 2] (.t 118)),(.cells [S 3 1 2] (.t 138)),(.cells [S 4 1 1] (.t 138)),(.cells [w 1,w 0] (.n 1)),(.cells [w 1] (.n 1))],(.string ⟨#[49]⟩),[]⟩
def e146 : Ent := ⟨[P 0,P 1],[(.cells [ff,P 2,P 3] (.t 118)),(.cells [ff,P 4,P 5] (.t 118)),(.cells [S 6 1 2] (.t 138)),(.cells [S 7 1 2] (.t 138)),(.cells [S 8 1 2] (.t 138)),(.cells [S 9 1 2] (.t 138)),(.cells [w 2,w 0] (.n 1)),(.cells [w 1,w 0] (.n 1)),(.cells [w 2,w 0] (.n 1)),(.cells [w 1,w 0] (.n 1))],(.int .i64 (.ofNat 0)),[]⟩
def e151 : Ent := ⟨[P 0,P 1],[(.cells [ff,P 2,P 3] (.t 118)),(.cells [tt,P 4,P 5] (.t 118)),(.cells [S 6 1 2] (.t 138)),(.cells [S 7 1 2] (.t 138)),(.cells [S 8 1 2] (.t 138)),(.cells [S 9 1 2] (.t 138)),(.cells [w 9,w 0] (.n 1)),(.cells [w 1,w 0] (.n 1)),(.cells [w 6,w 0] (.n 1)),(.cells [w 1,w 0] (.n 1))],P 52,[(52,[ff,P 41,P 3],(.t 118)),(41,[S 40 1 1],(.t 138)),(40,[w 3],(.n 1))]⟩
/-- victualler/frac.Get -/
theorem e4ok : Ent.ok K0 33 e4 = true := by kernel_rfl
/-- victualler/frac.Of -/
theorem e5ok : Ent.ok K0 25 e5 = true := by kernel_rfl
/-- (*victualler/frac.Frac).Add -/
theorem e7ok : Ent.ok K0 41 e7 = true := by kernel_rfl
/-- (*victualler/frac.Frac).Cmp -/
theorem e9ok : Ent.ok K0 17 e9 = true := by kernel_rfl
/-- (*victualler/frac.Frac).Sub -/
theorem e11ok : Ent.ok K0 43 e11 = true := by kernel_rfl
/-- (*victualler/frac.Frac).Div -/
theorem e12ok : Ent.ok K0 42 e12 = true := by kernel_rfl
/-- (*victualler/frac.Frac).Neg -/
theorem e17ok : Ent.ok K0 97 e17 = true := by kernel_rfl
/-- (*victualler/frac.Frac).Cmp -/
theorem e19ok : Ent.ok K0 17 e19 = true := by kernel_rfl
/-- (*victualler/frac.Frac).Cmp -/
theorem e21ok : Ent.ok K0 17 e21 = true := by kernel_rfl
/-- (*victualler/frac.Frac).Div -/
theorem e24ok : Ent.ok K0 42 e24 = true := by kernel_rfl
/-- (*victualler/frac.Frac).Mul -/
theorem e26ok : Ent.ok K0 44 e26 = true := by kernel_rfl
/-- (*victualler/frac.Frac).Sign -/
theorem e31ok : Ent.ok K0 40 e31 = true := by kernel_rfl
/-- (*victualler/frac.Frac).Sign -/
theorem e36ok : Ent.ok K0 40 e36 = true := by kernel_rfl
/-- (*victualler/frac.Frac).Mul -/
theorem e40ok : Ent.ok K0 44 e40 = true := by kernel_rfl
/-- (*victualler/frac.Frac).Add -/
theorem e41ok : Ent.ok K0 41 e41 = true := by kernel_rfl
/-- (*victualler/frac.Frac).Text -/
theorem e43ok : Ent.ok K0 8 e43 = true := by kernel_rfl
/-- (*victualler/frac.Frac).Sub -/
theorem e47ok : Ent.ok K0 43 e47 = true := by kernel_rfl
/-- (*victualler/frac.Frac).Add -/
theorem e49ok : Ent.ok K0 41 e49 = true := by kernel_rfl
/-- (*victualler/frac.Frac).Mul -/
theorem e50ok : Ent.ok K0 44 e50 = true := by kernel_rfl
/-- (*victualler/frac.Frac).Cmp -/
theorem e52ok : Ent.ok K0 17 e52 = true := by kernel_rfl
/-- (*victualler/frac.Frac).Mul -/
theorem e58ok : Ent.ok K0 44 e58 = true := by kernel_rfl
/-- (*victualler/frac.Frac).Text -/
theorem e60ok : Ent.ok K0 8 e60 = true := by kernel_rfl
/-- (*victualler/frac.Frac).Whole -/
theorem e62ok : Ent.ok K0 128 e62 = true := by kernel_rfl
/-- (*victualler/frac.Frac).Add -/
theorem e68ok : Ent.ok K0 41 e68 = true := by kernel_rfl
/-- (*victualler/frac.Frac).Add -/
theorem e69ok : Ent.ok K0 41 e69 = true := by kernel_rfl
/-- (*victualler/frac.Frac).Div -/
theorem e72ok : Ent.ok K0 42 e72 = true := by kernel_rfl
/-- (*victualler/frac.Frac).Mul -/
theorem e73ok : Ent.ok K0 44 e73 = true := by kernel_rfl
/-- (*victualler/frac.Frac).Sub -/
theorem e74ok : Ent.ok K0 43 e74 = true := by kernel_rfl
/-- (*victualler/frac.Frac).Mul -/
theorem e75ok : Ent.ok K0 44 e75 = true := by kernel_rfl
/-- (*victualler/frac.Frac).Sign -/
theorem e77ok : Ent.ok K0 40 e77 = true := by kernel_rfl
/-- (*victualler/frac.Frac).Mul -/
theorem e78ok : Ent.ok K0 44 e78 = true := by kernel_rfl
/-- (*victualler/frac.Frac).Mul -/
theorem e91ok : Ent.ok K0 44 e91 = true := by kernel_rfl
/-- victualler/frac.Get -/
theorem e97ok : Ent.ok K0 33 e97 = true := by kernel_rfl
/-- victualler/nat.Get -/
theorem e101ok : Ent.ok K0 82 e101 = true := by kernel_rfl
/-- victualler/frac.Get -/
theorem e105ok : Ent.ok K0 33 e105 = true := by kernel_rfl
/-- (*victualler/frac.Frac).Text -/
theorem e106ok : Ent.ok K0 8 e106 = true := by kernel_rfl
/-- (*victualler/frac.Frac).Text -/
theorem e112ok : Ent.ok K0 8 e112 = true := by kernel_rfl
/-- victualler/nat.Get -/
theorem e116ok : Ent.ok K0 82 e116 = true := by kernel_rfl
/-- victualler/frac.New -/
theorem e117ok : Ent.ok K0 96 e117 = true := by kernel_rfl
/-- victualler/frac.Of -/
theorem e119ok : Ent.ok K0 25 e119 = true := by kernel_rfl
/-- (*victualler/frac.Frac).Div -/
theorem e121ok : Ent.ok K0 42 e121 = true := by kernel_rfl
/-- (*victualler/frac.Frac).Sign -/
theorem e122ok : Ent.ok K0 40 e122 = true := by kernel_rfl
/-- (*victualler/frac.Frac).Sub -/
theorem e124ok : Ent.ok K0 43 e124 = true := by kernel_rfl
/-- (*victualler/frac.Frac).Sub -/
theorem e128ok : Ent.ok K0 43 e128 = true := by kernel_rfl
/-- (*victualler/frac.Frac).Mul -/
theorem e133ok : Ent.ok K0 44 e133 = true := by kernel_rfl
/-- (*victualler/nat.Nat).Bits -/
theorem e137ok : Ent.ok K0 138 e137 = true := by kernel_rfl
/-- (*victualler/frac.Frac).Floor -/
theorem e141ok : Ent.ok K0 262 e141 = true := by kernel_rfl
/-- (*victualler/frac.Frac).Text -/
theorem e144ok : Ent.ok K0 8 e144 = true := by kernel_rfl
/-- (*victualler/frac.Frac).Text -/
theorem e145ok : Ent.ok K0 8 e145 = true := by kernel_rfl
/-- (*victualler/frac.Frac).Cmp -/
theorem e146ok : Ent.ok K0 17 e146 = true := by kernel_rfl
/-- (*victualler/frac.Frac).Add -/
theorem e151ok : Ent.ok K0 41 e151 = true := by kernel_rfl
end Go.Dam.Tab
