/- Closed facts, by the kernel. -/
import Derived.Test.YtgklfcpppenojaaGreatDoorKM1
namespace Go.Dam.Tab
open Go Go.Dam
set_option maxRecDepth 1000000
def Xx:List (Nat×List dF):=[(25,[⟨[(.agg #[S 0 2 2,S 1 1 1])],[(.cells [s [120],s [48],s [49],s [50],dK,s [121],s [48],s [],s [51],fF] (.n 5)),(.cells [s [114],(.int .i64 (.ofNat 3)),S 2 2 2,s [51],s []] (.n 5)),(.cells [(.int .i64 (.ofNat 0)),s [49],(.int .i64 (.ofNat 1)),s [49]] (.n 2))],dK,[]⟩])]
theorem awj:hN iw Xx=true:=by kernel_rfl
def Xy:List (Nat×List dF):=[(6,[⟨[(.agg #[S 0 2 2,S 1 1 1])],[(.cells [s [120],s [48],s [49],s [50],dK,s [121],s [48],s [],s [51],fF] (.n 5)),(.cells [s [114],(.int .i64 (.ofNat 3)),S 2 2 2,s [51],s []] (.n 5)),(.cells [(.int .i64 (.ofNat 0)),s [49],(.int .i64 (.ofNat 1)),s [49]] (.n 2))],(.tuple #[(.agg #[(.int .i64 (.ofNat 1)),s [56],S 876 2 2,S 1100 1 1,(.slice none 0 0)]),dK]),[(876,[s [49],s [50]],(.n 1)),(1100,[s [51]],(.n 1))]⟩])]
theorem awk:hN iw Xy=true:=by kernel_rfl
def Xz:List (Nat×List dF):=[(102,[⟨[s [84,73,77,69,32,84,10,80,69,82,73,79,68,83,10,32,120,32,99,97,112,32,111,110,101,10,32,121,32,110,101,101,100,32,116,119,111,10,69,78,68,65,84,65,10]],[],(.tuple #[s [84],S 200 2 2,(.int .i64 (.ofNat 0)),(.int .i64 (.ofNat 0))]),[(200,[s [120],s [99,97,112],s [111,110,101],s [121],s [110,101,101,100],s [116,119,111]],(.n 3))]⟩])]
theorem awl:hN iw Xz=true:=by kernel_rfl
def XA:List (Nat×List dF):=[(108,[⟨[(.agg #[s [84],s [99,111,115,116],S 0 2 2,S 1 2 2]),S 2 2 2,(.agg #[s [],s [110,101,101,100]])],[(.cells [s [99,97,112],(.int .i64 (.ofNat 1)),S 3 1 1,s [49,48],s [],s [110,101,101,100],(.int .i64 (.ofNat 3)),S 4 2 2,s [52],s []] (.n 5)),(.cells [s [120],s [48],s [56],s [50],fF,s [121],s [48],s [],s [53],fF] (.n 5)),(.cells [s [120],s [99,97,112],s [111,110,101],s [121],s [110,101,101,100],s [116,119,111]] (.n 3)),(.cells [(.int .i64 (.ofNat 0)),s [49]] (.n 2)),(.cells [(.int .i64 (.ofNat 0)),s [49],(.int .i64 (.ofNat 1)),s [49]] (.n 2))],(.tuple #[(.int .i64 (.ofNat 1)),(.int .i64 (.ofNat 0)),(.int .i64 (.ofNat 0)),(.int .i64 (.ofNat 0))]),[]⟩])]
theorem awm:hN iw XA=true:=by kernel_rfl
def XB:List (Nat×List dF):=[(110,[⟨[(.agg #[s [84],s [99,111,115,116],S 0 2 2,S 1 2 2]),(.agg #[s [84],s [99,111,115,116],S 2 2 2,S 3 2 2])],[(.cells [s [99,97,112],(.int .i64 (.ofNat 1)),S 4 1 1,s [49,48],s [],s [110,101,101,100],(.int .i64 (.ofNat 3)),S 5 2 2,s [52],s []] (.n 5)),(.cells [s [120],s [48],s [56],s [50],fF,s [121],s [48],s [],s [53],fF] (.n 5)),(.cells [s [99,97,112],(.int .i64 (.ofNat 1)),S 6 1 1,s [49,48],s [],s [110,101,101,100],(.int .i64 (.ofNat 3)),S 7 2 2,s [52],s []] (.n 5)),(.cells [s [120],s [48],s [56],s [50],fF,s [121],s [48],s [],s [53],fF] (.n 5)),(.cells [(.int .i64 (.ofNat 0)),s [49]] (.n 2)),(.cells [(.int .i64 (.ofNat 0)),s [49],(.int .i64 (.ofNat 1)),s [49]] (.n 2)),(.cells [(.int .i64 (.ofNat 0)),s [49]] (.n 2)),(.cells [(.int .i64 (.ofNat 0)),s [49],(.int .i64 (.ofNat 1)),s [49]] (.n 2))],dK,[]⟩])]
theorem awn:hN iw XB=true:=by kernel_rfl
def XC:List (Nat×List dF):=[(22,[⟨[(.agg #[S 0 2 2,S 1 1 1]),(.agg #[(.int .i64 (.ofNat 1)),s [55],S 2 2 2,(.slice none 0 0),(.slice none 0 0)]),S 3 1 1],[(.cells [s [120],s [48],s [50],s [50],dK,s [121],s [48],s [],s [51],fF] (.n 5)),(.cells [s [114],(.int .i64 (.ofNat 3)),S 4 2 2,s [51],s []] (.n 5)),(.cells [s [50],s [49]] (.n 1)),(.cells [(.int .i64 (.negSucc 0)),s [],(.int .i64 (.ofNat 0)),(.int .i64 (.ofNat 0)),S 5 1 1] (.n 5)),(.cells [(.int .i64 (.ofNat 0)),s [49],(.int .i64 (.ofNat 1)),s [49]] (.n 2)),(.cells [s [51]] (.n 1))],dK,[]⟩])]
theorem awo:hN iw XC=true:=by kernel_rfl
def XD:List (Nat×List dF):=[(24,[⟨[(.agg #[S 0 2 2,S 1 1 1]),S 2 2 2],[(.cells [s [120],s [48],s [50],s [50],dK,s [121],s [48],s [],s [51],fF] (.n 5)),(.cells [s [114],(.int .i64 (.ofNat 3)),S 3 2 2,s [51],s []] (.n 5)),(.cells [s [50],s [49]] (.n 1)),(.cells [(.int .i64 (.ofNat 0)),s [49],(.int .i64 (.ofNat 1)),s [49]] (.n 2))],dK,[]⟩])]
theorem awp:hN iw XD=true:=by kernel_rfl
end Go.Dam.Tab
