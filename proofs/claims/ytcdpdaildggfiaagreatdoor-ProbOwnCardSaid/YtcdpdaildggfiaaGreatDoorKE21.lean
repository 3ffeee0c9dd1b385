/- Closed facts, by the kernel. -/
import Derived.Test.YtcdpdaildggfiaaGreatDoorKM1
namespace Go.Dam.Tab
open Go Go.Dam
set_option maxRecDepth 1000000
def Im:List (Nat×List ch):=[(8,[⟨[(.agg #[S 0 2 2,S 1 1 1])],[(.cells [s [120],s [48],s [49],s [50],cm,s [121],s [48],s [],s [51],dv] (.n 5)),(.cells [s [114],(.int .i64 (.ofNat 3)),S 2 2 2,s [51],s []] (.n 5)),(.cells [(.int .i64 (.ofNat 0)),s [49],(.int .i64 (.ofNat 1)),s [49]] (.n 2))],cm,[]⟩])]
theorem PE:eH eZ Im=true:=by kernel_rfl
def Io:List (Nat×List ch):=[(12,[⟨[(.agg #[S 0 2 2,S 1 1 1])],[(.cells [s [120],s [48],s [49],s [50],cm,s [121],s [48],s [],s [51],dv] (.n 5)),(.cells [s [114],(.int .i64 (.ofNat 3)),S 2 2 2,s [51],s []] (.n 5)),(.cells [(.int .i64 (.ofNat 0)),s [49],(.int .i64 (.ofNat 1)),s [49]] (.n 2))],(.tuple #[(.agg #[(.int .i64 (.ofNat 1)),s [56],S 876 2 2,S 1100 1 1,(.slice none 0 0)]),cm]),[(876,[s [49],s [50]],(.n 1)),(1100,[s [51]],(.n 1))]⟩])]
theorem PF:eH eZ Io=true:=by kernel_rfl
def Ip:List (Nat×List ch):=[(102,[⟨[s [84,73,77,69,32,84,10,80,69,82,73,79,68,83,10,32,120,32,99,97,112,32,111,110,101,10,32,121,32,110,101,101,100,32,116,119,111,10,69,78,68,65,84,65,10]],[],(.tuple #[s [84],S 200 2 2,(.int .i64 (.ofNat 0)),(.int .i64 (.ofNat 0))]),[(200,[s [120],s [99,97,112],s [111,110,101],s [121],s [110,101,101,100],s [116,119,111]],(.n 3))]⟩])]
theorem PG:eH eZ Ip=true:=by kernel_rfl
def Iq:List (Nat×List ch):=[(108,[⟨[(.agg #[s [84],s [99,111,115,116],S 0 2 2,S 1 2 2]),S 2 2 2,(.agg #[s [],s [110,101,101,100]])],[(.cells [s [99,97,112],(.int .i64 (.ofNat 1)),S 3 1 1,s [49,48],s [],s [110,101,101,100],(.int .i64 (.ofNat 3)),S 4 2 2,s [52],s []] (.n 5)),(.cells [s [120],s [48],s [56],s [50],dv,s [121],s [48],s [],s [53],dv] (.n 5)),(.cells [s [120],s [99,97,112],s [111,110,101],s [121],s [110,101,101,100],s [116,119,111]] (.n 3)),(.cells [(.int .i64 (.ofNat 0)),s [49]] (.n 2)),(.cells [(.int .i64 (.ofNat 0)),s [49],(.int .i64 (.ofNat 1)),s [49]] (.n 2))],(.tuple #[(.int .i64 (.ofNat 1)),(.int .i64 (.ofNat 0)),(.int .i64 (.ofNat 0)),(.int .i64 (.ofNat 0))]),[]⟩])]
theorem PH:eH eZ Iq=true:=by kernel_rfl
def Ir:List (Nat×List ch):=[(110,[⟨[(.agg #[s [84],s [99,111,115,116],S 0 2 2,S 1 2 2]),(.agg #[s [84],s [99,111,115,116],S 2 2 2,S 3 2 2])],[(.cells [s [99,97,112],(.int .i64 (.ofNat 1)),S 4 1 1,s [49,48],s [],s [110,101,101,100],(.int .i64 (.ofNat 3)),S 5 2 2,s [52],s []] (.n 5)),(.cells [s [120],s [48],s [56],s [50],dv,s [121],s [48],s [],s [53],dv] (.n 5)),(.cells [s [99,97,112],(.int .i64 (.ofNat 1)),S 6 1 1,s [49,48],s [],s [110,101,101,100],(.int .i64 (.ofNat 3)),S 7 2 2,s [52],s []] (.n 5)),(.cells [s [120],s [48],s [56],s [50],dv,s [121],s [48],s [],s [53],dv] (.n 5)),(.cells [(.int .i64 (.ofNat 0)),s [49]] (.n 2)),(.cells [(.int .i64 (.ofNat 0)),s [49],(.int .i64 (.ofNat 1)),s [49]] (.n 2)),(.cells [(.int .i64 (.ofNat 0)),s [49]] (.n 2)),(.cells [(.int .i64 (.ofNat 0)),s [49],(.int .i64 (.ofNat 1)),s [49]] (.n 2))],cm,[]⟩])]
theorem PI:eH eZ Ir=true:=by kernel_rfl
def Is:List (Nat×List ch):=[(26,[⟨[(.agg #[S 0 2 2,S 1 1 1]),(.agg #[(.int .i64 (.ofNat 1)),s [55],S 2 2 2,(.slice none 0 0),(.slice none 0 0)]),S 3 1 1],[(.cells [s [120],s [48],s [50],s [50],cm,s [121],s [48],s [],s [51],dv] (.n 5)),(.cells [s [114],(.int .i64 (.ofNat 3)),S 4 2 2,s [51],s []] (.n 5)),(.cells [s [50],s [49]] (.n 1)),(.cells [(.int .i64 (.negSucc 0)),s [],(.int .i64 (.ofNat 0)),(.int .i64 (.ofNat 0)),S 5 1 1] (.n 5)),(.cells [(.int .i64 (.ofNat 0)),s [49],(.int .i64 (.ofNat 1)),s [49]] (.n 2)),(.cells [s [51]] (.n 1))],cm,[]⟩])]
theorem PJ:eH eZ Is=true:=by kernel_rfl
def It:List (Nat×List ch):=[(9,[⟨[(.agg #[S 0 2 2,S 1 1 1]),S 2 2 2],[(.cells [s [120],s [48],s [50],s [50],cm,s [121],s [48],s [],s [51],dv] (.n 5)),(.cells [s [114],(.int .i64 (.ofNat 3)),S 3 2 2,s [51],s []] (.n 5)),(.cells [s [50],s [49]] (.n 1)),(.cells [(.int .i64 (.ofNat 0)),s [49],(.int .i64 (.ofNat 1)),s [49]] (.n 2))],cm,[]⟩])]
theorem PK:eH eZ It=true:=by kernel_rfl
end Go.Dam.Tab
