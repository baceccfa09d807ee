/- The program's types for the evaluator, looked up, and the table of calls. No conditions. -/
import Derived.Test.YtmapddgocpkgeaaGreatLibC
import Derived.WalkKit
import Derived.Test.YtmapddgocpkgeaaGreatProg
import Derived.Test.YtmapddgocpkgeaaGreatShelf
namespace Go.Proofs.YtmapddgocpkgeaaGreat.Ev
open Go.Proofs.YtmapddgocpkgeaaGreat.aa Go.RowKit
set_option linter.unusedVariables false
set_option maxRecDepth 100000
noncomputable section
structure kR where
 f0:Int
 f1:Int
 f2:Int
def z63:kR:=⟨(0:Int),(0:Int),(0:Int)⟩
structure kP where
 f0:Int
 f1:Int
 f2:Int
def Eb:kP:=⟨(0:Int),(0:Int),(0:Int)⟩
structure aB where
 f0:Int
 f1:Int
 f2:Int
 f3:kP
def Ak:aB:=⟨(0:Int),(0:Int),(0:Int),Eb⟩
structure aC where
 f0:List aB
 f1:kP
def An:aC:=⟨([]:List aB),Eb⟩
structure fL where
 f0:Int
 f1:Int
def EW:fL:=⟨(0:Int),(0:Int)⟩
structure aN where
 f0:Int
 f1:Int
 f2:Int
def EJ:aN:=⟨(0:Int),(0:Int),(0:Int)⟩
structure ju where
 f0:Int
 f1:Int
def EV:ju:=⟨(0:Int),(0:Int)⟩
structure ke where
 f0:Int
 f1:Int
 f2:Int
 f3:kP
def EN:ke:=⟨(0:Int),(0:Int),(0:Int),Eb⟩
structure gd where
 f0:List ke
 f1:kP
def E5:gd:=⟨([]:List ke),Eb⟩
structure B9 where
 f0:List gd
def FB:B9:=⟨([]:List gd)⟩
structure Bm where
 f0:Int
 f1:Int
 f2:Int
 f3:Int
def FA:Bm:=⟨(0:Int),(0:Int),(0:Int),(0:Int)⟩
structure BG where
 f0:Int
 f1:Int
def Fw:BG:=⟨(0:Int),(0:Int)⟩
structure BK where
 f0:List Int
def z32:BK:=⟨([]:List Int)⟩
structure BO where
 f0:Int
 f1:BK
def Fz:BO:=⟨(0:Int),z32⟩
structure CV where
 f0:B9
 f1:List Int
 f2:List Int
 f3:Int
 f4:Bm
 f5:BG
 f6:BO
 f7:Int
def FC:CV:=⟨FB,([]:List Int),([]:List Int),(0:Int),FA,Fw,Fz,(0:Int)⟩
abbrev wr (n:Int):Int:=IntKind.wrap .i64 n
abbrev dh (xs:List Int) (i:Int):Int:=xs.getD i.toNat (0:Int)
abbrev DT (xs:List Bool) (i:Int):Bool:=xs.getD i.toNat false
abbrev Fy (xs:List (List Int)) (i:Int):List Int:=xs.getD i.toNat ([]:List Int)
abbrev l8 (xs:List kR) (i:Int):kR:=xs.getD i.toNat z63
abbrev aw (xs:List aB) (i:Int):aB:=xs.getD i.toNat Ak
abbrev bG (xs:List aC) (i:Int):aC:=xs.getD i.toNat An
abbrev tY (xs:List fL) (i:Int):fL:=xs.getD i.toNat EW
abbrev kH (xs:List aN) (i:Int):aN:=xs.getD i.toNat EJ
abbrev AU (xs:List ju) (i:Int):ju:=xs.getD i.toNat EV
abbrev xF (xs:List ke) (i:Int):ke:=xs.getD i.toNat EN
abbrev vx (xs:List gd) (i:Int):gd:=xs.getD i.toNat E5
def Ee:List (Nat×(Σ T:Type,T)):=[
 (3,⟨Int,(0:Int)⟩),
 (4,⟨Bool,false⟩),
 (27,⟨List Int,([]:List Int)⟩),
 (64,⟨kR,z63⟩),
 (67,⟨kR,z63⟩),
 (204,⟨aB,Ak⟩),
 (164,⟨aC,An⟩),
 (173,⟨fL,EW⟩),
 (179,⟨aN,EJ⟩),
 (182,⟨ju,EV⟩),
 (249,⟨ke,EN⟩),
 (191,⟨gd,E5⟩)]
def U:kG:=⟨fun e=>(EC Ee e).1,fun e=>(EC Ee e).2⟩
def E9:List (Σ e,EG U e):=[
 ⟨3,⟨fun(x:Int)=> .int .i64 x,fun v=>(match v with | .int .i64 y1=>some (y1:Int) | _=>none:Option Int)⟩⟩,
 ⟨4,⟨fun(x:Bool)=> .bool x,fun v=>(match v with | .bool y1=>some (y1:Bool) | _=>none:Option Bool)⟩⟩,
 ⟨27,⟨fun(x:List Int)=> .sl 3 x,fun v=>(match v with | .sl 3 y1=>some (y1:List Int) | _=>none:Option (List Int))⟩⟩,
 ⟨64,⟨fun(x:kR)=> .agg [.int .i64 x.f0,.int .i64 x.f1,.int .i64 x.f2],fun v=>(match v with | .agg [.int .i64 y1,.int .i64 y2,.int .i64 y3]=>some ((⟨y1,y2,y3⟩:kR):kR) | _=>none:Option kR)⟩⟩,
 ⟨67,⟨fun(x:kR)=> .agg [.int .i64 x.f0,.int .i64 x.f1,.int .i64 x.f2],fun v=>(match v with | .agg [.int .i64 y1,.int .i64 y2,.int .i64 y3]=>some ((⟨y1,y2,y3⟩:kR):kR) | _=>none:Option kR)⟩⟩,
 ⟨204,⟨fun(x:aB)=> .agg [.int .i64 x.f0,.int .i64 x.f1,.int .i64 x.f2,.int .i64 x.f3.f0,.int .i64 x.f3.f1,.int .i64 x.f3.f2],fun v=>(match v with | .agg [.int .i64 y1,.int .i64 y2,.int .i64 y3,.int .i64 y4,.int .i64 y5,.int .i64 y6]=>some ((⟨y1,y2,y3,(⟨y4,y5,y6⟩:kP)⟩:aB):aB) | _=>none:Option aB)⟩⟩,
 ⟨164,⟨fun(x:aC)=> .agg [.sl 204 x.f0,.int .i64 x.f1.f0,.int .i64 x.f1.f1,.int .i64 x.f1.f2],fun v=>(match v with | .agg [.sl 204 y1,.int .i64 y2,.int .i64 y3,.int .i64 y4]=>some ((⟨y1,(⟨y2,y3,y4⟩:kP)⟩:aC):aC) | _=>none:Option aC)⟩⟩,
 ⟨173,⟨fun(x:fL)=> .agg [.int .i64 x.f0,.int .i64 x.f1],fun v=>(match v with | .agg [.int .i64 y1,.int .i64 y2]=>some ((⟨y1,y2⟩:fL):fL) | _=>none:Option fL)⟩⟩,
 ⟨179,⟨fun(x:aN)=> .agg [.int .i64 x.f0,.int .i64 x.f1,.int .i64 x.f2],fun v=>(match v with | .agg [.int .i64 y1,.int .i64 y2,.int .i64 y3]=>some ((⟨y1,y2,y3⟩:aN):aN) | _=>none:Option aN)⟩⟩,
 ⟨182,⟨fun(x:ju)=> .agg [.int .i64 x.f0,.int .i64 x.f1],fun v=>(match v with | .agg [.int .i64 y1,.int .i64 y2]=>some ((⟨y1,y2⟩:ju):ju) | _=>none:Option ju)⟩⟩,
 ⟨249,⟨fun(x:ke)=> .agg [.int .i64 x.f0,.int .i64 x.f1,.int .i64 x.f2,.int .i64 x.f3.f0,.int .i64 x.f3.f1,.int .i64 x.f3.f2],fun v=>(match v with | .agg [.int .i64 y1,.int .i64 y2,.int .i64 y3,.int .i64 y4,.int .i64 y5,.int .i64 y6]=>some ((⟨y1,y2,y3,(⟨y4,y5,y6⟩:kP)⟩:ke):ke) | _=>none:Option ke)⟩⟩,
 ⟨191,⟨fun(x:gd)=> .agg [.sl 249 x.f0,.int .i64 x.f1.f0,.int .i64 x.f1.f1,.int .i64 x.f1.f2],fun v=>(match v with | .agg [.sl 249 y1,.int .i64 y2,.int .i64 y3,.int .i64 y4]=>some ((⟨y1,(⟨y2,y3,y4⟩:kP)⟩:gd):gd) | _=>none:Option gd)⟩⟩]
def yj:List (Nat×Ty U):=[
 (3,.int .i64),
 (4,.bool),
 (24,.slice 164),
 (26,.struct [(0,24)] [.own true 164 ([]:List aC)]),
 (27,.slice 3),
 (29,.struct [(0,3),(1,3),(2,3),(3,3)] [.int .i64 (0:Int),.int .i64 (0:Int),.int .i64 (0:Int),.int .i64 (0:Int)]),
 (31,.struct [(0,3),(1,3)] [.int .i64 (0:Int),.int .i64 (0:Int)]),
 (33,.struct [(0,27)] [.own true 3 ([]:List Int)]),
 (35,.struct [(0,3),(1,33)] [.int .i64 (0:Int),.own true 3 ([]:List Int)]),
 (37,.struct [(0,26),(1,27),(2,27),(3,3),(4,29),(8,31),(10,35),(12,3)] [.own true 164 ([]:List aC),.own true 3 ([]:List Int),.own true 3 ([]:List Int),.int .i64 (0:Int),.int .i64 (0:Int),.int .i64 (0:Int),.int .i64 (0:Int),.int .i64 (0:Int),.int .i64 (0:Int),.int .i64 (0:Int),.int .i64 (0:Int),.own true 3 ([]:List Int),.int .i64 (0:Int)]),
 (43,.slice 4),
 (48,.slice 191),
 (50,.struct [(0,48)] [.own true 191 ([]:List gd)]),
 (51,.struct [(0,3),(1,3),(2,3),(3,3)] [.int .i64 (0:Int),.int .i64 (0:Int),.int .i64 (0:Int),.int .i64 (0:Int)]),
 (52,.struct [(0,3),(1,3)] [.int .i64 (0:Int),.int .i64 (0:Int)]),
 (53,.struct [(0,27)] [.own true 3 ([]:List Int)]),
 (55,.struct [(0,3),(1,53)] [.int .i64 (0:Int),.own true 3 ([]:List Int)]),
 (57,.struct [(0,50),(1,27),(2,27),(3,3),(4,51),(8,52),(10,55),(12,3)] [.own true 191 ([]:List gd),.own true 3 ([]:List Int),.own true 3 ([]:List Int),.int .i64 (0:Int),.int .i64 (0:Int),.int .i64 (0:Int),.int .i64 (0:Int),.int .i64 (0:Int),.int .i64 (0:Int),.int .i64 (0:Int),.int .i64 (0:Int),.own true 3 ([]:List Int),.int .i64 (0:Int)]),
 (64,.struct [(0,3),(1,3),(2,3)] [.int .i64 (0:Int),.int .i64 (0:Int),.int .i64 (0:Int)]),
 (67,.struct [(0,3),(1,3),(2,3)] [.int .i64 (0:Int),.int .i64 (0:Int),.int .i64 (0:Int)]),
 (70,.slice 64),
 (74,.slice 67),
 (91,.slice 27),
 (93,.struct [(0,27),(1,3),(2,91),(3,3)] [.own true 3 ([]:List Int),.int .i64 (0:Int),.own true 27 ([]:List (List Int)),.int .i64 (0:Int)]),
 (136,.ptr),
 (141,.slice 182),
 (158,.slice 204),
 (161,.struct [(0,3),(1,3),(2,3)] [.int .i64 (0:Int),.int .i64 (0:Int),.int .i64 (0:Int)]),
 (164,.struct [(0,158),(1,161)] [.own true 204 ([]:List aB),.int .i64 (0:Int),.int .i64 (0:Int),.int .i64 (0:Int)]),
 (167,.int .u64),
 (169,.ptr),
 (170,.slice 173),
 (173,.struct [(0,3),(1,3)] [.int .i64 (0:Int),.int .i64 (0:Int)]),
 (174,.slice 179),
 (176,.struct [(0,174),(1,27)] [.own true 179 ([]:List aN),.own true 3 ([]:List Int)]),
 (179,.struct [(0,3),(1,3),(2,3)] [.int .i64 (0:Int),.int .i64 (0:Int),.int .i64 (0:Int)]),
 (182,.struct [(0,3),(1,3)] [.int .i64 (0:Int),.int .i64 (0:Int)]),
 (188,.slice 249),
 (189,.struct [(0,3),(1,3),(2,3)] [.int .i64 (0:Int),.int .i64 (0:Int),.int .i64 (0:Int)]),
 (191,.struct [(0,188),(1,189)] [.own true 249 ([]:List ke),.int .i64 (0:Int),.int .i64 (0:Int),.int .i64 (0:Int)]),
 (204,.struct [(0,3),(1,3),(2,3),(3,161)] [.int .i64 (0:Int),.int .i64 (0:Int),.int .i64 (0:Int),.int .i64 (0:Int),.int .i64 (0:Int),.int .i64 (0:Int)]),
 (205,.ptr),
 (206,.arr 8 4 [.bool false,.bool false,.bool false,.bool false,.bool false,.bool false,.bool false,.bool false]),
 (208,.struct [(0,176),(2,3),(3,3),(4,3),(5,27),(6,206),(14,27)] [.own true 179 ([]:List aN),.own true 3 ([]:List Int),.int .i64 (0:Int),.int .i64 (0:Int),.int .i64 (0:Int),.own true 3 ([]:List Int),.bool false,.bool false,.bool false,.bool false,.bool false,.bool false,.bool false,.bool false,.own true 3 ([]:List Int)]),
 (221,.struct [(0,27),(1,27),(2,27),(3,27),(4,27),(5,3),(6,4)] [.own true 3 ([]:List Int),.own true 3 ([]:List Int),.own true 3 ([]:List Int),.own true 3 ([]:List Int),.own true 3 ([]:List Int),.int .i64 (0:Int),.bool false]),
 (223,.struct [(0,221),(7,174),(8,27),(9,27),(10,3),(11,3)] [.own true 3 ([]:List Int),.own true 3 ([]:List Int),.own true 3 ([]:List Int),.own true 3 ([]:List Int),.own true 3 ([]:List Int),.int .i64 (0:Int),.bool false,.own true 179 ([]:List aN),.own true 3 ([]:List Int),.own true 3 ([]:List Int),.int .i64 (0:Int),.int .i64 (0:Int)]),
 (225,.ptr),
 (233,.int .u32),
 (236,.int .u64),
 (246,.ptr),
 (249,.struct [(0,3),(1,3),(2,3),(3,189)] [.int .i64 (0:Int),.int .i64 (0:Int),.int .i64 (0:Int),.int .i64 (0:Int),.int .i64 (0:Int),.int .i64 (0:Int)]),
 (252,.ptr),
 (254,.struct [(0,206),(8,206)] [.bool false,.bool false,.bool false,.bool false,.bool false,.bool false,.bool false,.bool false,.bool false,.bool false,.bool false,.bool false,.bool false,.bool false,.bool false,.bool false])]
def vy:List (Nat×Nat):=[(3,8),(4,1),(27,24),(64,24),(67,24),(204,48),(164,48),(173,16),(179,24),(182,16),(249,48),(191,48)]
def zH:List (Nat×Nat):=[(161,3),(204,6)]
def C:Ctx:=⟨U,fun e=>(En (Cp U) E9 e).enc,fun e=>(En (Cp U) E9 e).dec,fun t=>lookup t yj,fun e=>(lookup e vy).getD 0,fun t=>lookup t zH⟩
theorem Fp:z7 (fun p:Σ e,EG U e=>D9 p.1 p.2) E9:=⟨⟨fun _=>rfl,fun _=>rfl,fun _=>rfl,fun v y h=>by dsimp only at h;split at h<;>first | (cases h;rfl) | cases h⟩,
 ⟨fun _=>rfl,fun _=>rfl,fun _=>rfl,fun v y h=>by dsimp only at h;split at h<;>first | (cases h;rfl) | cases h⟩,
 ⟨fun _=>rfl,fun _=>rfl,fun _=>rfl,fun v y h=>by dsimp only at h;split at h<;>first | (cases h;rfl) | cases h⟩,
 ⟨fun _=>rfl,fun _=>rfl,fun _=>rfl,fun v y h=>by dsimp only at h;split at h<;>first | (cases h;rfl) | cases h⟩,
 ⟨fun _=>rfl,fun _=>rfl,fun _=>rfl,fun v y h=>by dsimp only at h;split at h<;>first | (cases h;rfl) | cases h⟩,
 ⟨fun _=>rfl,fun _=>rfl,fun _=>rfl,fun v y h=>by dsimp only at h;split at h<;>first | (cases h;rfl) | cases h⟩,
 ⟨fun _=>rfl,fun _=>rfl,fun _=>rfl,fun v y h=>by dsimp only at h;split at h<;>first | (cases h;rfl) | cases h⟩,
 ⟨fun _=>rfl,fun _=>rfl,fun _=>rfl,fun v y h=>by dsimp only at h;split at h<;>first | (cases h;rfl) | cases h⟩,
 ⟨fun _=>rfl,fun _=>rfl,fun _=>rfl,fun v y h=>by dsimp only at h;split at h<;>first | (cases h;rfl) | cases h⟩,
 ⟨fun _=>rfl,fun _=>rfl,fun _=>rfl,fun v y h=>by dsimp only at h;split at h<;>first | (cases h;rfl) | cases h⟩,
 ⟨fun _=>rfl,fun _=>rfl,fun _=>rfl,fun v y h=>by dsimp only at h;split at h<;>first | (cases h;rfl) | cases h⟩,
 ⟨fun _=>rfl,fun _=>rfl,fun _=>rfl,fun v y h=>by dsimp only at h;split at h<;>first | (cases h;rfl) | cases h⟩,trivial⟩
theorem Fm:z7 (fun p:Nat×Ty U=>pg Tryz.prog C p.1 p.2) yj:=⟨wG (by kernel_rfl) (by kernel_rfl),
 CU (by kernel_rfl) (by kernel_rfl),
 lx (by kernel_rfl) (by kernel_rfl),
 fB #[.slice none 0 0] (by kernel_rfl) (by kernel_rfl) (by kernel_rfl) (by kernel_rfl) (by kernel_rfl),
 lx (by kernel_rfl) (by kernel_rfl),
 fB #[.int .i64 0,.int .i64 0,.int .i64 0,.int .i64 0] (by kernel_rfl) (by kernel_rfl) (by kernel_rfl) (by kernel_rfl) (by kernel_rfl),
 fB #[.int .i64 0,.int .i64 0] (by kernel_rfl) (by kernel_rfl) (by kernel_rfl) (by kernel_rfl) (by kernel_rfl),
 fB #[.slice none 0 0] (by kernel_rfl) (by kernel_rfl) (by kernel_rfl) (by kernel_rfl) (by kernel_rfl),
 fB #[.int .i64 0,.slice none 0 0] (by kernel_rfl) (by kernel_rfl) (by kernel_rfl) (by kernel_rfl) (by kernel_rfl),
 fB #[.slice none 0 0,.slice none 0 0,.slice none 0 0,.int .i64 0,.int .i64 0,.int .i64 0,.int .i64 0,.int .i64 0,.int .i64 0,.int .i64 0,.int .i64 0,.slice none 0 0,.int .i64 0] (by kernel_rfl) (by kernel_rfl) (by kernel_rfl) (by kernel_rfl) (by kernel_rfl),
 lx (by kernel_rfl) (by kernel_rfl),
 lx (by kernel_rfl) (by kernel_rfl),
 fB #[.slice none 0 0] (by kernel_rfl) (by kernel_rfl) (by kernel_rfl) (by kernel_rfl) (by kernel_rfl),
 fB #[.int .i64 0,.int .i64 0,.int .i64 0,.int .i64 0] (by kernel_rfl) (by kernel_rfl) (by kernel_rfl) (by kernel_rfl) (by kernel_rfl),
 fB #[.int .i64 0,.int .i64 0] (by kernel_rfl) (by kernel_rfl) (by kernel_rfl) (by kernel_rfl) (by kernel_rfl),
 fB #[.slice none 0 0] (by kernel_rfl) (by kernel_rfl) (by kernel_rfl) (by kernel_rfl) (by kernel_rfl),
 fB #[.int .i64 0,.slice none 0 0] (by kernel_rfl) (by kernel_rfl) (by kernel_rfl) (by kernel_rfl) (by kernel_rfl),
 fB #[.slice none 0 0,.slice none 0 0,.slice none 0 0,.int .i64 0,.int .i64 0,.int .i64 0,.int .i64 0,.int .i64 0,.int .i64 0,.int .i64 0,.int .i64 0,.slice none 0 0,.int .i64 0] (by kernel_rfl) (by kernel_rfl) (by kernel_rfl) (by kernel_rfl) (by kernel_rfl),
 fB #[.int .i64 0,.int .i64 0,.int .i64 0] (by kernel_rfl) (by kernel_rfl) (by kernel_rfl) (by kernel_rfl) (by kernel_rfl),
 fB #[.int .i64 0,.int .i64 0,.int .i64 0] (by kernel_rfl) (by kernel_rfl) (by kernel_rfl) (by kernel_rfl) (by kernel_rfl),
 lx (by kernel_rfl) (by kernel_rfl),
 lx (by kernel_rfl) (by kernel_rfl),
 lx (by kernel_rfl) (by kernel_rfl),
 fB #[.slice none 0 0,.int .i64 0,.slice none 0 0,.int .i64 0] (by kernel_rfl) (by kernel_rfl) (by kernel_rfl) (by kernel_rfl) (by kernel_rfl),
 tM (e:=29) (by kernel_rfl) (by kernel_rfl),
 lx (by kernel_rfl) (by kernel_rfl),
 lx (by kernel_rfl) (by kernel_rfl),
 fB #[.int .i64 0,.int .i64 0,.int .i64 0] (by kernel_rfl) (by kernel_rfl) (by kernel_rfl) (by kernel_rfl) (by kernel_rfl),
 fB #[.slice none 0 0,.int .i64 0,.int .i64 0,.int .i64 0] (by kernel_rfl) (by kernel_rfl) (by kernel_rfl) (by kernel_rfl) (by kernel_rfl),
 wG (by kernel_rfl) (by kernel_rfl),
 tM (e:=93) (by kernel_rfl) (by kernel_rfl),
 lx (by kernel_rfl) (by kernel_rfl),
 fB #[.int .i64 0,.int .i64 0] (by kernel_rfl) (by kernel_rfl) (by kernel_rfl) (by kernel_rfl) (by kernel_rfl),
 lx (by kernel_rfl) (by kernel_rfl),
 fB #[.slice none 0 0,.slice none 0 0] (by kernel_rfl) (by kernel_rfl) (by kernel_rfl) (by kernel_rfl) (by kernel_rfl),
 fB #[.int .i64 0,.int .i64 0,.int .i64 0] (by kernel_rfl) (by kernel_rfl) (by kernel_rfl) (by kernel_rfl) (by kernel_rfl),
 fB #[.int .i64 0,.int .i64 0] (by kernel_rfl) (by kernel_rfl) (by kernel_rfl) (by kernel_rfl) (by kernel_rfl),
 lx (by kernel_rfl) (by kernel_rfl),
 fB #[.int .i64 0,.int .i64 0,.int .i64 0] (by kernel_rfl) (by kernel_rfl) (by kernel_rfl) (by kernel_rfl) (by kernel_rfl),
 fB #[.slice none 0 0,.int .i64 0,.int .i64 0,.int .i64 0] (by kernel_rfl) (by kernel_rfl) (by kernel_rfl) (by kernel_rfl) (by kernel_rfl),
 fB #[.int .i64 0,.int .i64 0,.int .i64 0,.int .i64 0,.int .i64 0,.int .i64 0] (by kernel_rfl) (by kernel_rfl) (by kernel_rfl) (by kernel_rfl) (by kernel_rfl),
 tM (e:=208) (by kernel_rfl) (by kernel_rfl),
 DO #[.bool false,.bool false,.bool false,.bool false,.bool false,.bool false,.bool false,.bool false] (by kernel_rfl) (by kernel_rfl) (by kernel_rfl) (by kernel_rfl) (by kernel_rfl) (by kernel_rfl),
 fB #[.slice none 0 0,.slice none 0 0,.int .i64 0,.int .i64 0,.int .i64 0,.slice none 0 0,.bool false,.bool false,.bool false,.bool false,.bool false,.bool false,.bool false,.bool false,.slice none 0 0] (by kernel_rfl) (by kernel_rfl) (by kernel_rfl) (by kernel_rfl) (by kernel_rfl),
 fB #[.slice none 0 0,.slice none 0 0,.slice none 0 0,.slice none 0 0,.slice none 0 0,.int .i64 0,.bool false] (by kernel_rfl) (by kernel_rfl) (by kernel_rfl) (by kernel_rfl) (by kernel_rfl),
 fB #[.slice none 0 0,.slice none 0 0,.slice none 0 0,.slice none 0 0,.slice none 0 0,.int .i64 0,.bool false,.slice none 0 0,.slice none 0 0,.slice none 0 0,.int .i64 0,.int .i64 0] (by kernel_rfl) (by kernel_rfl) (by kernel_rfl) (by kernel_rfl) (by kernel_rfl),
 tM (e:=223) (by kernel_rfl) (by kernel_rfl),
 wG (by kernel_rfl) (by kernel_rfl),
 wG (by kernel_rfl) (by kernel_rfl),
 tM (e:=221) (by kernel_rfl) (by kernel_rfl),
 fB #[.int .i64 0,.int .i64 0,.int .i64 0,.int .i64 0,.int .i64 0,.int .i64 0] (by kernel_rfl) (by kernel_rfl) (by kernel_rfl) (by kernel_rfl) (by kernel_rfl),
 tM (e:=254) (by kernel_rfl) (by kernel_rfl),
 fB #[.bool false,.bool false,.bool false,.bool false,.bool false,.bool false,.bool false,.bool false,.bool false,.bool false,.bool false,.bool false,.bool false,.bool false,.bool false,.bool false] (by kernel_rfl) (by kernel_rfl) (by kernel_rfl) (by kernel_rfl) (by kernel_rfl),trivial⟩
theorem Fv:nu Tryz.prog C 3:=lz (.int .i64 0) 1 8 (fun x T h ha=>by have h':(some (.int .i64):Option (Ty U))=some T:=h;cases h';cases ha) (by kernel_rfl) (by kernel_rfl) (by kernel_rfl) (by decide) (by decide) (by kernel_rfl)
theorem Fx:nu Tryz.prog C 4:=lz (.bool false) 1 1 (fun x T h ha=>by have h':(some (.bool):Option (Ty U))=some T:=h;cases h';cases ha) (by kernel_rfl) (by kernel_rfl) (by kernel_rfl) (by decide) (by decide) (by kernel_rfl)
theorem Fl:nu Tryz.prog C 27:=lz (.slice none 0 0) 1 24 (fun x T h ha=>by have h':(some (.slice 3):Option (Ty U))=some T:=h;cases h';cases ha) (by kernel_rfl) (by kernel_rfl) (by kernel_rfl) (by decide) (by decide) (by kernel_rfl)
theorem Fj:nu Tryz.prog C 64:=lz (.agg #[.int .i64 0,.int .i64 0,.int .i64 0]) 3 24 (fun x T _ _=>⟨_,rfl⟩) (by kernel_rfl) (by kernel_rfl) (by kernel_rfl) (by decide) (by decide) (by kernel_rfl)
theorem Fi:nu Tryz.prog C 67:=lz (.agg #[.int .i64 0,.int .i64 0,.int .i64 0]) 3 24 (fun x T _ _=>⟨_,rfl⟩) (by kernel_rfl) (by kernel_rfl) (by kernel_rfl) (by decide) (by decide) (by kernel_rfl)
theorem EL:nu Tryz.prog C 164:=lz (.agg #[.slice none 0 0,.int .i64 0,.int .i64 0,.int .i64 0]) 4 48 (fun x T _ _=>⟨_,rfl⟩) (by kernel_rfl) (by kernel_rfl) (by kernel_rfl) (by decide) (by decide) (by kernel_rfl)
theorem EY:nu Tryz.prog C 173:=lz (.agg #[.int .i64 0,.int .i64 0]) 2 16 (fun x T _ _=>⟨_,rfl⟩) (by kernel_rfl) (by kernel_rfl) (by kernel_rfl) (by decide) (by decide) (by kernel_rfl)
theorem EM:nu Tryz.prog C 179:=lz (.agg #[.int .i64 0,.int .i64 0,.int .i64 0]) 3 24 (fun x T _ _=>⟨_,rfl⟩) (by kernel_rfl) (by kernel_rfl) (by kernel_rfl) (by decide) (by decide) (by kernel_rfl)
theorem ET:nu Tryz.prog C 182:=lz (.agg #[.int .i64 0,.int .i64 0]) 2 16 (fun x T _ _=>⟨_,rfl⟩) (by kernel_rfl) (by kernel_rfl) (by kernel_rfl) (by decide) (by decide) (by kernel_rfl)
theorem ES:nu Tryz.prog C 191:=lz (.agg #[.slice none 0 0,.int .i64 0,.int .i64 0,.int .i64 0]) 4 48 (fun x T _ _=>⟨_,rfl⟩) (by kernel_rfl) (by kernel_rfl) (by kernel_rfl) (by decide) (by decide) (by kernel_rfl)
theorem E3:nu Tryz.prog C 204:=lz (.agg #[.int .i64 0,.int .i64 0,.int .i64 0,.int .i64 0,.int .i64 0,.int .i64 0]) 6 48 (fun x T _ _=>⟨_,rfl⟩) (by kernel_rfl) (by kernel_rfl) (by kernel_rfl) (by decide) (by decide) (by kernel_rfl)
theorem E2:nu Tryz.prog C 249:=lz (.agg #[.int .i64 0,.int .i64 0,.int .i64 0,.int .i64 0,.int .i64 0,.int .i64 0]) 6 48 (fun x T _ _=>⟨_,rfl⟩) (by kernel_rfl) (by kernel_rfl) (by kernel_rfl) (by decide) (by decide) (by kernel_rfl)
theorem Fq:z7 (fun p:Nat×Ty U=>∀e,p.2= .slice e→nu Tryz.prog C e) yj:=⟨(fun e h=>by cases h),(fun e h=>by cases h),(fun e h=>by cases h;exact EL),(fun e h=>by cases h),(fun e h=>by cases h;exact Fv),(fun e h=>by cases h),(fun e h=>by cases h),(fun e h=>by cases h),(fun e h=>by cases h),(fun e h=>by cases h),(fun e h=>by cases h;exact Fx),(fun e h=>by cases h;exact ES),(fun e h=>by cases h),(fun e h=>by cases h),(fun e h=>by cases h),(fun e h=>by cases h),(fun e h=>by cases h),(fun e h=>by cases h),(fun e h=>by cases h),(fun e h=>by cases h),(fun e h=>by cases h;exact Fj),(fun e h=>by cases h;exact Fi),(fun e h=>by cases h;exact Fl),(fun e h=>by cases h),(fun e h=>by cases h),(fun e h=>by cases h;exact ET),(fun e h=>by cases h;exact E3),(fun e h=>by cases h),(fun e h=>by cases h),(fun e h=>by cases h),(fun e h=>by cases h),(fun e h=>by cases h;exact EY),(fun e h=>by cases h),(fun e h=>by cases h;exact EM),(fun e h=>by cases h),(fun e h=>by cases h),(fun e h=>by cases h),(fun e h=>by cases h;exact E2),(fun e h=>by cases h),(fun e h=>by cases h),(fun e h=>by cases h),(fun e h=>by cases h),(fun e h=>by cases h),(fun e h=>by cases h),(fun e h=>by cases h),(fun e h=>by cases h),(fun e h=>by cases h),(fun e h=>by cases h),(fun e h=>by cases h),(fun e h=>by cases h),(fun e h=>by cases h),(fun e h=>by cases h),(fun e h=>by cases h),trivial⟩
def A9 (x0 x1 x2 y0 y1 y2:Int):Bool:=(x0==y0)&&((x1==y1)&&((x2==y2)&&true))
theorem DA (d:Nat) (w:World) (k0 k1 k2:IntKind) (x0 x1 x2 y0 y1 y2:Int):(Op.equalIn (d+2) 161 (.agg #[.int k0 x0,.int k1 x1,.int k2 x2]) (.agg #[.int k0 y0,.int k1 y1,.int k2 y2])).run Tryz.prog w= .ok (A9 x0 x1 x2 y0 y1 y2) w:=by
 refine As Tryz.underlying161 (by kernel_rfl) ?_;refine uc (by rfl) (by go_simp;rfl) (by go_simp;rfl) (by go_simp) ?_;refine uc (by rfl) (by go_simp;rfl) (by go_simp;rfl) (by go_simp) ?_;refine uc (by rfl) (by go_simp;rfl) (by go_simp;rfl) (by go_simp) ?_;exact eq_nil
theorem EK:D1 Tryz.prog 161 3:=fun ps w h=>match ps,h with
 | [p0,p1,p2],_=>⟨by
  have e:=DA 9998 w p0.1 p1.1 p2.1 p0.2.1 p1.2.1 p2.2.1 p0.2.2 p1.2.2 p2.2.2;have hb:∀a b:Int,(a==b)=decide (a=b):=fun _ _=>rfl;exact e.trans (by simp[A9,List.all,hb]),by kernel_rfl⟩
def DM (x0 x1 x2 x3 x4 x5 y0 y1 y2 y3 y4 y5:Int):Bool:=(x0==y0)&&((x1==y1)&&((x2==y2)&&((A9 x3 x4 x5 y3 y4 y5)&&true)))
theorem ED (d:Nat) (w:World) (k0 k1 k2 k3 k4 k5:IntKind) (x0 x1 x2 x3 x4 x5 y0 y1 y2 y3 y4 y5:Int):(Op.equalIn (d+3) 204 (.agg #[.int k0 x0,.int k1 x1,.int k2 x2,.int k3 x3,.int k4 x4,.int k5 x5]) (.agg #[.int k0 y0,.int k1 y1,.int k2 y2,.int k3 y3,.int k4 y4,.int k5 y5])).run Tryz.prog w= .ok (DM x0 x1 x2 x3 x4 x5 y0 y1 y2 y3 y4 y5) w:=by
 refine As Tryz.underlying204 (by kernel_rfl) ?_;refine uc (by rfl) (by go_simp;rfl) (by go_simp;rfl) (by go_simp) ?_;refine uc (by rfl) (by go_simp;rfl) (by go_simp;rfl) (by go_simp) ?_;refine uc (by rfl) (by go_simp;rfl) (by go_simp;rfl) (by go_simp) ?_;refine uc (a:= .agg #[.int k3 x3,.int k4 x4,.int k5 x5]) (b:= .agg #[.int k3 y3,.int k4 y4,.int k5 y5]) (by rfl) (by go_simp) (by go_simp) (DA d w k3 k4 k5 x3 x4 x5 y3 y4 y5) ?_;exact eq_nil
theorem EX:D1 Tryz.prog 204 6:=fun ps w h=>match ps,h with
 | [p0,p1,p2,p3,p4,p5],_=>⟨by
  have e:=ED 9997 w p0.1 p1.1 p2.1 p3.1 p4.1 p5.1 p0.2.1 p1.2.1 p2.2.1 p3.2.1 p4.2.1 p5.2.1 p0.2.2 p1.2.2 p2.2.2 p3.2.2 p4.2.2 p5.2.2;have hb:∀a b:Int,(a==b)=decide (a=b):=fun _ _=>rfl;exact e.trans (by simp[A9,DM,List.all,hb]),by kernel_rfl⟩
theorem Fo:z7 (fun p:Nat×Nat=>D1 Tryz.prog p.1 p.2) zH:=⟨EK,EX,trivial⟩
theorem G:aa.Good Tryz.prog C:=Ed (U:=U) (tab:=E9) (yj:=yj) (vy:=vy) (zH:=zH) rfl Fp Fm (fun t e h=>Fq.mem _ (uf h) e rfl) Fo
abbrev Pg:Program:=Tryz.prog
theorem mixed:Pg.follows .mixedOrders=true:=by kernel_rfl
abbrev gM.A:=Int
def gM.v:gM.A→PV U:=fun r=> .int .i64 r
def gM.o:gM.A→List (PV U):=fun r=>[]
abbrev ij.A:=Int
def ij.v:ij.A→PV U:=fun r=> .int .i64 r
def ij.o:ij.A→List (PV U):=fun r=>[]
abbrev dg.A:=Int
def dg.v:dg.A→PV U:=fun r=> .int .i64 r
def dg.o:dg.A→List (PV U):=fun r=>[]
abbrev fk.A:=Int
def fk.v:fk.A→PV U:=fun r=> .int .i64 r
def fk.o:fk.A→List (PV U):=fun r=>[]
abbrev fZ.A:=Int
def fZ.v:fZ.A→PV U:=fun r=> .int .i64 r
def fZ.o:fZ.A→List (PV U):=fun r=>[]
abbrev gn.A:=Int
def gn.v:gn.A→PV U:=fun r=> .int .i64 r
def gn.o:gn.A→List (PV U):=fun r=>[]
abbrev iu.A:=Int
def iu.v:iu.A→PV U:=fun r=> .int .i64 r
def iu.o:iu.A→List (PV U):=fun r=>[]
abbrev gW.A:=Int
def gW.v:gW.A→PV U:=fun r=> .int .i64 r
def gW.o:gW.A→List (PV U):=fun r=>[]
abbrev jf.A:=Int×Int×Int
def jf.v:jf.A→PV U:=fun r=> .agg [.int .i64 r.1,.int .i64 r.2.1,.int .i64 r.2.2]
def jf.o:jf.A→List (PV U):=fun r=>[]
abbrev js.A:=Int×Int×Int×Int×Int×Int
def js.v:js.A→PV U:=fun r=> .agg [.int .i64 r.1,.int .i64 r.2.1,.int .i64 r.2.2.1,.int .i64 r.2.2.2.1,.int .i64 r.2.2.2.2.1,.int .i64 r.2.2.2.2.2]
def js.o:js.A→List (PV U):=fun r=>[]
abbrev dU.A:=(List aB)
def dU.v:dU.A→PV U:=fun r=> .own true 204 r
def dU.o:dU.A→List (PV U):=fun r=>[]
abbrev ig.A:=(List aB)×Int×Int×Int
def ig.v:ig.A→PV U:=fun r=> .agg [.own true 204 r.1,.int .i64 r.2.1,.int .i64 r.2.2.1,.int .i64 r.2.2.2]
def ig.o:ig.A→List (PV U):=fun r=>[]
abbrev dX.A:=(List aC)
def dX.v:dX.A→PV U:=fun r=> .own true 164 r
def dX.o:dX.A→List (PV U):=fun r=>[]
abbrev fw.A:=(List aC)
def fw.v:fw.A→PV U:=fun r=> .agg [.own true 164 r]
def fw.o:fw.A→List (PV U):=fun r=>[]
abbrev dA.A:=(List Int)
def dA.v:dA.A→PV U:=fun r=> .own true 3 r
def dA.o:dA.A→List (PV U):=fun r=>[]
abbrev iZ.A:=Int×Int×Int×Int
def iZ.v:iZ.A→PV U:=fun r=> .agg [.int .i64 r.1,.int .i64 r.2.1,.int .i64 r.2.2.1,.int .i64 r.2.2.2]
def iZ.o:iZ.A→List (PV U):=fun r=>[]
abbrev iN.A:=Int×Int
def iN.v:iN.A→PV U:=fun r=> .agg [.int .i64 r.1,.int .i64 r.2]
def iN.o:iN.A→List (PV U):=fun r=>[]
abbrev gm.A:=(List Int)
def gm.v:gm.A→PV U:=fun r=> .agg [.own true 3 r]
def gm.o:gm.A→List (PV U):=fun r=>[]
abbrev iO.A:=Int×(List Int)
def iO.v:iO.A→PV U:=fun r=> .agg [.int .i64 r.1,.own true 3 r.2]
def iO.o:iO.A→List (PV U):=fun r=>[]
abbrev dw.A:=(List aC)×(List Int)×(List Int)×Int×Int×Int×Int×Int×Int×Int×Int×(List Int)×Int
def dw.v:dw.A→PV U:=fun r=> .agg [.own true 164 r.1,.own true 3 r.2.1,.own true 3 r.2.2.1,.int .i64 r.2.2.2.1,.int .i64 r.2.2.2.2.1,.int .i64 r.2.2.2.2.2.1,.int .i64 r.2.2.2.2.2.2.1,.int .i64 r.2.2.2.2.2.2.2.1,.int .i64 r.2.2.2.2.2.2.2.2.1,.int .i64 r.2.2.2.2.2.2.2.2.2.1,.int .i64 r.2.2.2.2.2.2.2.2.2.2.1,.own true 3 r.2.2.2.2.2.2.2.2.2.2.2.1,.int .i64 r.2.2.2.2.2.2.2.2.2.2.2.2]
def dw.o:dw.A→List (PV U):=fun r=>[]
abbrev gY.A:=Int×Int×Int
def gY.v:gY.A→PV U:=fun r=> .agg [.int .i64 r.1,.int .i64 r.2.1,.int .i64 r.2.2]
def gY.o:gY.A→List (PV U):=fun r=>[]
abbrev cJ.A:=(List aC)
def cJ.v:cJ.A→PV U:=fun r=> .agg [.own true 164 r]
def cJ.o:cJ.A→List (PV U):=fun r=>[]
abbrev fG.A:=Int×(List Int)
def fG.v:fG.A→PV U:=fun r=> .agg [.int .i64 r.1,.own true 3 r.2]
def fG.o:fG.A→List (PV U):=fun r=>[]
abbrev aS.A:=(List aC)×(List Int)×(List Int)×Int×Int×Int×Int×Int×Int×Int×Int×(List Int)×Int
def aS.v:aS.A→PV U:=fun r=> .agg [.own true 164 r.1,.own true 3 r.2.1,.own true 3 r.2.2.1,.int .i64 r.2.2.2.1,.int .i64 r.2.2.2.2.1,.int .i64 r.2.2.2.2.2.1,.int .i64 r.2.2.2.2.2.2.1,.int .i64 r.2.2.2.2.2.2.2.1,.int .i64 r.2.2.2.2.2.2.2.2.1,.int .i64 r.2.2.2.2.2.2.2.2.2.1,.int .i64 r.2.2.2.2.2.2.2.2.2.2.1,.own true 3 r.2.2.2.2.2.2.2.2.2.2.2.1,.int .i64 r.2.2.2.2.2.2.2.2.2.2.2.2]
def aS.o:aS.A→List (PV U):=fun r=>[]
abbrev fX.A:=Int×Int×Int×Int×Int×Int
def fX.v:fX.A→PV U:=fun r=> .agg [.int .i64 r.1,.int .i64 r.2.1,.int .i64 r.2.2.1,.int .i64 r.2.2.2.1,.int .i64 r.2.2.2.2.1,.int .i64 r.2.2.2.2.2]
def fX.o:fX.A→List (PV U):=fun r=>[]
abbrev aG.A:=Bool
def aG.v:aG.A→PV U:=fun r=> .bool r
def aG.o:aG.A→List (PV U):=fun r=>[]
abbrev ga.A:=Bool
def ga.v:ga.A→PV U:=fun r=> .bool r
def ga.o:ga.A→List (PV U):=fun r=>[]
abbrev cy.A:=Bool
def cy.v:cy.A→PV U:=fun r=> .bool r
def cy.o:cy.A→List (PV U):=fun r=>[]
abbrev iv.A:=Bool
def iv.v:iv.A→PV U:=fun r=> .bool r
def iv.o:iv.A→List (PV U):=fun r=>[]
abbrev bm.A:=Bool
def bm.v:bm.A→PV U:=fun r=> .bool r
def bm.o:bm.A→List (PV U):=fun r=>[]
abbrev dd.A:=Bool
def dd.v:dd.A→PV U:=fun r=> .bool r
def dd.o:dd.A→List (PV U):=fun r=>[]
abbrev bU.A:=Int
def bU.v:bU.A→PV U:=fun r=> .int .i64 r
def bU.o:bU.A→List (PV U):=fun r=>[]
abbrev bB.A:=Int×Int×Int
def bB.v:bB.A→PV U:=fun r=> .lj [.int .i64 r.1,.int .i64 r.2.1,.int .i64 r.2.2]
def bB.o:bB.A→List (PV U):=fun r=>[]
abbrev ek.A:=Bool
def ek.v:ek.A→PV U:=fun r=> .bool r
def ek.o:ek.A→List (PV U):=fun r=>[]
abbrev cw.A:=Bool
def cw.v:cw.A→PV U:=fun r=> .bool r
def cw.o:cw.A→List (PV U):=fun r=>[]
abbrev eY.A:=Bool
def eY.v:eY.A→PV U:=fun r=> .bool r
def eY.o:eY.A→List (PV U):=fun r=>[]
abbrev gP.A:=Bool
def gP.v:gP.A→PV U:=fun r=> .bool r
def gP.o:gP.A→List (PV U):=fun r=>[]
abbrev cS.A:=Bool
def cS.v:cS.A→PV U:=fun r=> .bool r
def cS.o:cS.A→List (PV U):=fun r=>[]
abbrev fE.A:=(List Int)
def fE.v:fE.A→PV U:=fun r=> .own true 3 r
def fE.o:fE.A→List (PV U):=fun r=>[]
abbrev bL.A:=Bool
def bL.v:bL.A→PV U:=fun r=> .bool r
def bL.o:bL.A→List (PV U):=fun r=>[]
abbrev gi.A:=Bool
def gi.v:gi.A→PV U:=fun r=> .bool r
def gi.o:gi.A→List (PV U):=fun r=>[]
abbrev bk.A:=Bool
def bk.v:bk.A→PV U:=fun r=> .bool r
def bk.o:bk.A→List (PV U):=fun r=>[]
abbrev dI.A:=Bool
def dI.v:dI.A→PV U:=fun r=> .bool r
def dI.o:dI.A→List (PV U):=fun r=>[]
abbrev fC.A:=Int×Int
def fC.v:fC.A→PV U:=fun r=> .agg [.int .i64 r.1,.int .i64 r.2]
def fC.o:fC.A→List (PV U):=fun r=>[]
abbrev gQ.A:=Int×Int
def gQ.v:gQ.A→PV U:=fun r=> .agg [.int .i64 r.1,.int .i64 r.2]
def gQ.o:gQ.A→List (PV U):=fun r=>[]
abbrev dO.A:=Int
def dO.v:dO.A→PV U:=fun r=> .int .i64 r
def dO.o:dO.A→List (PV U):=fun r=>[]
abbrev dV.A:=(List Bool)
def dV.v:dV.A→PV U:=fun r=> .own true 4 r
def dV.o:dV.A→List (PV U):=fun r=>[]
abbrev cT.A:=(List ju)
def cT.v:cT.A→PV U:=fun r=> .own true 182 r
def cT.o:cT.A→List (PV U):=fun r=>[]
abbrev gT.A:=(List Int)
def gT.v:gT.A→PV U:=fun r=> .own true 3 r
def gT.o:gT.A→List (PV U):=fun r=>[]
abbrev bX.A:=(List Int)×Int
def bX.v:bX.A→PV U:=fun r=> .lj [.agg [.own true 3 r.1],.int .i64 r.2]
def bX.o:bX.A→List (PV U):=fun r=>[]
abbrev fp.A:=Int×(List Int)×Bool
def fp.v:fp.A→PV U:=fun r=> .lj [.agg [.int .i64 r.1,.own true 3 r.2.1],.bool r.2.2]
def fp.o:fp.A→List (PV U):=fun r=>[]
abbrev ik.A:=(List aC)×(List Int)×(List Int)×Int×Int×Int×Int×Int×Int×Int×Int×(List Int)×Int×Bool
def ik.v:ik.A→PV U:=fun r=> .lj [.agg [.own true 164 r.1,.own true 3 r.2.1,.own true 3 r.2.2.1,.int .i64 r.2.2.2.1,.int .i64 r.2.2.2.2.1,.int .i64 r.2.2.2.2.2.1,.int .i64 r.2.2.2.2.2.2.1,.int .i64 r.2.2.2.2.2.2.2.1,.int .i64 r.2.2.2.2.2.2.2.2.1,.int .i64 r.2.2.2.2.2.2.2.2.2.1,.int .i64 r.2.2.2.2.2.2.2.2.2.2.1,.own true 3 r.2.2.2.2.2.2.2.2.2.2.2.1,.int .i64 r.2.2.2.2.2.2.2.2.2.2.2.2.1],.bool r.2.2.2.2.2.2.2.2.2.2.2.2.2]
def ik.o:ik.A→List (PV U):=fun r=>[]
abbrev dM.A:=Int×Int×Bool
def dM.v:dM.A→PV U:=fun r=> .lj [.agg [.int .i64 r.1,.int .i64 r.2.1],.bool r.2.2]
def dM.o:dM.A→List (PV U):=fun r=>[]
abbrev gA.A:=Int
def gA.v:gA.A→PV U:=fun r=> .int .i64 r
def gA.o:gA.A→List (PV U):=fun r=>[]
abbrev db.A:=Int
def db.v:db.A→PV U:=fun r=> .int .i64 r
def db.o:db.A→List (PV U):=fun r=>[]
abbrev fP.A:=Int×Int×Int×Int
def fP.v:fP.A→PV U:=fun r=> .agg [.int .i64 r.1,.int .i64 r.2.1,.int .i64 r.2.2.1,.int .i64 r.2.2.2]
def fP.o:fP.A→List (PV U):=fun r=>[]
abbrev gE.A:=Int×Int
def gE.v:gE.A→PV U:=fun r=> .agg [.int .i64 r.1,.int .i64 r.2]
def gE.o:gE.A→List (PV U):=fun r=>[]
abbrev aY.A:=(List fL)
def aY.v:aY.A→PV U:=fun r=> .own true 173 r
def aY.o:aY.A→List (PV U):=fun r=>[]
abbrev bM.A:=(List Int)
def bM.v:bM.A→PV U:=fun r=> .own true 3 r
def bM.o:bM.A→List (PV U):=fun r=>[]
abbrev ji.A:=Bool
def ji.v:ji.A→PV U:=fun r=> .bool r
def ji.o:ji.A→List (PV U):=fun r=>[]
abbrev cW.A:=Bool
def cW.v:cW.A→PV U:=fun r=> .bool r
def cW.o:cW.A→List (PV U):=fun r=>[]
abbrev cd.A:=(List Int)
def cd.v:cd.A→PV U:=fun r=> .own true 3 r
def cd.o:cd.A→List (PV U):=fun r=>[]
abbrev da.A:=(List Int)
def da.v:da.A→PV U:=fun r=> .own true 3 r
def da.o:da.A→List (PV U):=fun r=>[]
abbrev fW.A:=Bool
def fW.v:fW.A→PV U:=fun r=> .bool r
def fW.o:fW.A→List (PV U):=fun r=>[]
abbrev b7.A:=Int
def b7.v:b7.A→PV U:=fun r=> .int .i64 r
def b7.o:b7.A→List (PV U):=fun r=>[]
abbrev cl.A:=(List Int)
def cl.v:cl.A→PV U:=fun r=> .own true 3 r
def cl.o:cl.A→List (PV U):=fun r=>[]
abbrev cI.A:=(List Int)
def cI.v:cI.A→PV U:=fun r=> .own true 3 r
def cI.o:cI.A→List (PV U):=fun r=>[]
abbrev cc.A:=(List Bool)×(List Bool)
def cc.v:cc.A→PV U:=fun r=> .lj []
def cc.o:cc.A→List (PV U):=fun r=>[.own true 4 r.1,.own true 4 r.2]
abbrev aR.A:=(List Bool)×(List Bool)
def aR.v:aR.A→PV U:=fun r=> .lj []
def aR.o:aR.A→List (PV U):=fun r=>[.own true 4 r.1,.own true 4 r.2]
abbrev dz.A:=(List Int)
def dz.v:dz.A→PV U:=fun r=> .own true 3 r
def dz.o:dz.A→List (PV U):=fun r=>[]
abbrev cr.A:=Bool
def cr.v:cr.A→PV U:=fun r=> .bool r
def cr.o:cr.A→List (PV U):=fun r=>[]
abbrev df.A:=(List Int)
def df.v:df.A→PV U:=fun r=> .own true 3 r
def df.o:df.A→List (PV U):=fun r=>[]
abbrev fN.A:=(List Int)
def fN.v:fN.A→PV U:=fun r=> .own true 3 r
def fN.o:fN.A→List (PV U):=fun r=>[]
abbrev fM.A:=Int
def fM.v:fM.A→PV U:=fun r=> .int .i64 r
def fM.o:fM.A→List (PV U):=fun r=>[]
abbrev eB.A:=(List Int)×(List Int)×(List Int)×(List Int)×(List Int)×Int×Bool×(List aN)×(List Int)×(List Int)×Int×Int
def eB.v:eB.A→PV U:=fun r=> .lj []
def eB.o:eB.A→List (PV U):=fun r=>[.box [.own true 3 r.1,.own true 3 r.2.1,.own true 3 r.2.2.1,.own true 3 r.2.2.2.1,.sl 3 r.2.2.2.2.1,.int .i64 r.2.2.2.2.2.1,.bool r.2.2.2.2.2.2.1,.own true 179 r.2.2.2.2.2.2.2.1,.own true 3 r.2.2.2.2.2.2.2.2.1,.own true 3 r.2.2.2.2.2.2.2.2.2.1,.int .i64 r.2.2.2.2.2.2.2.2.2.2.1,.int .i64 r.2.2.2.2.2.2.2.2.2.2.2]]
abbrev fK.A:=Int
def fK.v:fK.A→PV U:=fun r=> .int .i64 r
def fK.o:fK.A→List (PV U):=fun r=>[]
abbrev cL.A:=Int
def cL.v:cL.A→PV U:=fun r=> .int .i64 r
def cL.o:cL.A→List (PV U):=fun r=>[]
abbrev dL.A:=Int
def dL.v:dL.A→PV U:=fun r=> .int .i64 r
def dL.o:dL.A→List (PV U):=fun r=>[]
abbrev fq.A:=Int
def fq.v:fq.A→PV U:=fun r=> .int .i64 r
def fq.o:fq.A→List (PV U):=fun r=>[]
abbrev fr.A:=Int
def fr.v:fr.A→PV U:=fun r=> .int .i64 r
def fr.o:fr.A→List (PV U):=fun r=>[]
abbrev cA.A:=Int
def cA.v:cA.A→PV U:=fun r=> .int .i64 r
def cA.o:cA.A→List (PV U):=fun r=>[]
abbrev cH.A:=(List Int)×(List Int)×(List Int)×(List Int)×(List Int)×Int×Bool×(List aN)×(List Int)×(List Int)×Int×Int
def cH.v:cH.A→PV U:=fun r=> .lj []
def cH.o:cH.A→List (PV U):=fun r=>[.box [.own true 3 r.1,.own true 3 r.2.1,.own true 3 r.2.2.1,.own true 3 r.2.2.2.1,.sl 3 r.2.2.2.2.1,.int .i64 r.2.2.2.2.2.1,.bool r.2.2.2.2.2.2.1,.own true 179 r.2.2.2.2.2.2.2.1,.own true 3 r.2.2.2.2.2.2.2.2.1,.own true 3 r.2.2.2.2.2.2.2.2.2.1,.int .i64 r.2.2.2.2.2.2.2.2.2.2.1,.int .i64 r.2.2.2.2.2.2.2.2.2.2.2]]
abbrev bJ.A:=(List Int)×(List Int)×(List Int)×(List Int)×(List Int)×Int×Bool×(List aN)×(List Int)×(List Int)×Int×Int
def bJ.v:bJ.A→PV U:=fun r=> .lj []
def bJ.o:bJ.A→List (PV U):=fun r=>[.box [.own true 3 r.1,.own true 3 r.2.1,.own true 3 r.2.2.1,.own true 3 r.2.2.2.1,.sl 3 r.2.2.2.2.1,.int .i64 r.2.2.2.2.2.1,.bool r.2.2.2.2.2.2.1,.own true 179 r.2.2.2.2.2.2.2.1,.own true 3 r.2.2.2.2.2.2.2.2.1,.own true 3 r.2.2.2.2.2.2.2.2.2.1,.int .i64 r.2.2.2.2.2.2.2.2.2.2.1,.int .i64 r.2.2.2.2.2.2.2.2.2.2.2]]
abbrev bz.A:=Int
def bz.v:bz.A→PV U:=fun r=> .int .i64 r
def bz.o:bz.A→List (PV U):=fun r=>[]
abbrev eV.A:=Int×(List Int)×(List Int)×(List Int)×(List Int)×(List Int)×Int×Bool×(List aN)×(List Int)×(List Int)×Int×Int
def eV.v:eV.A→PV U:=fun r=> .int .i64 r.1
def eV.o:eV.A→List (PV U):=fun r=>[.box [.own true 3 r.2.1,.own true 3 r.2.2.1,.own true 3 r.2.2.2.1,.own true 3 r.2.2.2.2.1,.sl 3 r.2.2.2.2.2.1,.int .i64 r.2.2.2.2.2.2.1,.bool r.2.2.2.2.2.2.2.1,.own true 179 r.2.2.2.2.2.2.2.2.1,.own true 3 r.2.2.2.2.2.2.2.2.2.1,.own true 3 r.2.2.2.2.2.2.2.2.2.2.1,.int .i64 r.2.2.2.2.2.2.2.2.2.2.2.1,.int .i64 r.2.2.2.2.2.2.2.2.2.2.2.2]]
abbrev ao.A:=(List Int)×(List Int)×(List Int)×(List Int)×(List Int)×Int×Bool×(List aN)×(List Int)×(List Int)×Int×Int
def ao.v:ao.A→PV U:=fun r=> .lj []
def ao.o:ao.A→List (PV U):=fun r=>[.box [.own true 3 r.1,.own true 3 r.2.1,.own true 3 r.2.2.1,.own true 3 r.2.2.2.1,.sl 3 r.2.2.2.2.1,.int .i64 r.2.2.2.2.2.1,.bool r.2.2.2.2.2.2.1,.own true 179 r.2.2.2.2.2.2.2.1,.own true 3 r.2.2.2.2.2.2.2.2.1,.own true 3 r.2.2.2.2.2.2.2.2.2.1,.int .i64 r.2.2.2.2.2.2.2.2.2.2.1,.int .i64 r.2.2.2.2.2.2.2.2.2.2.2]]
abbrev ey.A:=Int
def ey.v:ey.A→PV U:=fun r=> .int .i64 r
def ey.o:ey.A→List (PV U):=fun r=>[]
abbrev eU.A:=(List aN)×(List Int)
def eU.v:eU.A→PV U:=fun r=> .agg [.own true 179 r.1,.own true 3 r.2]
def eU.o:eU.A→List (PV U):=fun r=>[]
abbrev cq.A:=Int
def cq.v:cq.A→PV U:=fun r=> .int .i64 r
def cq.o:cq.A→List (PV U):=fun r=>[]
abbrev cn.A:=Int
def cn.v:cn.A→PV U:=fun r=> .int .i64 r
def cn.o:cn.A→List (PV U):=fun r=>[]
abbrev bg.A:=(List Int)×Int×(List (List Int))×Int
def bg.v:bg.A→PV U:=fun r=> .agg [.own true 3 r.1,.int .i64 r.2.1,.own true 27 r.2.2.1,.int .i64 r.2.2.2]
def bg.o:bg.A→List (PV U):=fun r=>[]
abbrev eO.A:=(List aC)×(List Int)×(List Int)×Int×Int×Int×Int×Int×Int×Int×Int×(List Int)×Int
def eO.v:eO.A→PV U:=fun r=> .agg [.own true 164 r.1,.own true 3 r.2.1,.own true 3 r.2.2.1,.int .i64 r.2.2.2.1,.int .i64 r.2.2.2.2.1,.int .i64 r.2.2.2.2.2.1,.int .i64 r.2.2.2.2.2.2.1,.int .i64 r.2.2.2.2.2.2.2.1,.int .i64 r.2.2.2.2.2.2.2.2.1,.int .i64 r.2.2.2.2.2.2.2.2.2.1,.int .i64 r.2.2.2.2.2.2.2.2.2.2.1,.own true 3 r.2.2.2.2.2.2.2.2.2.2.2.1,.int .i64 r.2.2.2.2.2.2.2.2.2.2.2.2]
def eO.o:eO.A→List (PV U):=fun r=>[]
abbrev bW.A:=(List aC)×(List Int)×(List Int)×Int×Int×Int×Int×Int×Int×Int×Int×(List Int)×Int×Bool
def bW.v:bW.A→PV U:=fun r=> .lj [.agg [.own true 164 r.1,.own true 3 r.2.1,.own true 3 r.2.2.1,.int .i64 r.2.2.2.1,.int .i64 r.2.2.2.2.1,.int .i64 r.2.2.2.2.2.1,.int .i64 r.2.2.2.2.2.2.1,.int .i64 r.2.2.2.2.2.2.2.1,.int .i64 r.2.2.2.2.2.2.2.2.1,.int .i64 r.2.2.2.2.2.2.2.2.2.1,.int .i64 r.2.2.2.2.2.2.2.2.2.2.1,.own true 3 r.2.2.2.2.2.2.2.2.2.2.2.1,.int .i64 r.2.2.2.2.2.2.2.2.2.2.2.2.1],.bool r.2.2.2.2.2.2.2.2.2.2.2.2.2]
def bW.o:bW.A→List (PV U):=fun r=>[]
abbrev bf.A:=(List aC)×(List Int)×(List Int)×Int×Int×Int×Int×Int×Int×Int×Int×(List Int)×Int×Int
def bf.v:bf.A→PV U:=fun r=> .lj [.agg [.own true 164 r.1,.own true 3 r.2.1,.own true 3 r.2.2.1,.int .i64 r.2.2.2.1,.int .i64 r.2.2.2.2.1,.int .i64 r.2.2.2.2.2.1,.int .i64 r.2.2.2.2.2.2.1,.int .i64 r.2.2.2.2.2.2.2.1,.int .i64 r.2.2.2.2.2.2.2.2.1,.int .i64 r.2.2.2.2.2.2.2.2.2.1,.int .i64 r.2.2.2.2.2.2.2.2.2.2.1,.own true 3 r.2.2.2.2.2.2.2.2.2.2.2.1,.int .i64 r.2.2.2.2.2.2.2.2.2.2.2.2.1],.int .i64 r.2.2.2.2.2.2.2.2.2.2.2.2.2]
def bf.o:bf.A→List (PV U):=fun r=>[]
abbrev aI.A:=Bool
def aI.v:aI.A→PV U:=fun r=> .bool r
def aI.o:aI.A→List (PV U):=fun r=>[]
abbrev b6.A:=Bool
def b6.v:b6.A→PV U:=fun r=> .bool r
def b6.o:b6.A→List (PV U):=fun r=>[]
abbrev dR.A:=Bool
def dR.v:dR.A→PV U:=fun r=> .bool r
def dR.o:dR.A→List (PV U):=fun r=>[]
abbrev dy.A:=Bool
def dy.v:dy.A→PV U:=fun r=> .bool r
def dy.o:dy.A→List (PV U):=fun r=>[]
abbrev fY.A:=Bool
def fY.v:fY.A→PV U:=fun r=> .bool r
def fY.o:fY.A→List (PV U):=fun r=>[]
abbrev cV.A:=Bool
def cV.v:cV.A→PV U:=fun r=> .bool r
def cV.o:cV.A→List (PV U):=fun r=>[]
abbrev bN.A:=Bool
def bN.v:bN.A→PV U:=fun r=> .bool r
def bN.o:bN.A→List (PV U):=fun r=>[]
abbrev dx.A:=Bool
def dx.v:dx.A→PV U:=fun r=> .bool r
def dx.o:dx.A→List (PV U):=fun r=>[]
abbrev bS.A:=Bool
def bS.v:bS.A→PV U:=fun r=> .bool r
def bS.o:bS.A→List (PV U):=fun r=>[]
abbrev bE.A:=Bool
def bE.v:bE.A→PV U:=fun r=> .bool r
def bE.o:bE.A→List (PV U):=fun r=>[]
abbrev dn.A:=Bool
def dn.v:dn.A→PV U:=fun r=> .bool r
def dn.o:dn.A→List (PV U):=fun r=>[]
abbrev fe.A:=Bool
def fe.v:fe.A→PV U:=fun r=> .bool r
def fe.o:fe.A→List (PV U):=fun r=>[]
abbrev az.A:=Int
def az.v:az.A→PV U:=fun r=> .int .i64 r
def az.o:az.A→List (PV U):=fun r=>[]
abbrev aP.A:=Bool
def aP.v:aP.A→PV U:=fun r=> .bool r
def aP.o:aP.A→List (PV U):=fun r=>[]
abbrev dK.A:=Bool
def dK.v:dK.A→PV U:=fun r=> .bool r
def dK.o:dK.A→List (PV U):=fun r=>[]
abbrev dD.A:=Bool
def dD.v:dD.A→PV U:=fun r=> .bool r
def dD.o:dD.A→List (PV U):=fun r=>[]
abbrev fa.A:=Bool
def fa.v:fa.A→PV U:=fun r=> .bool r
def fa.o:fa.A→List (PV U):=fun r=>[]
abbrev aD.A:=Int
def aD.v:aD.A→PV U:=fun r=> .int .i64 r
def aD.o:aD.A→List (PV U):=fun r=>[]
abbrev bd.A:=Bool
def bd.v:bd.A→PV U:=fun r=> .bool r
def bd.o:bd.A→List (PV U):=fun r=>[]
abbrev dc.A:=Bool
def dc.v:dc.A→PV U:=fun r=> .bool r
def dc.o:dc.A→List (PV U):=fun r=>[]
abbrev bQ.A:=Int
def bQ.v:bQ.A→PV U:=fun r=> .int .i64 r
def bQ.o:bQ.A→List (PV U):=fun r=>[]
abbrev bC.A:=Int×Int×Int
def bC.v:bC.A→PV U:=fun r=> .lj [.int .i64 r.1,.int .i64 r.2.1,.int .i64 r.2.2]
def bC.o:bC.A→List (PV U):=fun r=>[]
abbrev fb.A:=Bool
def fb.v:fb.A→PV U:=fun r=> .bool r
def fb.o:fb.A→List (PV U):=fun r=>[]
abbrev gO.A:=Bool
def gO.v:gO.A→PV U:=fun r=> .bool r
def gO.o:gO.A→List (PV U):=fun r=>[]
abbrev ck.A:=Bool
def ck.v:ck.A→PV U:=fun r=> .bool r
def ck.o:ck.A→List (PV U):=fun r=>[]
abbrev aT.A:=(List Int)
def aT.v:aT.A→PV U:=fun r=> .own true 3 r
def aT.o:aT.A→List (PV U):=fun r=>[]
abbrev fH.A:=(List Int)
def fH.v:fH.A→PV U:=fun r=> .own true 3 r
def fH.o:fH.A→List (PV U):=fun r=>[]
abbrev bR.A:=Bool
def bR.v:bR.A→PV U:=fun r=> .bool r
def bR.o:bR.A→List (PV U):=fun r=>[]
abbrev eG.A:=Bool
def eG.v:eG.A→PV U:=fun r=> .bool r
def eG.o:eG.A→List (PV U):=fun r=>[]
abbrev gg.A:=Bool
def gg.v:gg.A→PV U:=fun r=> .bool r
def gg.o:gg.A→List (PV U):=fun r=>[]
abbrev bF.A:=Bool
def bF.v:bF.A→PV U:=fun r=> .bool r
def bF.o:bF.A→List (PV U):=fun r=>[]
abbrev cg.A:=(List aB)
def cg.v:cg.A→PV U:=fun r=> .own true 204 r
def cg.o:cg.A→List (PV U):=fun r=>[]
abbrev gL.A:=(List aB)×Int×Int×Int
def gL.v:gL.A→PV U:=fun r=> .agg [.own true 204 r.1,.int .i64 r.2.1,.int .i64 r.2.2.1,.int .i64 r.2.2.2]
def gL.o:gL.A→List (PV U):=fun r=>[]
abbrev cu.A:=(List aC)
def cu.v:cu.A→PV U:=fun r=> .agg [.own true 164 r]
def cu.o:cu.A→List (PV U):=fun r=>[]
abbrev eK.A:=Int×(List Int)
def eK.v:eK.A→PV U:=fun r=> .agg [.int .i64 r.1,.own true 3 r.2]
def eK.o:eK.A→List (PV U):=fun r=>[]
abbrev bh.A:=(List aC)×(List Int)×(List Int)×Int×Int×Int×Int×Int×Int×Int×Int×(List Int)×Int
def bh.v:bh.A→PV U:=fun r=> .agg [.own true 164 r.1,.own true 3 r.2.1,.own true 3 r.2.2.1,.int .i64 r.2.2.2.1,.int .i64 r.2.2.2.2.1,.int .i64 r.2.2.2.2.2.1,.int .i64 r.2.2.2.2.2.2.1,.int .i64 r.2.2.2.2.2.2.2.1,.int .i64 r.2.2.2.2.2.2.2.2.1,.int .i64 r.2.2.2.2.2.2.2.2.2.1,.int .i64 r.2.2.2.2.2.2.2.2.2.2.1,.own true 3 r.2.2.2.2.2.2.2.2.2.2.2.1,.int .i64 r.2.2.2.2.2.2.2.2.2.2.2.2]
def bh.o:bh.A→List (PV U):=fun r=>[]
abbrev ba.A:=Bool
def ba.v:ba.A→PV U:=fun r=> .bool r
def ba.o:ba.A→List (PV U):=fun r=>[]
abbrev eZ.A:=Bool
def eZ.v:eZ.A→PV U:=fun r=> .bool r
def eZ.o:eZ.A→List (PV U):=fun r=>[]
abbrev cm.A:=Int
def cm.v:cm.A→PV U:=fun r=> .int .i64 r
def cm.o:cm.A→List (PV U):=fun r=>[]
abbrev dF.A:=(List aC)×(List Int)×(List Int)×Int×Int×Int×Int×Int×Int×Int×Int×(List Int)×Int
def dF.v:dF.A→PV U:=fun r=> .lj []
def dF.o:dF.A→List (PV U):=fun r=>[.box [.own true 164 r.1,.own true 3 r.2.1,.own true 3 r.2.2.1,.int .i64 r.2.2.2.1,.int .i64 r.2.2.2.2.1,.int .i64 r.2.2.2.2.2.1,.int .i64 r.2.2.2.2.2.2.1,.int .i64 r.2.2.2.2.2.2.2.1,.int .i64 r.2.2.2.2.2.2.2.2.1,.int .i64 r.2.2.2.2.2.2.2.2.2.1,.int .i64 r.2.2.2.2.2.2.2.2.2.2.1,.own true 3 r.2.2.2.2.2.2.2.2.2.2.2.1,.int .i64 r.2.2.2.2.2.2.2.2.2.2.2.2]]
abbrev cF.A:=Int×Int
def cF.v:cF.A→PV U:=fun r=> .agg [.int .i64 r.1,.int .i64 r.2]
def cF.o:cF.A→List (PV U):=fun r=>[]
abbrev gD.A:=Int×Int
def gD.v:gD.A→PV U:=fun r=> .agg [.int .i64 r.1,.int .i64 r.2]
def gD.o:gD.A→List (PV U):=fun r=>[]
abbrev bu.A:=(List fL)
def bu.v:bu.A→PV U:=fun r=> .own true 173 r
def bu.o:bu.A→List (PV U):=fun r=>[]
abbrev aO.A:=Bool×(List Int)×Int×(List (List Int))×Int
def aO.v:aO.A→PV U:=fun r=> .bool r.1
def aO.o:aO.A→List (PV U):=fun r=>[.box [.own true 3 r.2.1,.int .i64 r.2.2.1,.own true 27 r.2.2.2.1,.int .i64 r.2.2.2.2]]
abbrev aH.A:=Bool×(List Int)×Int×(List (List Int))×Int
def aH.v:aH.A→PV U:=fun r=> .bool r.1
def aH.o:aH.A→List (PV U):=fun r=>[.box [.own true 3 r.2.1,.int .i64 r.2.2.1,.own true 27 r.2.2.2.1,.int .i64 r.2.2.2.2]]
abbrev fQ.A:=(List Int)
def fQ.v:fQ.A→PV U:=fun r=> .own true 3 r
def fQ.o:fQ.A→List (PV U):=fun r=>[]
abbrev slices_Sort_int.A:=(List Int)
def slices_Sort_int.v:slices_Sort_int.A→PV U:=fun r=> .lj []
def slices_Sort_int.o:slices_Sort_int.A→List (PV U):=fun r=>[.own true 3 r]
abbrev slices_Compact_int.A:=(List Int)
def slices_Compact_int.v:slices_Compact_int.A→PV U:=fun r=> .own true 3 r
def slices_Compact_int.o:slices_Compact_int.A→List (PV U):=fun r=>[]
abbrev cK.A:=(List Int)
def cK.v:cK.A→PV U:=fun r=> .own true 3 r
def cK.o:cK.A→List (PV U):=fun r=>[]
abbrev bn.A:=Bool×Bool×Bool×Bool×Bool×Bool×Bool×Bool×Bool×Bool×Bool×Bool×Bool×Bool×Bool×Bool
def bn.v:bn.A→PV U:=fun r=> .lj []
def bn.o:bn.A→List (PV U):=fun r=>[.box [.bool r.1,.bool r.2.1,.bool r.2.2.1,.bool r.2.2.2.1,.bool r.2.2.2.2.1,.bool r.2.2.2.2.2.1,.bool r.2.2.2.2.2.2.1,.bool r.2.2.2.2.2.2.2.1,.bool r.2.2.2.2.2.2.2.2.1,.bool r.2.2.2.2.2.2.2.2.2.1,.bool r.2.2.2.2.2.2.2.2.2.2.1,.bool r.2.2.2.2.2.2.2.2.2.2.2.1,.bool r.2.2.2.2.2.2.2.2.2.2.2.2.1,.bool r.2.2.2.2.2.2.2.2.2.2.2.2.2.1,.bool r.2.2.2.2.2.2.2.2.2.2.2.2.2.2.1,.bool r.2.2.2.2.2.2.2.2.2.2.2.2.2.2.2]]
abbrev cz.A:=Int
def cz.v:cz.A→PV U:=fun r=> .int .i64 r
def cz.o:cz.A→List (PV U):=fun r=>[]
abbrev ay.A:=Bool×Bool×Bool×Bool×Bool×Bool×Bool×Bool×Bool×Bool×Bool×Bool×Bool×Bool×Bool×Bool
def ay.v:ay.A→PV U:=fun r=> .lj []
def ay.o:ay.A→List (PV U):=fun r=>[.box [.bool r.1,.bool r.2.1,.bool r.2.2.1,.bool r.2.2.2.1,.bool r.2.2.2.2.1,.bool r.2.2.2.2.2.1,.bool r.2.2.2.2.2.2.1,.bool r.2.2.2.2.2.2.2.1,.bool r.2.2.2.2.2.2.2.2.1,.bool r.2.2.2.2.2.2.2.2.2.1,.bool r.2.2.2.2.2.2.2.2.2.2.1,.bool r.2.2.2.2.2.2.2.2.2.2.2.1,.bool r.2.2.2.2.2.2.2.2.2.2.2.2.1,.bool r.2.2.2.2.2.2.2.2.2.2.2.2.2.1,.bool r.2.2.2.2.2.2.2.2.2.2.2.2.2.2.1,.bool r.2.2.2.2.2.2.2.2.2.2.2.2.2.2.2]]
abbrev bD.A:=(List Int)
def bD.v:bD.A→PV U:=fun r=> .own true 3 r
def bD.o:bD.A→List (PV U):=fun r=>[]
abbrev cO.A:=Bool×(List Bool)
def cO.v:cO.A→PV U:=fun r=> .bool r.1
def cO.o:cO.A→List (PV U):=fun r=>[.box [.own true 4 r.2]]
abbrev dY.A:=(List Int)×(List Bool)
def dY.v:dY.A→PV U:=fun r=> .own true 3 r.1
def dY.o:dY.A→List (PV U):=fun r=>[.box [.own true 4 r.2]]
abbrev bo.A:=(List Int)
def bo.v:bo.A→PV U:=fun r=> .own true 3 r
def bo.o:bo.A→List (PV U):=fun r=>[]
abbrev fO.A:=Bool
def fO.v:fO.A→PV U:=fun r=> .bool r
def fO.o:fO.A→List (PV U):=fun r=>[]
abbrev cD.A:=(List Int)
def cD.v:cD.A→PV U:=fun r=> .own true 3 r
def cD.o:cD.A→List (PV U):=fun r=>[]
abbrev fT.A:=(List Int)
def fT.v:fT.A→PV U:=fun r=> .own true 3 r
def fT.o:fT.A→List (PV U):=fun r=>[]
abbrev cv.A:=Int
def cv.v:cv.A→PV U:=fun r=> .int .i64 r
def cv.o:cv.A→List (PV U):=fun r=>[]
abbrev dC.A:=Bool
def dC.v:dC.A→PV U:=fun r=> .bool r
def dC.o:dC.A→List (PV U):=fun r=>[]
abbrev ff.A:=Bool
def ff.v:ff.A→PV U:=fun r=> .bool r
def ff.o:ff.A→List (PV U):=fun r=>[]
abbrev cR.A:=Bool×(List Int)×(List Int)
def cR.v:cR.A→PV U:=fun r=> .bool r.1
def cR.o:cR.A→List (PV U):=fun r=>[.box [.own true 3 r.2.1],.box [.own true 3 r.2.2]]
abbrev aK.A:=Int×(List Int)×(List Int)
def aK.v:aK.A→PV U:=fun r=> .int .i64 r.1
def aK.o:aK.A→List (PV U):=fun r=>[.box [.own true 3 r.2.1],.box [.own true 3 r.2.2]]
abbrev ax.A:=(List Int)×(List Int)×(List Int)
def ax.v:ax.A→PV U:=fun r=> .sl 3 r.1
def ax.o:ax.A→List (PV U):=fun r=>[.box [.own true 3 r.2.1],.box [.own true 3 r.2.2]]
abbrev dS.A:=(List Int)
def dS.v:dS.A→PV U:=fun r=> .sl 3 r
def dS.o:dS.A→List (PV U):=fun r=>[]
abbrev eT.A:=Int
def eT.v:eT.A→PV U:=fun r=> .int .i64 r
def eT.o:eT.A→List (PV U):=fun r=>[]
abbrev cE.A:=(List aN)×(List Int)×Int×Int×Int×(List Int)×Bool×Bool×Bool×Bool×Bool×Bool×Bool×Bool×(List Int)
def cE.v:cE.A→PV U:=fun r=> .lj []
def cE.o:cE.A→List (PV U):=fun r=>[.box [.own true 179 r.1,.own true 3 r.2.1,.int .i64 r.2.2.1,.int .i64 r.2.2.2.1,.int .i64 r.2.2.2.2.1,.own true 3 r.2.2.2.2.2.1,.bool r.2.2.2.2.2.2.1,.bool r.2.2.2.2.2.2.2.1,.bool r.2.2.2.2.2.2.2.2.1,.bool r.2.2.2.2.2.2.2.2.2.1,.bool r.2.2.2.2.2.2.2.2.2.2.1,.bool r.2.2.2.2.2.2.2.2.2.2.2.1,.bool r.2.2.2.2.2.2.2.2.2.2.2.2.1,.bool r.2.2.2.2.2.2.2.2.2.2.2.2.2.1,.own true 3 r.2.2.2.2.2.2.2.2.2.2.2.2.2.2]]
abbrev gh.A:=Bool
def gh.v:gh.A→PV U:=fun r=> .bool r
def gh.o:gh.A→List (PV U):=fun r=>[]
abbrev gl.A:=Int
def gl.v:gl.A→PV U:=fun r=> .int .i64 r
def gl.o:gl.A→List (PV U):=fun r=>[]
abbrev cM.A:=Int
def cM.v:cM.A→PV U:=fun r=> .int .i64 r
def cM.o:cM.A→List (PV U):=fun r=>[]
abbrev dJ.A:=Int
def dJ.v:dJ.A→PV U:=fun r=> .int .i64 r
def dJ.o:dJ.A→List (PV U):=fun r=>[]
abbrev fm.A:=Int
def fm.v:fm.A→PV U:=fun r=> .int .i64 r
def fm.o:fm.A→List (PV U):=fun r=>[]
abbrev fl.A:=Int
def fl.v:fl.A→PV U:=fun r=> .int .i64 r
def fl.o:fl.A→List (PV U):=fun r=>[]
abbrev iW.A:=Int
def iW.v:iW.A→PV U:=fun r=> .int .i64 r
def iW.o:iW.A→List (PV U):=fun r=>[]
abbrev cG.A:=Int
def cG.v:cG.A→PV U:=fun r=> .int .i64 r
def cG.o:cG.A→List (PV U):=fun r=>[]
abbrev bw.A:=(List aN)×(List Int)×Int×Int×Int×(List Int)×Bool×Bool×Bool×Bool×Bool×Bool×Bool×Bool×(List Int)
def bw.v:bw.A→PV U:=fun r=> .lj []
def bw.o:bw.A→List (PV U):=fun r=>[.box [.own true 179 r.1,.own true 3 r.2.1,.int .i64 r.2.2.1,.int .i64 r.2.2.2.1,.int .i64 r.2.2.2.2.1,.own true 3 r.2.2.2.2.2.1,.bool r.2.2.2.2.2.2.1,.bool r.2.2.2.2.2.2.2.1,.bool r.2.2.2.2.2.2.2.2.1,.bool r.2.2.2.2.2.2.2.2.2.1,.bool r.2.2.2.2.2.2.2.2.2.2.1,.bool r.2.2.2.2.2.2.2.2.2.2.2.1,.bool r.2.2.2.2.2.2.2.2.2.2.2.2.1,.bool r.2.2.2.2.2.2.2.2.2.2.2.2.2.1,.own true 3 r.2.2.2.2.2.2.2.2.2.2.2.2.2.2]]
abbrev aE.A:=(List aN)×(List Int)×Int×Int×Int×(List Int)×Bool×Bool×Bool×Bool×Bool×Bool×Bool×Bool×(List Int)
def aE.v:aE.A→PV U:=fun r=> .lj []
def aE.o:aE.A→List (PV U):=fun r=>[.box [.own true 179 r.1,.own true 3 r.2.1,.int .i64 r.2.2.1,.int .i64 r.2.2.2.1,.int .i64 r.2.2.2.2.1,.own true 3 r.2.2.2.2.2.1,.bool r.2.2.2.2.2.2.1,.bool r.2.2.2.2.2.2.2.1,.bool r.2.2.2.2.2.2.2.2.1,.bool r.2.2.2.2.2.2.2.2.2.1,.bool r.2.2.2.2.2.2.2.2.2.2.1,.bool r.2.2.2.2.2.2.2.2.2.2.2.1,.bool r.2.2.2.2.2.2.2.2.2.2.2.2.1,.bool r.2.2.2.2.2.2.2.2.2.2.2.2.2.1,.own true 3 r.2.2.2.2.2.2.2.2.2.2.2.2.2.2]]
abbrev bK.A:=Int
def bK.v:bK.A→PV U:=fun r=> .int .i64 r
def bK.o:bK.A→List (PV U):=fun r=>[]
abbrev cN.A:=(List aN)×(List Int)×Int×Int×Int×(List Int)×Bool×Bool×Bool×Bool×Bool×Bool×Bool×Bool×(List Int)
def cN.v:cN.A→PV U:=fun r=> .lj []
def cN.o:cN.A→List (PV U):=fun r=>[.box [.own true 179 r.1,.own true 3 r.2.1,.int .i64 r.2.2.1,.int .i64 r.2.2.2.1,.int .i64 r.2.2.2.2.1,.own true 3 r.2.2.2.2.2.1,.bool r.2.2.2.2.2.2.1,.bool r.2.2.2.2.2.2.2.1,.bool r.2.2.2.2.2.2.2.2.1,.bool r.2.2.2.2.2.2.2.2.2.1,.bool r.2.2.2.2.2.2.2.2.2.2.1,.bool r.2.2.2.2.2.2.2.2.2.2.2.1,.bool r.2.2.2.2.2.2.2.2.2.2.2.2.1,.bool r.2.2.2.2.2.2.2.2.2.2.2.2.2.1,.own true 3 r.2.2.2.2.2.2.2.2.2.2.2.2.2.2]]
abbrev bb.A:=Bool×(List Int)×(List Int)×Int×(List aN)×(List Int)×Int×Int×Int×(List Int)×Bool×Bool×Bool×Bool×Bool×Bool×Bool×Bool×(List Int)
def bb.v:bb.A→PV U:=fun r=> .bool r.1
def bb.o:bb.A→List (PV U):=fun r=>[.box [.ptr 85 0],.box [.sl 3 r.2.1],.box [.sl 3 r.2.2.1],.box [.int .i64 r.2.2.2.1],.box [.own true 179 r.2.2.2.2.1,.own true 3 r.2.2.2.2.2.1,.int .i64 r.2.2.2.2.2.2.1,.int .i64 r.2.2.2.2.2.2.2.1,.int .i64 r.2.2.2.2.2.2.2.2.1,.own true 3 r.2.2.2.2.2.2.2.2.2.1,.bool r.2.2.2.2.2.2.2.2.2.2.1,.bool r.2.2.2.2.2.2.2.2.2.2.2.1,.bool r.2.2.2.2.2.2.2.2.2.2.2.2.1,.bool r.2.2.2.2.2.2.2.2.2.2.2.2.2.1,.bool r.2.2.2.2.2.2.2.2.2.2.2.2.2.2.1,.bool r.2.2.2.2.2.2.2.2.2.2.2.2.2.2.2.1,.bool r.2.2.2.2.2.2.2.2.2.2.2.2.2.2.2.2.1,.bool r.2.2.2.2.2.2.2.2.2.2.2.2.2.2.2.2.2.1,.own true 3 r.2.2.2.2.2.2.2.2.2.2.2.2.2.2.2.2.2.2]]
abbrev bp.A:=(List Int)×(List Int)×Int×(List aN)×(List Int)×Int×Int×Int×(List Int)×Bool×Bool×Bool×Bool×Bool×Bool×Bool×Bool×(List Int)
def bp.v:bp.A→PV U:=fun r=> .lj []
def bp.o:bp.A→List (PV U):=fun r=>[.box [.ptr 55 0],.box [.sl 3 r.1],.box [.sl 3 r.2.1],.box [.int .i64 r.2.2.1],.box [.own true 179 r.2.2.2.1,.own true 3 r.2.2.2.2.1,.int .i64 r.2.2.2.2.2.1,.int .i64 r.2.2.2.2.2.2.1,.int .i64 r.2.2.2.2.2.2.2.1,.own true 3 r.2.2.2.2.2.2.2.2.1,.bool r.2.2.2.2.2.2.2.2.2.1,.bool r.2.2.2.2.2.2.2.2.2.2.1,.bool r.2.2.2.2.2.2.2.2.2.2.2.1,.bool r.2.2.2.2.2.2.2.2.2.2.2.2.1,.bool r.2.2.2.2.2.2.2.2.2.2.2.2.2.1,.bool r.2.2.2.2.2.2.2.2.2.2.2.2.2.2.1,.bool r.2.2.2.2.2.2.2.2.2.2.2.2.2.2.2.1,.bool r.2.2.2.2.2.2.2.2.2.2.2.2.2.2.2.2.1,.own true 3 r.2.2.2.2.2.2.2.2.2.2.2.2.2.2.2.2.2]]
abbrev iD.A:=Bool
def iD.v:iD.A→PV U:=fun r=> .bool r
def iD.o:iD.A→List (PV U):=fun r=>[]
abbrev fy.A:=Int
def fy.v:fy.A→PV U:=fun r=> .int .i64 r
def fy.o:fy.A→List (PV U):=fun r=>[]
abbrev dH.A:=(List aN)×(List Int)
def dH.v:dH.A→PV U:=fun r=> .agg [.own true 179 r.1,.own true 3 r.2]
def dH.o:dH.A→List (PV U):=fun r=>[]
abbrev aJ.A:=Bool
def aJ.v:aJ.A→PV U:=fun r=> .bool r
def aJ.o:aJ.A→List (PV U):=fun r=>[]
abbrev aM.A:=Bool×(List Int)×Int×(List (List Int))×Int
def aM.v:aM.A→PV U:=fun r=> .bool r.1
def aM.o:aM.A→List (PV U):=fun r=>[.box [.own true 3 r.2.1,.int .i64 r.2.2.1,.own true 27 r.2.2.2.1,.int .i64 r.2.2.2.2]]
abbrev eS.A:=(List Int)×Int×(List (List Int))×Int
def eS.v:eS.A→PV U:=fun r=> .agg [.own true 3 r.1,.int .i64 r.2.1,.own true 27 r.2.2.1,.int .i64 r.2.2.2]
def eS.o:eS.A→List (PV U):=fun r=>[]
abbrev bx.A:=(List aC)×(List Int)×(List Int)×Int×Int×Int×Int×Int×Int×Int×Int×(List Int)×Int×Bool
def bx.v:bx.A→PV U:=fun r=> .lj [.agg [.own true 164 r.1,.own true 3 r.2.1,.own true 3 r.2.2.1,.int .i64 r.2.2.2.1,.int .i64 r.2.2.2.2.1,.int .i64 r.2.2.2.2.2.1,.int .i64 r.2.2.2.2.2.2.1,.int .i64 r.2.2.2.2.2.2.2.1,.int .i64 r.2.2.2.2.2.2.2.2.1,.int .i64 r.2.2.2.2.2.2.2.2.2.1,.int .i64 r.2.2.2.2.2.2.2.2.2.2.1,.own true 3 r.2.2.2.2.2.2.2.2.2.2.2.1,.int .i64 r.2.2.2.2.2.2.2.2.2.2.2.2.1],.bool r.2.2.2.2.2.2.2.2.2.2.2.2.2]
def bx.o:bx.A→List (PV U):=fun r=>[]
abbrev dN.A:=Int
def dN.v:dN.A→PV U:=fun r=> .int .i64 r
def dN.o:dN.A→List (PV U):=fun r=>[]
abbrev jO.A:=Int×Int
def jO.v:jO.A→PV U:=fun r=> .lj [.int .u64 r.1,.int .u64 r.2]
def jO.o:jO.A→List (PV U):=fun r=>[]
abbrev jn.A:=Int×Int
def jn.v:jn.A→PV U:=fun r=> .lj [.int .u64 r.1,.int .u64 r.2]
def jn.o:jn.A→List (PV U):=fun r=>[]
abbrev bt.A:=(List Bool)
def bt.v:bt.A→PV U:=fun r=> .own true 4 r
def bt.o:bt.A→List (PV U):=fun r=>[]
abbrev cU.A:=(List ju)
def cU.v:cU.A→PV U:=fun r=> .own true 182 r
def cU.o:cU.A→List (PV U):=fun r=>[]
abbrev gS.A:=(List Int)×Int
def gS.v:gS.A→PV U:=fun r=> .lj [.agg [.own true 3 r.1],.int .i64 r.2]
def gS.o:gS.A→List (PV U):=fun r=>[]
abbrev bO.A:=(List Int)×Int
def bO.v:bO.A→PV U:=fun r=> .lj [.agg [.own true 3 r.1],.int .i64 r.2]
def bO.o:bO.A→List (PV U):=fun r=>[]
abbrev fu.A:=Int×(List Int)×Bool
def fu.v:fu.A→PV U:=fun r=> .lj [.agg [.int .i64 r.1,.own true 3 r.2.1],.bool r.2.2]
def fu.o:fu.A→List (PV U):=fun r=>[]
abbrev il.A:=(List aC)×(List Int)×(List Int)×Int×Int×Int×Int×Int×Int×Int×Int×(List Int)×Int×Bool
def il.v:il.A→PV U:=fun r=> .lj [.agg [.own true 164 r.1,.own true 3 r.2.1,.own true 3 r.2.2.1,.int .i64 r.2.2.2.1,.int .i64 r.2.2.2.2.1,.int .i64 r.2.2.2.2.2.1,.int .i64 r.2.2.2.2.2.2.1,.int .i64 r.2.2.2.2.2.2.2.1,.int .i64 r.2.2.2.2.2.2.2.2.1,.int .i64 r.2.2.2.2.2.2.2.2.2.1,.int .i64 r.2.2.2.2.2.2.2.2.2.2.1,.own true 3 r.2.2.2.2.2.2.2.2.2.2.2.1,.int .i64 r.2.2.2.2.2.2.2.2.2.2.2.2.1],.bool r.2.2.2.2.2.2.2.2.2.2.2.2.2]
def il.o:il.A→List (PV U):=fun r=>[]
abbrev dP.A:=Int×Int×Bool
def dP.v:dP.A→PV U:=fun r=> .lj [.agg [.int .i64 r.1,.int .i64 r.2.1],.bool r.2.2]
def dP.o:dP.A→List (PV U):=fun r=>[]
abbrev gF.A:=(List aC)×(List Int)×(List Int)×Int×Int×Int×Int×Int×Int×Int×Int×(List Int)×Int×Int
def gF.v:gF.A→PV U:=fun r=> .lj [.agg [.own true 164 r.1,.own true 3 r.2.1,.own true 3 r.2.2.1,.int .i64 r.2.2.2.1,.int .i64 r.2.2.2.2.1,.int .i64 r.2.2.2.2.2.1,.int .i64 r.2.2.2.2.2.2.1,.int .i64 r.2.2.2.2.2.2.2.1,.int .i64 r.2.2.2.2.2.2.2.2.1,.int .i64 r.2.2.2.2.2.2.2.2.2.1,.int .i64 r.2.2.2.2.2.2.2.2.2.2.1,.own true 3 r.2.2.2.2.2.2.2.2.2.2.2.1,.int .i64 r.2.2.2.2.2.2.2.2.2.2.2.2.1],.int .i64 r.2.2.2.2.2.2.2.2.2.2.2.2.2]
def gF.o:gF.A→List (PV U):=fun r=>[]
abbrev eM.A:=(List aC)×(List Int)×(List Int)×Int×Int×Int×Int×Int×Int×Int×Int×(List Int)×Int×Int
def eM.v:eM.A→PV U:=fun r=> .lj [.agg [.own true 164 r.1,.own true 3 r.2.1,.own true 3 r.2.2.1,.int .i64 r.2.2.2.1,.int .i64 r.2.2.2.2.1,.int .i64 r.2.2.2.2.2.1,.int .i64 r.2.2.2.2.2.2.1,.int .i64 r.2.2.2.2.2.2.2.1,.int .i64 r.2.2.2.2.2.2.2.2.1,.int .i64 r.2.2.2.2.2.2.2.2.2.1,.int .i64 r.2.2.2.2.2.2.2.2.2.2.1,.own true 3 r.2.2.2.2.2.2.2.2.2.2.2.1,.int .i64 r.2.2.2.2.2.2.2.2.2.2.2.2.1],.int .i64 r.2.2.2.2.2.2.2.2.2.2.2.2.2]
def eM.o:eM.A→List (PV U):=fun r=>[]
abbrev dm.A:=(List aC)×(List Int)×(List Int)×Int×Int×Int×Int×Int×Int×Int×Int×(List Int)×Int×Int
def dm.v:dm.A→PV U:=fun r=> .lj [.agg [.own true 164 r.1,.own true 3 r.2.1,.own true 3 r.2.2.1,.int .i64 r.2.2.2.1,.int .i64 r.2.2.2.2.1,.int .i64 r.2.2.2.2.2.1,.int .i64 r.2.2.2.2.2.2.1,.int .i64 r.2.2.2.2.2.2.2.1,.int .i64 r.2.2.2.2.2.2.2.2.1,.int .i64 r.2.2.2.2.2.2.2.2.2.1,.int .i64 r.2.2.2.2.2.2.2.2.2.2.1,.own true 3 r.2.2.2.2.2.2.2.2.2.2.2.1,.int .i64 r.2.2.2.2.2.2.2.2.2.2.2.2.1],.int .i64 r.2.2.2.2.2.2.2.2.2.2.2.2.2]
def dm.o:dm.A→List (PV U):=fun r=>[]
abbrev gj.A:=Bool
def gj.v:gj.A→PV U:=fun r=> .bool r
def gj.o:gj.A→List (PV U):=fun r=>[]
abbrev ir.A:=Bool
def ir.v:ir.A→PV U:=fun r=> .bool r
def ir.o:ir.A→List (PV U):=fun r=>[]
abbrev dW.A:=Bool
def dW.v:dW.A→PV U:=fun r=> .bool r
def dW.o:dW.A→List (PV U):=fun r=>[]
abbrev im.A:=Bool
def im.v:im.A→PV U:=fun r=> .bool r
def im.o:im.A→List (PV U):=fun r=>[]
abbrev dQ.A:=Bool
def dQ.v:dQ.A→PV U:=fun r=> .bool r
def dQ.o:dQ.A→List (PV U):=fun r=>[]
abbrev fv.A:=Bool
def fv.v:fv.A→PV U:=fun r=> .bool r
def fv.o:fv.A→List (PV U):=fun r=>[]
abbrev cZ.A:=Bool
def cZ.v:cZ.A→PV U:=fun r=> .bool r
def cZ.o:cZ.A→List (PV U):=fun r=>[]
abbrev gR.A:=Bool
def gR.v:gR.A→PV U:=fun r=> .bool r
def gR.o:gR.A→List (PV U):=fun r=>[]
abbrev iz.A:=Bool
def iz.v:iz.A→PV U:=fun r=> .bool r
def iz.o:iz.A→List (PV U):=fun r=>[]
abbrev fo.A:=Bool
def fo.v:fo.A→PV U:=fun r=> .bool r
def fo.o:fo.A→List (PV U):=fun r=>[]
abbrev iq.A:=Bool
def iq.v:iq.A→PV U:=fun r=> .bool r
def iq.o:iq.A→List (PV U):=fun r=>[]
abbrev eP.A:=Bool
def eP.v:eP.A→PV U:=fun r=> .bool r
def eP.o:eP.A→List (PV U):=fun r=>[]
abbrev eC.A:=Int×(List aB)
def eC.v:eC.A→PV U:=fun r=> .int .i64 r.1
def eC.o:eC.A→List (PV U):=fun r=>[.own true 204 r.2]
abbrev eF.A:=Int×(List aC)
def eF.v:eF.A→PV U:=fun r=> .int .i64 r.1
def eF.o:eF.A→List (PV U):=fun r=>[.own true 164 r.2]
abbrev gx.A:=Int×(List aC)
def gx.v:gx.A→PV U:=fun r=> .int .i64 r.1
def gx.o:gx.A→List (PV U):=fun r=>[.own true 164 r.2]
abbrev dZ.A:=Int×(List Int)
def dZ.v:dZ.A→PV U:=fun r=> .int .i64 r.1
def dZ.o:dZ.A→List (PV U):=fun r=>[.own true 3 r.2]
abbrev gv.A:=Int×(List Int)
def gv.v:gv.A→PV U:=fun r=> .int .i64 r.1
def gv.o:gv.A→List (PV U):=fun r=>[.own true 3 r.2]
abbrev iK.A:=Int×(List Int)
def iK.v:iK.A→PV U:=fun r=> .int .i64 r.1
def iK.o:iK.A→List (PV U):=fun r=>[.own true 3 r.2]
abbrev gk.A:=Int×(List aC)×(List Int)×(List Int)×(List Int)
def gk.v:gk.A→PV U:=fun r=> .int .i64 r.1
def gk.o:gk.A→List (PV U):=fun r=>[.own true 164 r.2.1,.own true 3 r.2.2.1,.own true 3 r.2.2.2.1,.own true 3 r.2.2.2.2]
abbrev eE.A:=Int
def eE.v:eE.A→PV U:=fun r=> .int .i64 r
def eE.o:eE.A→List (PV U):=fun r=>[]
abbrev eA.A:=Int
def eA.v:eA.A→PV U:=fun r=> .int .i64 r
def eA.o:eA.A→List (PV U):=fun r=>[]
abbrev gr.A:=Int
def gr.v:gr.A→PV U:=fun r=> .int .i64 r
def gr.o:gr.A→List (PV U):=fun r=>[]
abbrev dG.A:=Int
def dG.v:dG.A→PV U:=fun r=> .int .i64 r
def dG.o:dG.A→List (PV U):=fun r=>[]
abbrev gw.A:=Int
def gw.v:gw.A→PV U:=fun r=> .int .i64 r
def gw.o:gw.A→List (PV U):=fun r=>[]
abbrev iL.A:=Int
def iL.v:iL.A→PV U:=fun r=> .int .i64 r
def iL.o:iL.A→List (PV U):=fun r=>[]
abbrev fV.A:=Int
def fV.v:fV.A→PV U:=fun r=> .int .i64 r
def fV.o:fV.A→List (PV U):=fun r=>[]
abbrev eX.A:=Bool
def eX.v:eX.A→PV U:=fun r=> .bool r
def eX.o:eX.A→List (PV U):=fun r=>[]
abbrev iP.A:=Int
def iP.v:iP.A→PV U:=fun r=> .int .i64 r
def iP.o:iP.A→List (PV U):=fun r=>[]
abbrev fj.A:=(List kR)
def fj.v:fj.A→PV U:=fun r=> .own true 67 r
def fj.o:fj.A→List (PV U):=fun r=>[]
abbrev dE.A:=(List aC)×(List Int)×(List Int)×Int×Int×Int×Int×Int×Int×Int×Int×(List Int)×Int×(List Int)
def dE.v:dE.A→PV U:=fun r=> .lj [.agg [.own true 164 r.1,.own true 3 r.2.1,.own true 3 r.2.2.1,.int .i64 r.2.2.2.1,.int .i64 r.2.2.2.2.1,.int .i64 r.2.2.2.2.2.1,.int .i64 r.2.2.2.2.2.2.1,.int .i64 r.2.2.2.2.2.2.2.1,.int .i64 r.2.2.2.2.2.2.2.2.1,.int .i64 r.2.2.2.2.2.2.2.2.2.1,.int .i64 r.2.2.2.2.2.2.2.2.2.2.1,.own true 3 r.2.2.2.2.2.2.2.2.2.2.2.1,.int .i64 r.2.2.2.2.2.2.2.2.2.2.2.2.1],.own true 3 r.2.2.2.2.2.2.2.2.2.2.2.2.2]
def dE.o:dE.A→List (PV U):=fun r=>[]
abbrev dj.A:=(List aC)×(List Int)×(List Int)×Int×Int×Int×Int×Int×Int×Int×Int×(List Int)×Int×(List Int)
def dj.v:dj.A→PV U:=fun r=> .lj [.agg [.own true 164 r.1,.own true 3 r.2.1,.own true 3 r.2.2.1,.int .i64 r.2.2.2.1,.int .i64 r.2.2.2.2.1,.int .i64 r.2.2.2.2.2.1,.int .i64 r.2.2.2.2.2.2.1,.int .i64 r.2.2.2.2.2.2.2.1,.int .i64 r.2.2.2.2.2.2.2.2.1,.int .i64 r.2.2.2.2.2.2.2.2.2.1,.int .i64 r.2.2.2.2.2.2.2.2.2.2.1,.own true 3 r.2.2.2.2.2.2.2.2.2.2.2.1,.int .i64 r.2.2.2.2.2.2.2.2.2.2.2.2.1],.own true 3 r.2.2.2.2.2.2.2.2.2.2.2.2.2]
def dj.o:dj.A→List (PV U):=fun r=>[]
abbrev jt.A:=Bool
def jt.v:jt.A→PV U:=fun r=> .bool r
def jt.o:jt.A→List (PV U):=fun r=>[]
abbrev gB.A:=Bool
def gB.v:gB.A→PV U:=fun r=> .bool r
def gB.o:gB.A→List (PV U):=fun r=>[]
abbrev iE.A:=Int×(List kR)
def iE.v:iE.A→PV U:=fun r=> .int .i64 r.1
def iE.o:iE.A→List (PV U):=fun r=>[.own true 67 r.2]
abbrev fA.A:=Bool
def fA.v:fA.A→PV U:=fun r=> .bool r
def fA.o:fA.A→List (PV U):=fun r=>[]
abbrev dq.A:=Int
def dq.v:dq.A→PV U:=fun r=> .int .i64 r
def dq.o:dq.A→List (PV U):=fun r=>[]
abbrev jI.A:=Bool
def jI.v:jI.A→PV U:=fun r=> .bool r
def jI.o:jI.A→List (PV U):=fun r=>[]
abbrev ic.A:=Bool
def ic.v:ic.A→PV U:=fun r=> .bool r
def ic.o:ic.A→List (PV U):=fun r=>[]
abbrev ib.A:=Bool
def ib.v:ib.A→PV U:=fun r=> .bool r
def ib.o:ib.A→List (PV U):=fun r=>[]
abbrev eQ.A:=Bool
def eQ.v:eQ.A→PV U:=fun r=> .bool r
def eQ.o:eQ.A→List (PV U):=fun r=>[]
def Ck:List (Nat×Fh C):=[(191,⟨gM.A,gM.v,gM.o⟩),(153,⟨ij.A,ij.v,ij.o⟩),(109,⟨dg.A,dg.v,dg.o⟩),(56,⟨fk.A,fk.v,fk.o⟩),(57,⟨fZ.A,fZ.v,fZ.o⟩),(110,⟨gn.A,gn.v,gn.o⟩),(58,⟨iu.A,iu.v,iu.o⟩),(17,⟨gW.A,gW.v,gW.o⟩),(200,⟨jf.A,jf.v,jf.o⟩),(236,⟨js.A,js.v,js.o⟩),(199,⟨dU.A,dU.v,dU.o⟩),(163,⟨ig.A,ig.v,ig.o⟩),(121,⟨dX.A,dX.v,dX.o⟩),(63,⟨fw.A,fw.v,fw.o⟩),(36,⟨dA.A,dA.v,dA.o⟩),(64,⟨iZ.A,iZ.v,iZ.o⟩),(65,⟨iN.A,iN.v,iN.o⟩),(122,⟨gm.A,gm.v,gm.o⟩),(66,⟨iO.A,iO.v,iO.o⟩),(19,⟨dw.A,dw.v,dw.o⟩),(24,⟨gY.A,gY.v,gY.o⟩),(116,⟨cJ.A,cJ.v,cJ.o⟩),(117,⟨fG.A,fG.v,fG.o⟩),(61,⟨aS.A,aS.v,aS.o⟩),(238,⟨fX.A,fX.v,fX.o⟩),(60,⟨aG.A,aG.v,aG.o⟩),(208,⟨ga.A,ga.v,ga.o⟩),(174,⟨cy.A,cy.v,cy.o⟩),(207,⟨iv.A,iv.v,iv.o⟩),(173,⟨bm.A,bm.v,bm.o⟩),(141,⟨dd.A,dd.v,dd.o⟩),(192,⟨bU.A,bU.v,bU.o⟩),(154,⟨bB.A,bB.v,bB.o⟩),(129,⟨ek.A,ek.v,ek.o⟩),(113,⟨cw.A,cw.v,cw.o⟩),(111,⟨eY.A,eY.v,eY.o⟩),(112,⟨gP.A,gP.v,gP.o⟩),(114,⟨cS.A,cS.v,cS.o⟩),(156,⟨fE.A,fE.v,fE.o⟩),(155,⟨bL.A,bL.v,bL.o⟩),(115,⟨gi.A,gi.v,gi.o⟩),(59,⟨bk.A,bk.v,bk.o⟩),(75,⟨dI.A,dI.v,dI.o⟩),(130,⟨fC.A,fC.v,fC.o⟩),(76,⟨gQ.A,gQ.v,gQ.o⟩),(77,⟨dO.A,dO.v,dO.o⟩),(79,⟨dV.A,dV.v,dV.o⟩),(168,⟨cT.A,cT.v,cT.o⟩),(203,⟨gT.A,gT.v,gT.o⟩),(167,⟨bX.A,bX.v,bX.o⟩),(131,⟨fp.A,fp.v,fp.o⟩),(78,⟨ik.A,ik.v,ik.o⟩),(80,⟨dM.A,dM.v,dM.o⟩),(81,⟨gA.A,gA.v,gA.o⟩),(157,⟨db.A,db.v,db.o⟩),(118,⟨fP.A,fP.v,fP.o⟩),(119,⟨gE.A,gE.v,gE.o⟩),(158,⟨aY.A,aY.v,aY.o⟩),(159,⟨bM.A,bM.v,bM.o⟩),(226,⟨ji.A,ji.v,ji.o⟩),(248,⟨cW.A,cW.v,cW.o⟩),(249,⟨cd.A,cd.v,cd.o⟩),(227,⟨da.A,da.v,da.o⟩),(257,⟨fW.A,fW.v,fW.o⟩),(235,⟨b7.A,b7.v,b7.o⟩),(228,⟨cl.A,cl.v,cl.o⟩),(262,⟨cI.A,cI.v,cI.o⟩),(251,⟨cc.A,cc.v,cc.o⟩),(250,⟨aR.A,aR.v,aR.o⟩),(229,⟨dz.A,dz.v,dz.o⟩),(230,⟨cr.A,cr.v,cr.o⟩),(193,⟨df.A,df.v,df.o⟩),(194,⟨fN.A,fN.v,fN.o⟩),(231,⟨fM.A,fM.v,fM.o⟩),(196,⟨eB.A,eB.v,eB.o⟩),(252,⟨fK.A,fK.v,fK.o⟩),(263,⟨cL.A,cL.v,cL.o⟩),(253,⟨dL.A,dL.v,dL.o⟩),(254,⟨fq.A,fq.v,fq.o⟩),(255,⟨fr.A,fr.v,fr.o⟩),(233,⟨cA.A,cA.v,cA.o⟩),(197,⟨cH.A,cH.v,cH.o⟩),(232,⟨bJ.A,bJ.v,bJ.o⟩),(256,⟨bz.A,bz.v,bz.o⟩),(234,⟨eV.A,eV.v,eV.o⟩),(195,⟨ao.A,ao.v,ao.o⟩),(198,⟨ey.A,ey.v,ey.o⟩),(160,⟨eU.A,eU.v,eU.o⟩),(161,⟨cq.A,cq.v,cq.o⟩),(162,⟨cn.A,cn.v,cn.o⟩),(120,⟨bg.A,bg.v,bg.o⟩),(62,⟨eO.A,eO.v,eO.o⟩),(18,⟨bW.A,bW.v,bW.o⟩),(23,⟨bf.A,bf.v,bf.o⟩),(50,⟨aI.A,aI.v,aI.o⟩),(245,⟨b6.A,b6.v,b6.o⟩),(105,⟨dR.A,dR.v,dR.o⟩),(246,⟨dy.A,dy.v,dy.o⟩),(225,⟨fY.A,fY.v,fY.o⟩),(190,⟨cV.A,cV.v,cV.o⟩),(223,⟨bN.A,bN.v,bN.o⟩),(217,⟨dx.A,dx.v,dx.o⟩),(215,⟨bS.A,bS.v,bS.o⟩),(189,⟨bE.A,bE.v,bE.o⟩),(150,⟨dn.A,dn.v,dn.o⟩),(149,⟨fe.A,fe.v,fe.o⟩),(188,⟨az.A,az.v,az.o⟩),(148,⟨aP.A,aP.v,aP.o⟩),(103,⟨dK.A,dK.v,dK.o⟩),(106,⟨dD.A,dD.v,dD.o⟩),(108,⟨fa.A,fa.v,fa.o⟩),(152,⟨aD.A,aD.v,aD.o⟩),(107,⟨bd.A,bd.v,bd.o⟩),(49,⟨dc.A,dc.v,dc.o⟩),(151,⟨bQ.A,bQ.v,bQ.o⟩),(104,⟨bC.A,bC.v,bC.o⟩),(47,⟨fb.A,fb.v,fb.o⟩),(48,⟨gO.A,gO.v,gO.o⟩),(51,⟨ck.A,ck.v,ck.o⟩),(55,⟨aT.A,aT.v,aT.o⟩),(54,⟨fH.A,fH.v,fH.o⟩),(53,⟨bR.A,bR.v,bR.o⟩),(14,⟨eG.A,eG.v,eG.o⟩),(52,⟨gg.A,gg.v,gg.o⟩),(13,⟨bF.A,bF.v,bF.o⟩),(175,⟨cg.A,cg.v,cg.o⟩),(142,⟨gL.A,gL.v,gL.o⟩),(95,⟨cu.A,cu.v,cu.o⟩),(96,⟨eK.A,eK.v,eK.o⟩),(41,⟨bh.A,bh.v,bh.o⟩),(42,⟨ba.A,ba.v,ba.o⟩),(82,⟨eZ.A,eZ.v,eZ.o⟩),(97,⟨cm.A,cm.v,cm.o⟩),(43,⟨dF.A,dF.v,dF.o⟩),(98,⟨cF.A,cF.v,cF.o⟩),(44,⟨gD.A,gD.v,gD.o⟩),(143,⟨bu.A,bu.v,bu.o⟩),(144,⟨aO.A,aO.v,aO.o⟩),(99,⟨aH.A,aH.v,aH.o⟩),(176,⟨fQ.A,fQ.v,fQ.o⟩),(259,⟨slices_Sort_int.A,slices_Sort_int.v,slices_Sort_int.o⟩),(260,⟨slices_Compact_int.A,slices_Compact_int.v,slices_Compact_int.o⟩),(258,⟨cK.A,cK.v,cK.o⟩),(240,⟨bn.A,bn.v,bn.o⟩),(216,⟨cz.A,cz.v,cz.o⟩),(239,⟨ay.A,ay.v,ay.o⟩),(209,⟨bD.A,bD.v,bD.o⟩),(242,⟨cO.A,cO.v,cO.o⟩),(241,⟨dY.A,dY.v,dY.o⟩),(210,⟨bo.A,bo.v,bo.o⟩),(243,⟨fO.A,fO.v,fO.o⟩),(212,⟨fT.A,fT.v,fT.o⟩),(261,⟨cv.A,cv.v,cv.o⟩),(244,⟨dC.A,dC.v,dC.o⟩),(214,⟨ff.A,ff.v,ff.o⟩),(213,⟨cR.A,cR.v,cR.o⟩),(211,⟨ax.A,ax.v,ax.o⟩),(177,⟨dS.A,dS.v,dS.o⟩),(181,⟨eT.A,eT.v,eT.o⟩),(180,⟨cE.A,cE.v,cE.o⟩),(218,⟨gh.A,gh.v,gh.o⟩),(219,⟨gl.A,gl.v,gl.o⟩),(247,⟨cM.A,cM.v,cM.o⟩),(220,⟨dJ.A,dJ.v,dJ.o⟩),(221,⟨fm.A,fm.v,fm.o⟩),(222,⟨fl.A,fl.v,fl.o⟩),(136,⟨iW.A,iW.v,iW.o⟩),(183,⟨cG.A,cG.v,cG.o⟩),(186,⟨bw.A,bw.v,bw.o⟩),(182,⟨aE.A,aE.v,aE.o⟩),(184,⟨bK.A,bK.v,bK.o⟩),(185,⟨cN.A,cN.v,cN.o⟩),(179,⟨bb.A,bb.v,bb.o⟩),(178,⟨bp.A,bp.v,bp.o⟩),(224,⟨iD.A,iD.v,iD.o⟩),(187,⟨fy.A,fy.v,fy.o⟩),(145,⟨dH.A,dH.v,dH.o⟩),(146,⟨aJ.A,aJ.v,aJ.o⟩),(100,⟨aM.A,aM.v,aM.o⟩),(45,⟨eS.A,eS.v,eS.o⟩),(11,⟨bx.A,bx.v,bx.o⟩),(133,⟨dN.A,dN.v,dN.o⟩),(205,⟨jO.A,jO.v,jO.o⟩),(169,⟨jn.A,jn.v,jn.o⟩),(134,⟨bt.A,bt.v,bt.o⟩),(102,⟨cU.A,cU.v,cU.o⟩),(147,⟨gS.A,gS.v,gS.o⟩),(101,⟨bO.A,bO.v,bO.o⟩),(46,⟨fu.A,fu.v,fu.o⟩),(12,⟨il.A,il.v,il.o⟩),(135,⟨dP.A,dP.v,dP.o⟩),(132,⟨gF.A,gF.v,gF.o⟩),(83,⟨eM.A,eM.v,eM.o⟩),(25,⟨dm.A,dm.v,dm.o⟩),(202,⟨gj.A,gj.v,gj.o⟩),(237,⟨ir.A,ir.v,ir.o⟩),(201,⟨dW.A,dW.v,dW.o⟩),(164,⟨im.A,im.v,im.o⟩),(123,⟨dQ.A,dQ.v,dQ.o⟩),(67,⟨fv.A,fv.v,fv.o⟩),(30,⟨cZ.A,cZ.v,cZ.o⟩),(68,⟨gR.A,gR.v,gR.o⟩),(69,⟨iz.A,iz.v,iz.o⟩),(124,⟨fo.A,fo.v,fo.o⟩),(70,⟨iq.A,iq.v,iq.o⟩),(20,⟨eP.A,eP.v,eP.o⟩),(165,⟨eC.A,eC.v,eC.o⟩),(125,⟨eF.A,eF.v,eF.o⟩),(71,⟨gx.A,gx.v,gx.o⟩),(33,⟨dZ.A,dZ.v,dZ.o⟩),(126,⟨gv.A,gv.v,gv.o⟩),(72,⟨iK.A,iK.v,iK.o⟩),(21,⟨gk.A,gk.v,gk.o⟩),(166,⟨eE.A,eE.v,eE.o⟩),(127,⟨eA.A,eA.v,eA.o⟩),(73,⟨gr.A,gr.v,gr.o⟩),(34,⟨dG.A,dG.v,dG.o⟩),(128,⟨gw.A,gw.v,gw.o⟩),(74,⟨iL.A,iL.v,iL.o⟩),(22,⟨fV.A,fV.v,fV.o⟩),(5,⟨eX.A,eX.v,eX.o⟩),(26,⟨iP.A,iP.v,iP.o⟩),(28,⟨fj.A,fj.v,fj.o⟩),(27,⟨dE.A,dE.v,dE.o⟩),(29,⟨dj.A,dj.v,dj.o⟩),(84,⟨jt.A,jt.v,jt.o⟩),(31,⟨gB.A,gB.v,gB.o⟩),(32,⟨iE.A,iE.v,iE.o⟩),(6,⟨fA.A,fA.v,fA.o⟩),(137,⟨dq.A,dq.v,dq.o⟩),(85,⟨jI.A,jI.v,jI.o⟩),(35,⟨ic.A,ic.v,ic.o⟩),(37,⟨ib.A,ib.v,ib.o⟩),(7,⟨eQ.A,eQ.v,eQ.o⟩)]
def EH:List (Nat×Nat):=[(191,12),(153,12),(109,27),(56,12),(57,12),(110,12),(58,12),(17,30),(200,14),(236,18),(199,23),(163,13),(121,23),(63,9),(36,22),(64,17),(65,11),(122,9),(66,12),(19,35),(24,14),(116,34),(117,12),(61,22),(238,37),(60,15),(208,5),(174,16),(207,43),(173,41),(141,33),(192,27),(154,30),(129,5),(113,16),(111,72),(112,25),(114,18),(156,27),(155,27),(115,20),(59,40),(75,55),(130,18),(76,26),(77,11),(79,15),(168,34),(203,21),(167,40),(131,37),(78,27),(80,35),(81,4),(157,21),(118,17),(119,18),(158,60),(159,45),(226,11),(248,11),(249,21),(227,30),(257,11),(235,32),(228,39),(262,31),(251,30),(250,83),(229,30),(230,18),(193,50),(194,11),(231,14),(196,15),(252,13),(263,5),(253,11),(254,11),(255,11),(233,52),(197,18),(232,82),(256,29),(234,53),(195,133),(198,28),(160,71),(161,57),(162,31),(120,114),(62,53),(18,26),(23,112),(50,15),(245,9),(105,5),(246,13),(225,5),(190,16),(223,5),(217,65),(215,9),(189,39),(150,11),(149,6),(188,19),(148,9),(103,13),(106,5),(108,6),(152,19),(107,9),(49,6),(151,27),(104,28),(47,72),(48,25),(51,18),(55,8),(54,24),(53,26),(14,18),(52,20),(13,40),(175,8),(142,8),(95,23),(96,11),(41,20),(42,5),(82,60),(97,16),(43,23),(98,29),(44,9),(143,57),(144,19),(99,28),(176,9),(259,1),(260,1),(258,32),(240,26),(216,33),(239,56),(209,36),(242,9),(241,34),(210,38),(243,3),(212,8),(261,19),(244,9),(214,8),(213,14),(211,42),(177,18),(181,11),(180,17),(218,10),(219,13),(247,5),(220,11),(221,11),(222,11),(136,4),(183,60),(186,20),(182,85),(184,29),(185,28),(179,81),(178,51),(224,15),(187,34),(145,63),(146,11),(100,66),(45,30),(11,66),(133,11),(205,51),(169,30),(134,48),(102,33),(147,34),(101,43),(46,37),(12,27),(135,33),(132,26),(83,84),(25,22),(202,20),(237,26),(201,27),(164,17),(123,27),(67,11),(30,26),(68,25),(69,15),(124,11),(70,16),(20,51),(165,58),(125,44),(71,10),(33,19),(126,10),(72,10),(21,22),(166,70),(127,52),(73,12),(34,21),(128,12),(74,12),(22,30),(5,104),(26,12),(28,23),(27,46),(29,44),(84,20),(31,27),(32,34),(6,135),(137,40),(85,9),(35,26),(37,27),(7,61)]
def D2:List (Nat×aa.Mode):=[(203,.take),(251,.edit),(250,.edit),(259,.edit),(260,.take),(211,.take),(132,.take),(83,.take),(165,.edit),(125,.edit),(71,.edit),(33,.edit),(126,.edit),(72,.edit),(21,.edit),(32,.edit)]
def PL:bA C:=⟨fun f=>lookup f Ck,fun f=>(lookup f EH).getD 0,fun f=>(lookup f D2).getD aa.Mode.read,[],[],[]⟩
end
end Go.Proofs.YtmapddgocpkgeaaGreat.Ev
