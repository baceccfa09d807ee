/- The program's types for the evaluator, looked up, and the table of calls. No conditions. -/
import Derived.Test.YtmapddgocpkgeaaGreatLibC
import Derived.WalkKit
import Derived.Test.YtmapddgocpkgeaaGreatProg
import Derived.Test.YtmapddgocpkgeaaGreatShelf
namespace Go.Proofs.YtmapddgocpkgeaaGreat.Ev
open Go.Proofs.YtmapddgocpkgeaaGreat.aa Go.RowKit
set_option linter.unusedVariables false
set_option maxRecDepth 100000
noncomputable section
structure iQ where
 f0:Int
 f1:Int
 f2:Int
def Bn:iQ:=⟨(0:Int),(0:Int),(0:Int)⟩
structure aq where
 f0:Int
 f1:Int
 f2:Int
 f3:iQ
def Ad:aq:=⟨(0:Int),(0:Int),(0:Int),Bn⟩
structure az where
 f0:List aq
 f1:iQ
def Ab:az:=⟨([]:List aq),Bn⟩
structure fY where
 f0:Int
 f1:Int
def CZ:fY:=⟨(0:Int),(0:Int)⟩
structure aM where
 f0:Int
 f1:Int
 f2:Int
def CL:aM:=⟨(0:Int),(0:Int),(0:Int)⟩
structure iE where
 f0:Int
 f1:Int
 f2:Int
 f3:iQ
def Cw:iE:=⟨(0:Int),(0:Int),(0:Int),Bn⟩
structure fK where
 f0:List iE
 f1:iQ
def CA:fK:=⟨([]:List iE),Bn⟩
structure Ct where
 f0:List fK
def DB:Ct:=⟨([]:List fK)⟩
structure B4 where
 f0:Int
 f1:Int
 f2:Int
 f3:Int
def DF:B4:=⟨(0:Int),(0:Int),(0:Int),(0:Int)⟩
structure Cl where
 f0:Int
 f1:Int
def DA:Cl:=⟨(0:Int),(0:Int)⟩
structure B9 where
 f0:List Int
def z32:B9:=⟨([]:List Int)⟩
structure Cd where
 f0:Int
 f1:B9
def DG:Cd:=⟨(0:Int),z32⟩
structure Cz where
 f0:Ct
 f1:List Int
 f2:List Int
 f3:Int
 f4:B4
 f5:Cl
 f6:Cd
 f7:Int
def DH:Cz:=⟨DB,([]:List Int),([]:List Int),(0:Int),DF,DA,DG,(0:Int)⟩
abbrev wr (n:Int):Int:=IntKind.wrap .i64 n
abbrev eG (xs:List Int) (i:Int):Int:=xs.getD i.toNat (0:Int)
abbrev CP (xs:List Bool) (i:Int):Bool:=xs.getD i.toNat false
abbrev DD (xs:List (List Int)) (i:Int):List Int:=xs.getD i.toNat ([]:List Int)
abbrev ah (xs:List aq) (i:Int):aq:=xs.getD i.toNat Ad
abbrev aV (xs:List az) (i:Int):az:=xs.getD i.toNat Ab
abbrev mT (xs:List fY) (i:Int):fY:=xs.getD i.toNat CZ
abbrev gC (xs:List aM) (i:Int):aM:=xs.getD i.toNat CL
abbrev rD (xs:List iE) (i:Int):iE:=xs.getD i.toNat Cw
abbrev nT (xs:List fK) (i:Int):fK:=xs.getD i.toNat CA
def BY:List (Nat×(Σ T:Type,T)):=[
 (3,⟨Int,(0:Int)⟩),
 (4,⟨Bool,false⟩),
 (27,⟨List Int,([]:List Int)⟩),
 (204,⟨aq,Ad⟩),
 (164,⟨az,Ab⟩),
 (173,⟨fY,CZ⟩),
 (179,⟨aM,CL⟩),
 (249,⟨iE,Cw⟩),
 (191,⟨fK,CA⟩)]
def U:gD:=⟨fun e=>(B3 BY e).1,fun e=>(B3 BY e).2⟩
def C7:List (Σ e,Cq U e):=[
 ⟨3,⟨fun(x:Int)=> .int .i64 x,fun v=>(match v with | .int .i64 y1=>some (y1:Int) | _=>none:Option Int)⟩⟩,
 ⟨4,⟨fun(x:Bool)=> .bool x,fun v=>(match v with | .bool y1=>some (y1:Bool) | _=>none:Option Bool)⟩⟩,
 ⟨27,⟨fun(x:List Int)=> .sl 3 x,fun v=>(match v with | .sl 3 y1=>some (y1:List Int) | _=>none:Option (List Int))⟩⟩,
 ⟨204,⟨fun(x:aq)=> .agg [.int .i64 x.f0,.int .i64 x.f1,.int .i64 x.f2,.int .i64 x.f3.f0,.int .i64 x.f3.f1,.int .i64 x.f3.f2],fun v=>(match v with | .agg [.int .i64 y1,.int .i64 y2,.int .i64 y3,.int .i64 y4,.int .i64 y5,.int .i64 y6]=>some ((⟨y1,y2,y3,(⟨y4,y5,y6⟩:iQ)⟩:aq):aq) | _=>none:Option aq)⟩⟩,
 ⟨164,⟨fun(x:az)=> .agg [.sl 204 x.f0,.int .i64 x.f1.f0,.int .i64 x.f1.f1,.int .i64 x.f1.f2],fun v=>(match v with | .agg [.sl 204 y1,.int .i64 y2,.int .i64 y3,.int .i64 y4]=>some ((⟨y1,(⟨y2,y3,y4⟩:iQ)⟩:az):az) | _=>none:Option az)⟩⟩,
 ⟨173,⟨fun(x:fY)=> .agg [.int .i64 x.f0,.int .i64 x.f1],fun v=>(match v with | .agg [.int .i64 y1,.int .i64 y2]=>some ((⟨y1,y2⟩:fY):fY) | _=>none:Option fY)⟩⟩,
 ⟨179,⟨fun(x:aM)=> .agg [.int .i64 x.f0,.int .i64 x.f1,.int .i64 x.f2],fun v=>(match v with | .agg [.int .i64 y1,.int .i64 y2,.int .i64 y3]=>some ((⟨y1,y2,y3⟩:aM):aM) | _=>none:Option aM)⟩⟩,
 ⟨249,⟨fun(x:iE)=> .agg [.int .i64 x.f0,.int .i64 x.f1,.int .i64 x.f2,.int .i64 x.f3.f0,.int .i64 x.f3.f1,.int .i64 x.f3.f2],fun v=>(match v with | .agg [.int .i64 y1,.int .i64 y2,.int .i64 y3,.int .i64 y4,.int .i64 y5,.int .i64 y6]=>some ((⟨y1,y2,y3,(⟨y4,y5,y6⟩:iQ)⟩:iE):iE) | _=>none:Option iE)⟩⟩,
 ⟨191,⟨fun(x:fK)=> .agg [.sl 249 x.f0,.int .i64 x.f1.f0,.int .i64 x.f1.f1,.int .i64 x.f1.f2],fun v=>(match v with | .agg [.sl 249 y1,.int .i64 y2,.int .i64 y3,.int .i64 y4]=>some ((⟨y1,(⟨y2,y3,y4⟩:iQ)⟩:fK):fK) | _=>none:Option fK)⟩⟩]
def r8:List (Nat×Ty U):=[
 (3,.int .i64),
 (4,.bool),
 (24,.slice 164),
 (26,.struct [(0,24)] [.own true 164 ([]:List az)]),
 (27,.slice 3),
 (29,.struct [(0,3),(1,3),(2,3),(3,3)] [.int .i64 (0:Int),.int .i64 (0:Int),.int .i64 (0:Int),.int .i64 (0:Int)]),
 (31,.struct [(0,3),(1,3)] [.int .i64 (0:Int),.int .i64 (0:Int)]),
 (33,.struct [(0,27)] [.own true 3 ([]:List Int)]),
 (35,.struct [(0,3),(1,33)] [.int .i64 (0:Int),.own true 3 ([]:List Int)]),
 (37,.struct [(0,26),(1,27),(2,27),(3,3),(4,29),(8,31),(10,35),(12,3)] [.own true 164 ([]:List az),.own true 3 ([]:List Int),.own true 3 ([]:List Int),.int .i64 (0:Int),.int .i64 (0:Int),.int .i64 (0:Int),.int .i64 (0:Int),.int .i64 (0:Int),.int .i64 (0:Int),.int .i64 (0:Int),.int .i64 (0:Int),.own true 3 ([]:List Int),.int .i64 (0:Int)]),
 (43,.slice 4),
 (48,.slice 191),
 (50,.struct [(0,48)] [.own true 191 ([]:List fK)]),
 (51,.struct [(0,3),(1,3),(2,3),(3,3)] [.int .i64 (0:Int),.int .i64 (0:Int),.int .i64 (0:Int),.int .i64 (0:Int)]),
 (52,.struct [(0,3),(1,3)] [.int .i64 (0:Int),.int .i64 (0:Int)]),
 (53,.struct [(0,27)] [.own true 3 ([]:List Int)]),
 (55,.struct [(0,3),(1,53)] [.int .i64 (0:Int),.own true 3 ([]:List Int)]),
 (57,.struct [(0,50),(1,27),(2,27),(3,3),(4,51),(8,52),(10,55),(12,3)] [.own true 191 ([]:List fK),.own true 3 ([]:List Int),.own true 3 ([]:List Int),.int .i64 (0:Int),.int .i64 (0:Int),.int .i64 (0:Int),.int .i64 (0:Int),.int .i64 (0:Int),.int .i64 (0:Int),.int .i64 (0:Int),.int .i64 (0:Int),.own true 3 ([]:List Int),.int .i64 (0:Int)]),
 (91,.slice 27),
 (93,.struct [(0,27),(1,3),(2,91),(3,3)] [.own true 3 ([]:List Int),.int .i64 (0:Int),.own true 27 ([]:List (List Int)),.int .i64 (0:Int)]),
 (136,.ptr),
 (158,.slice 204),
 (161,.struct [(0,3),(1,3),(2,3)] [.int .i64 (0:Int),.int .i64 (0:Int),.int .i64 (0:Int)]),
 (164,.struct [(0,158),(1,161)] [.own true 204 ([]:List aq),.int .i64 (0:Int),.int .i64 (0:Int),.int .i64 (0:Int)]),
 (167,.int .u64),
 (169,.ptr),
 (170,.slice 173),
 (173,.struct [(0,3),(1,3)] [.int .i64 (0:Int),.int .i64 (0:Int)]),
 (174,.slice 179),
 (176,.struct [(0,174),(1,27)] [.own true 179 ([]:List aM),.own true 3 ([]:List Int)]),
 (179,.struct [(0,3),(1,3),(2,3)] [.int .i64 (0:Int),.int .i64 (0:Int),.int .i64 (0:Int)]),
 (188,.slice 249),
 (189,.struct [(0,3),(1,3),(2,3)] [.int .i64 (0:Int),.int .i64 (0:Int),.int .i64 (0:Int)]),
 (191,.struct [(0,188),(1,189)] [.own true 249 ([]:List iE),.int .i64 (0:Int),.int .i64 (0:Int),.int .i64 (0:Int)]),
 (204,.struct [(0,3),(1,3),(2,3),(3,161)] [.int .i64 (0:Int),.int .i64 (0:Int),.int .i64 (0:Int),.int .i64 (0:Int),.int .i64 (0:Int),.int .i64 (0:Int)]),
 (205,.ptr),
 (206,.arr 8 4 [.bool false,.bool false,.bool false,.bool false,.bool false,.bool false,.bool false,.bool false]),
 (208,.struct [(0,176),(2,3),(3,3),(4,3),(5,27),(6,206),(14,27)] [.own true 179 ([]:List aM),.own true 3 ([]:List Int),.int .i64 (0:Int),.int .i64 (0:Int),.int .i64 (0:Int),.own true 3 ([]:List Int),.bool false,.bool false,.bool false,.bool false,.bool false,.bool false,.bool false,.bool false,.own true 3 ([]:List Int)]),
 (221,.struct [(0,27),(1,27),(2,27),(3,27),(4,27),(5,3),(6,4)] [.own true 3 ([]:List Int),.own true 3 ([]:List Int),.own true 3 ([]:List Int),.own true 3 ([]:List Int),.own true 3 ([]:List Int),.int .i64 (0:Int),.bool false]),
 (223,.struct [(0,221),(7,174),(8,27),(9,27),(10,3),(11,3)] [.own true 3 ([]:List Int),.own true 3 ([]:List Int),.own true 3 ([]:List Int),.own true 3 ([]:List Int),.own true 3 ([]:List Int),.int .i64 (0:Int),.bool false,.own true 179 ([]:List aM),.own true 3 ([]:List Int),.own true 3 ([]:List Int),.int .i64 (0:Int),.int .i64 (0:Int)]),
 (225,.ptr),
 (246,.ptr),
 (249,.struct [(0,3),(1,3),(2,3),(3,189)] [.int .i64 (0:Int),.int .i64 (0:Int),.int .i64 (0:Int),.int .i64 (0:Int),.int .i64 (0:Int),.int .i64 (0:Int)]),
 (252,.ptr),
 (254,.struct [(0,206),(8,206)] [.bool false,.bool false,.bool false,.bool false,.bool false,.bool false,.bool false,.bool false,.bool false,.bool false,.bool false,.bool false,.bool false,.bool false,.bool false,.bool false])]
def oc:List (Nat×Nat):=[(3,8),(4,1),(27,24),(204,48),(164,48),(173,16),(179,24),(249,48),(191,48)]
def uk:List (Nat×Nat):=[(161,3),(204,6)]
def C:Ctx:=⟨U,fun e=>(BR (zn U) C7 e).enc,fun e=>(BR (zn U) C7 e).dec,fun t=>lookup t r8,fun e=>(lookup e oc).getD 0,fun t=>lookup t uk⟩
theorem Dl:vy (fun p:Σ e,Cq U e=>Bt p.1 p.2) C7:=⟨⟨fun _=>rfl,fun _=>rfl,fun _=>rfl,fun v y h=>by dsimp only at h;split at h<;>first | (cases h;rfl) | cases h⟩,
 ⟨fun _=>rfl,fun _=>rfl,fun _=>rfl,fun v y h=>by dsimp only at h;split at h<;>first | (cases h;rfl) | cases h⟩,
 ⟨fun _=>rfl,fun _=>rfl,fun _=>rfl,fun v y h=>by dsimp only at h;split at h<;>first | (cases h;rfl) | cases h⟩,
 ⟨fun _=>rfl,fun _=>rfl,fun _=>rfl,fun v y h=>by dsimp only at h;split at h<;>first | (cases h;rfl) | cases h⟩,
 ⟨fun _=>rfl,fun _=>rfl,fun _=>rfl,fun v y h=>by dsimp only at h;split at h<;>first | (cases h;rfl) | cases h⟩,
 ⟨fun _=>rfl,fun _=>rfl,fun _=>rfl,fun v y h=>by dsimp only at h;split at h<;>first | (cases h;rfl) | cases h⟩,
 ⟨fun _=>rfl,fun _=>rfl,fun _=>rfl,fun v y h=>by dsimp only at h;split at h<;>first | (cases h;rfl) | cases h⟩,
 ⟨fun _=>rfl,fun _=>rfl,fun _=>rfl,fun v y h=>by dsimp only at h;split at h<;>first | (cases h;rfl) | cases h⟩,
 ⟨fun _=>rfl,fun _=>rfl,fun _=>rfl,fun v y h=>by dsimp only at h;split at h<;>first | (cases h;rfl) | cases h⟩,trivial⟩
theorem Dm:vy (fun p:Nat×Ty U=>jC Tryz.prog C p.1 p.2) r8:=⟨yw (by kernel_rfl) (by kernel_rfl),
 Av (by kernel_rfl) (by kernel_rfl),
 iV (by kernel_rfl) (by kernel_rfl),
 cg #[.slice none 0 0] (by kernel_rfl) (by kernel_rfl) (by kernel_rfl) (by kernel_rfl) (by kernel_rfl),
 iV (by kernel_rfl) (by kernel_rfl),
 cg #[.int .i64 0,.int .i64 0,.int .i64 0,.int .i64 0] (by kernel_rfl) (by kernel_rfl) (by kernel_rfl) (by kernel_rfl) (by kernel_rfl),
 cg #[.int .i64 0,.int .i64 0] (by kernel_rfl) (by kernel_rfl) (by kernel_rfl) (by kernel_rfl) (by kernel_rfl),
 cg #[.slice none 0 0] (by kernel_rfl) (by kernel_rfl) (by kernel_rfl) (by kernel_rfl) (by kernel_rfl),
 cg #[.int .i64 0,.slice none 0 0] (by kernel_rfl) (by kernel_rfl) (by kernel_rfl) (by kernel_rfl) (by kernel_rfl),
 cg #[.slice none 0 0,.slice none 0 0,.slice none 0 0,.int .i64 0,.int .i64 0,.int .i64 0,.int .i64 0,.int .i64 0,.int .i64 0,.int .i64 0,.int .i64 0,.slice none 0 0,.int .i64 0] (by kernel_rfl) (by kernel_rfl) (by kernel_rfl) (by kernel_rfl) (by kernel_rfl),
 iV (by kernel_rfl) (by kernel_rfl),
 iV (by kernel_rfl) (by kernel_rfl),
 cg #[.slice none 0 0] (by kernel_rfl) (by kernel_rfl) (by kernel_rfl) (by kernel_rfl) (by kernel_rfl),
 cg #[.int .i64 0,.int .i64 0,.int .i64 0,.int .i64 0] (by kernel_rfl) (by kernel_rfl) (by kernel_rfl) (by kernel_rfl) (by kernel_rfl),
 cg #[.int .i64 0,.int .i64 0] (by kernel_rfl) (by kernel_rfl) (by kernel_rfl) (by kernel_rfl) (by kernel_rfl),
 cg #[.slice none 0 0] (by kernel_rfl) (by kernel_rfl) (by kernel_rfl) (by kernel_rfl) (by kernel_rfl),
 cg #[.int .i64 0,.slice none 0 0] (by kernel_rfl) (by kernel_rfl) (by kernel_rfl) (by kernel_rfl) (by kernel_rfl),
 cg #[.slice none 0 0,.slice none 0 0,.slice none 0 0,.int .i64 0,.int .i64 0,.int .i64 0,.int .i64 0,.int .i64 0,.int .i64 0,.int .i64 0,.int .i64 0,.slice none 0 0,.int .i64 0] (by kernel_rfl) (by kernel_rfl) (by kernel_rfl) (by kernel_rfl) (by kernel_rfl),
 iV (by kernel_rfl) (by kernel_rfl),
 cg #[.slice none 0 0,.int .i64 0,.slice none 0 0,.int .i64 0] (by kernel_rfl) (by kernel_rfl) (by kernel_rfl) (by kernel_rfl) (by kernel_rfl),
 mm (e:=29) (by kernel_rfl) (by kernel_rfl),
 iV (by kernel_rfl) (by kernel_rfl),
 cg #[.int .i64 0,.int .i64 0,.int .i64 0] (by kernel_rfl) (by kernel_rfl) (by kernel_rfl) (by kernel_rfl) (by kernel_rfl),
 cg #[.slice none 0 0,.int .i64 0,.int .i64 0,.int .i64 0] (by kernel_rfl) (by kernel_rfl) (by kernel_rfl) (by kernel_rfl) (by kernel_rfl),
 yw (by kernel_rfl) (by kernel_rfl),
 mm (e:=93) (by kernel_rfl) (by kernel_rfl),
 iV (by kernel_rfl) (by kernel_rfl),
 cg #[.int .i64 0,.int .i64 0] (by kernel_rfl) (by kernel_rfl) (by kernel_rfl) (by kernel_rfl) (by kernel_rfl),
 iV (by kernel_rfl) (by kernel_rfl),
 cg #[.slice none 0 0,.slice none 0 0] (by kernel_rfl) (by kernel_rfl) (by kernel_rfl) (by kernel_rfl) (by kernel_rfl),
 cg #[.int .i64 0,.int .i64 0,.int .i64 0] (by kernel_rfl) (by kernel_rfl) (by kernel_rfl) (by kernel_rfl) (by kernel_rfl),
 iV (by kernel_rfl) (by kernel_rfl),
 cg #[.int .i64 0,.int .i64 0,.int .i64 0] (by kernel_rfl) (by kernel_rfl) (by kernel_rfl) (by kernel_rfl) (by kernel_rfl),
 cg #[.slice none 0 0,.int .i64 0,.int .i64 0,.int .i64 0] (by kernel_rfl) (by kernel_rfl) (by kernel_rfl) (by kernel_rfl) (by kernel_rfl),
 cg #[.int .i64 0,.int .i64 0,.int .i64 0,.int .i64 0,.int .i64 0,.int .i64 0] (by kernel_rfl) (by kernel_rfl) (by kernel_rfl) (by kernel_rfl) (by kernel_rfl),
 mm (e:=208) (by kernel_rfl) (by kernel_rfl),
 AY #[.bool false,.bool false,.bool false,.bool false,.bool false,.bool false,.bool false,.bool false] (by kernel_rfl) (by kernel_rfl) (by kernel_rfl) (by kernel_rfl) (by kernel_rfl) (by kernel_rfl),
 cg #[.slice none 0 0,.slice none 0 0,.int .i64 0,.int .i64 0,.int .i64 0,.slice none 0 0,.bool false,.bool false,.bool false,.bool false,.bool false,.bool false,.bool false,.bool false,.slice none 0 0] (by kernel_rfl) (by kernel_rfl) (by kernel_rfl) (by kernel_rfl) (by kernel_rfl),
 cg #[.slice none 0 0,.slice none 0 0,.slice none 0 0,.slice none 0 0,.slice none 0 0,.int .i64 0,.bool false] (by kernel_rfl) (by kernel_rfl) (by kernel_rfl) (by kernel_rfl) (by kernel_rfl),
 cg #[.slice none 0 0,.slice none 0 0,.slice none 0 0,.slice none 0 0,.slice none 0 0,.int .i64 0,.bool false,.slice none 0 0,.slice none 0 0,.slice none 0 0,.int .i64 0,.int .i64 0] (by kernel_rfl) (by kernel_rfl) (by kernel_rfl) (by kernel_rfl) (by kernel_rfl),
 mm (e:=223) (by kernel_rfl) (by kernel_rfl),
 mm (e:=221) (by kernel_rfl) (by kernel_rfl),
 cg #[.int .i64 0,.int .i64 0,.int .i64 0,.int .i64 0,.int .i64 0,.int .i64 0] (by kernel_rfl) (by kernel_rfl) (by kernel_rfl) (by kernel_rfl) (by kernel_rfl),
 mm (e:=254) (by kernel_rfl) (by kernel_rfl),
 cg #[.bool false,.bool false,.bool false,.bool false,.bool false,.bool false,.bool false,.bool false,.bool false,.bool false,.bool false,.bool false,.bool false,.bool false,.bool false,.bool false] (by kernel_rfl) (by kernel_rfl) (by kernel_rfl) (by kernel_rfl) (by kernel_rfl),trivial⟩
theorem DC:jF Tryz.prog C 3:=iU (.int .i64 0) 1 8 (fun x T h ha=>by have h':(some (.int .i64):Option (Ty U))=some T:=h;cases h';cases ha) (by kernel_rfl) (by kernel_rfl) (by kernel_rfl) (by decide) (by decide) (by kernel_rfl)
theorem DE:jF Tryz.prog C 4:=iU (.bool false) 1 1 (fun x T h ha=>by have h':(some (.bool):Option (Ty U))=some T:=h;cases h';cases ha) (by kernel_rfl) (by kernel_rfl) (by kernel_rfl) (by decide) (by decide) (by kernel_rfl)
theorem De:jF Tryz.prog C 27:=iU (.slice none 0 0) 1 24 (fun x T h ha=>by have h':(some (.slice 3):Option (Ty U))=some T:=h;cases h';cases ha) (by kernel_rfl) (by kernel_rfl) (by kernel_rfl) (by decide) (by decide) (by kernel_rfl)
theorem CO:jF Tryz.prog C 164:=iU (.agg #[.slice none 0 0,.int .i64 0,.int .i64 0,.int .i64 0]) 4 48 (fun x T _ _=>⟨_,rfl⟩) (by kernel_rfl) (by kernel_rfl) (by kernel_rfl) (by decide) (by decide) (by kernel_rfl)
theorem CH:jF Tryz.prog C 173:=iU (.agg #[.int .i64 0,.int .i64 0]) 2 16 (fun x T _ _=>⟨_,rfl⟩) (by kernel_rfl) (by kernel_rfl) (by kernel_rfl) (by decide) (by decide) (by kernel_rfl)
theorem CJ:jF Tryz.prog C 179:=iU (.agg #[.int .i64 0,.int .i64 0,.int .i64 0]) 3 24 (fun x T _ _=>⟨_,rfl⟩) (by kernel_rfl) (by kernel_rfl) (by kernel_rfl) (by decide) (by decide) (by kernel_rfl)
theorem CD:jF Tryz.prog C 191:=iU (.agg #[.slice none 0 0,.int .i64 0,.int .i64 0,.int .i64 0]) 4 48 (fun x T _ _=>⟨_,rfl⟩) (by kernel_rfl) (by kernel_rfl) (by kernel_rfl) (by decide) (by decide) (by kernel_rfl)
theorem CS:jF Tryz.prog C 204:=iU (.agg #[.int .i64 0,.int .i64 0,.int .i64 0,.int .i64 0,.int .i64 0,.int .i64 0]) 6 48 (fun x T _ _=>⟨_,rfl⟩) (by kernel_rfl) (by kernel_rfl) (by kernel_rfl) (by decide) (by decide) (by kernel_rfl)
theorem CV:jF Tryz.prog C 249:=iU (.agg #[.int .i64 0,.int .i64 0,.int .i64 0,.int .i64 0,.int .i64 0,.int .i64 0]) 6 48 (fun x T _ _=>⟨_,rfl⟩) (by kernel_rfl) (by kernel_rfl) (by kernel_rfl) (by decide) (by decide) (by kernel_rfl)
theorem Dc:vy (fun p:Nat×Ty U=>∀e,p.2= .slice e→jF Tryz.prog C e) r8:=⟨(fun e h=>by cases h),(fun e h=>by cases h),(fun e h=>by cases h;exact CO),(fun e h=>by cases h),(fun e h=>by cases h;exact DC),(fun e h=>by cases h),(fun e h=>by cases h),(fun e h=>by cases h),(fun e h=>by cases h),(fun e h=>by cases h),(fun e h=>by cases h;exact DE),(fun e h=>by cases h;exact CD),(fun e h=>by cases h),(fun e h=>by cases h),(fun e h=>by cases h),(fun e h=>by cases h),(fun e h=>by cases h),(fun e h=>by cases h),(fun e h=>by cases h;exact De),(fun e h=>by cases h),(fun e h=>by cases h),(fun e h=>by cases h;exact CS),(fun e h=>by cases h),(fun e h=>by cases h),(fun e h=>by cases h),(fun e h=>by cases h),(fun e h=>by cases h;exact CH),(fun e h=>by cases h),(fun e h=>by cases h;exact CJ),(fun e h=>by cases h),(fun e h=>by cases h),(fun e h=>by cases h;exact CV),(fun e h=>by cases h),(fun e h=>by cases h),(fun e h=>by cases h),(fun e h=>by cases h),(fun e h=>by cases h),(fun e h=>by cases h),(fun e h=>by cases h),(fun e h=>by cases h),(fun e h=>by cases h),(fun e h=>by cases h),(fun e h=>by cases h),(fun e h=>by cases h),(fun e h=>by cases h),trivial⟩
def xm (x0 x1 x2 y0 y1 y2:Int):Bool:=(x0==y0)&&((x1==y1)&&((x2==y2)&&true))
theorem A4 (d:Nat) (w:World) (k0 k1 k2:IntKind) (x0 x1 x2 y0 y1 y2:Int):(Op.equalIn (d+2) 161 (.agg #[.int k0 x0,.int k1 x1,.int k2 x2]) (.agg #[.int k0 y0,.int k1 y1,.int k2 y2])).run Tryz.prog w= .ok (xm x0 x1 x2 y0 y1 y2) w:=by
 refine wz Tryz.underlying161 (by kernel_rfl) ?_;refine mD (by rfl) (by go_simp;rfl) (by go_simp;rfl) (by go_simp) ?_;refine mD (by rfl) (by go_simp;rfl) (by go_simp;rfl) (by go_simp) ?_;refine mD (by rfl) (by go_simp;rfl) (by go_simp;rfl) (by go_simp) ?_;exact eq_nil
theorem CC:By Tryz.prog 161 3:=fun ps w h=>match ps,h with
 | [p0,p1,p2],_=>⟨by
  have e:=A4 9998 w p0.1 p1.1 p2.1 p0.2.1 p1.2.1 p2.2.1 p0.2.2 p1.2.2 p2.2.2;have hb:∀a b:Int,(a==b)=decide (a=b):=fun _ _=>rfl;exact e.trans (by simp[xm,List.all,hb]),by kernel_rfl⟩
def Be (x0 x1 x2 x3 x4 x5 y0 y1 y2 y3 y4 y5:Int):Bool:=(x0==y0)&&((x1==y1)&&((x2==y2)&&((xm x3 x4 x5 y3 y4 y5)&&true)))
theorem Cm (d:Nat) (w:World) (k0 k1 k2 k3 k4 k5:IntKind) (x0 x1 x2 x3 x4 x5 y0 y1 y2 y3 y4 y5:Int):(Op.equalIn (d+3) 204 (.agg #[.int k0 x0,.int k1 x1,.int k2 x2,.int k3 x3,.int k4 x4,.int k5 x5]) (.agg #[.int k0 y0,.int k1 y1,.int k2 y2,.int k3 y3,.int k4 y4,.int k5 y5])).run Tryz.prog w= .ok (Be x0 x1 x2 x3 x4 x5 y0 y1 y2 y3 y4 y5) w:=by
 refine wz Tryz.underlying204 (by kernel_rfl) ?_;refine mD (by rfl) (by go_simp;rfl) (by go_simp;rfl) (by go_simp) ?_;refine mD (by rfl) (by go_simp;rfl) (by go_simp;rfl) (by go_simp) ?_;refine mD (by rfl) (by go_simp;rfl) (by go_simp;rfl) (by go_simp) ?_;refine mD (a:= .agg #[.int k3 x3,.int k4 x4,.int k5 x5]) (b:= .agg #[.int k3 y3,.int k4 y4,.int k5 y5]) (by rfl) (by go_simp) (by go_simp) (A4 d w k3 k4 k5 x3 x4 x5 y3 y4 y5) ?_;exact eq_nil
theorem CW:By Tryz.prog 204 6:=fun ps w h=>match ps,h with
 | [p0,p1,p2,p3,p4,p5],_=>⟨by
  have e:=Cm 9997 w p0.1 p1.1 p2.1 p3.1 p4.1 p5.1 p0.2.1 p1.2.1 p2.2.1 p3.2.1 p4.2.1 p5.2.1 p0.2.2 p1.2.2 p2.2.2 p3.2.2 p4.2.2 p5.2.2;have hb:∀a b:Int,(a==b)=decide (a=b):=fun _ _=>rfl;exact e.trans (by simp[xm,Be,List.all,hb]),by kernel_rfl⟩
theorem Ds:vy (fun p:Nat×Nat=>By Tryz.prog p.1 p.2) uk:=⟨CC,CW,trivial⟩
theorem G:aa.Good Tryz.prog C:=BC (U:=U) (tab:=C7) (r8:=r8) (oc:=oc) (uk:=uk) rfl Dl Dm (fun t e h=>Dc.mem _ (mM h) e rfl) Ds
abbrev Pg:Program:=Tryz.prog
theorem mixed:Pg.follows .mixedOrders=true:=by kernel_rfl
abbrev fu.A:=Int
def fu.v:fu.A→PV U:=fun r=> .int .i64 r
def fu.o:fu.A→List (PV U):=fun r=>[]
abbrev fU.A:=Int
def fU.v:fU.A→PV U:=fun r=> .int .i64 r
def fU.o:fU.A→List (PV U):=fun r=>[]
abbrev db.A:=Int
def db.v:db.A→PV U:=fun r=> .int .i64 r
def db.o:db.A→List (PV U):=fun r=>[]
abbrev dQ.A:=Int
def dQ.v:dQ.A→PV U:=fun r=> .int .i64 r
def dQ.o:dQ.A→List (PV U):=fun r=>[]
abbrev eS.A:=Int
def eS.v:eS.A→PV U:=fun r=> .int .i64 r
def eS.o:eS.A→List (PV U):=fun r=>[]
abbrev eF.A:=Int
def eF.v:eF.A→PV U:=fun r=> .int .i64 r
def eF.o:eF.A→List (PV U):=fun r=>[]
abbrev fV.A:=Int
def fV.v:fV.A→PV U:=fun r=> .int .i64 r
def fV.o:fV.A→List (PV U):=fun r=>[]
abbrev fS.A:=Int
def fS.v:fS.A→PV U:=fun r=> .int .i64 r
def fS.o:fS.A→List (PV U):=fun r=>[]
abbrev gm.A:=Int×Int×Int
def gm.v:gm.A→PV U:=fun r=> .agg [.int .i64 r.1,.int .i64 r.2.1,.int .i64 r.2.2]
def gm.o:gm.A→List (PV U):=fun r=>[]
abbrev gB.A:=Int×Int×Int×Int×Int×Int
def gB.v:gB.A→PV U:=fun r=> .agg [.int .i64 r.1,.int .i64 r.2.1,.int .i64 r.2.2.1,.int .i64 r.2.2.2.1,.int .i64 r.2.2.2.2.1,.int .i64 r.2.2.2.2.2]
def gB.o:gB.A→List (PV U):=fun r=>[]
abbrev dF.A:=(List aq)
def dF.v:dF.A→PV U:=fun r=> .own true 204 r
def dF.o:dF.A→List (PV U):=fun r=>[]
abbrev fO.A:=(List aq)×Int×Int×Int
def fO.v:fO.A→PV U:=fun r=> .agg [.own true 204 r.1,.int .i64 r.2.1,.int .i64 r.2.2.1,.int .i64 r.2.2.2]
def fO.o:fO.A→List (PV U):=fun r=>[]
abbrev dM.A:=(List az)
def dM.v:dM.A→PV U:=fun r=> .own true 164 r
def dM.o:dM.A→List (PV U):=fun r=>[]
abbrev dL.A:=(List az)
def dL.v:dL.A→PV U:=fun r=> .agg [.own true 164 r]
def dL.o:dL.A→List (PV U):=fun r=>[]
abbrev dC.A:=(List Int)
def dC.v:dC.A→PV U:=fun r=> .own true 3 r
def dC.o:dC.A→List (PV U):=fun r=>[]
abbrev ga.A:=Int×Int×Int×Int
def ga.v:ga.A→PV U:=fun r=> .agg [.int .i64 r.1,.int .i64 r.2.1,.int .i64 r.2.2.1,.int .i64 r.2.2.2]
def ga.o:ga.A→List (PV U):=fun r=>[]
abbrev gl.A:=Int×Int
def gl.v:gl.A→PV U:=fun r=> .agg [.int .i64 r.1,.int .i64 r.2]
def gl.o:gl.A→List (PV U):=fun r=>[]
abbrev eD.A:=(List Int)
def eD.v:eD.A→PV U:=fun r=> .agg [.own true 3 r]
def eD.o:eD.A→List (PV U):=fun r=>[]
abbrev gk.A:=Int×(List Int)
def gk.v:gk.A→PV U:=fun r=> .agg [.int .i64 r.1,.own true 3 r.2]
def gk.o:gk.A→List (PV U):=fun r=>[]
abbrev eQ.A:=(List az)×(List Int)×(List Int)×Int×Int×Int×Int×Int×Int×Int×Int×(List Int)×Int
def eQ.v:eQ.A→PV U:=fun r=> .agg [.own true 164 r.1,.own true 3 r.2.1,.own true 3 r.2.2.1,.int .i64 r.2.2.2.1,.int .i64 r.2.2.2.2.1,.int .i64 r.2.2.2.2.2.1,.int .i64 r.2.2.2.2.2.2.1,.int .i64 r.2.2.2.2.2.2.2.1,.int .i64 r.2.2.2.2.2.2.2.2.1,.int .i64 r.2.2.2.2.2.2.2.2.2.1,.int .i64 r.2.2.2.2.2.2.2.2.2.2.1,.own true 3 r.2.2.2.2.2.2.2.2.2.2.2.1,.int .i64 r.2.2.2.2.2.2.2.2.2.2.2.2]
def eQ.o:eQ.A→List (PV U):=fun r=>[]
abbrev eM.A:=Int×Int×Int×Int×Int×Int
def eM.v:eM.A→PV U:=fun r=> .agg [.int .i64 r.1,.int .i64 r.2.1,.int .i64 r.2.2.1,.int .i64 r.2.2.2.1,.int .i64 r.2.2.2.2.1,.int .i64 r.2.2.2.2.2]
def eM.o:eM.A→List (PV U):=fun r=>[]
abbrev aH.A:=Bool
def aH.v:aH.A→PV U:=fun r=> .bool r
def aH.o:aH.A→List (PV U):=fun r=>[]
abbrev dN.A:=Bool
def dN.v:dN.A→PV U:=fun r=> .bool r
def dN.o:dN.A→List (PV U):=fun r=>[]
abbrev cf.A:=Bool
def cf.v:cf.A→PV U:=fun r=> .bool r
def cf.o:cf.A→List (PV U):=fun r=>[]
abbrev fQ.A:=Bool
def fQ.v:fQ.A→PV U:=fun r=> .bool r
def fQ.o:fQ.A→List (PV U):=fun r=>[]
abbrev bt.A:=Bool
def bt.v:bt.A→PV U:=fun r=> .bool r
def bt.o:bt.A→List (PV U):=fun r=>[]
abbrev cO.A:=Bool
def cO.v:cO.A→PV U:=fun r=> .bool r
def cO.o:cO.A→List (PV U):=fun r=>[]
abbrev bu.A:=Int
def bu.v:bu.A→PV U:=fun r=> .int .i64 r
def bu.o:bu.A→List (PV U):=fun r=>[]
abbrev bg.A:=Int×Int×Int
def bg.v:bg.A→PV U:=fun r=> .iB [.int .i64 r.1,.int .i64 r.2.1,.int .i64 r.2.2]
def bg.o:bg.A→List (PV U):=fun r=>[]
abbrev eA.A:=Bool
def eA.v:eA.A→PV U:=fun r=> .bool r
def eA.o:eA.A→List (PV U):=fun r=>[]
abbrev bX.A:=Bool
def bX.v:bX.A→PV U:=fun r=> .bool r
def bX.o:bX.A→List (PV U):=fun r=>[]
abbrev fj.A:=Bool
def fj.v:fj.A→PV U:=fun r=> .bool r
def fj.o:fj.A→List (PV U):=fun r=>[]
abbrev fl.A:=Bool
def fl.v:fl.A→PV U:=fun r=> .bool r
def fl.o:fl.A→List (PV U):=fun r=>[]
abbrev ff.A:=Bool
def ff.v:ff.A→PV U:=fun r=> .bool r
def ff.o:ff.A→List (PV U):=fun r=>[]
abbrev fm.A:=(List Int)
def fm.v:fm.A→PV U:=fun r=> .own true 3 r
def fm.o:fm.A→List (PV U):=fun r=>[]
abbrev bN.A:=Bool
def bN.v:bN.A→PV U:=fun r=> .bool r
def bN.o:bN.A→List (PV U):=fun r=>[]
abbrev fW.A:=Bool
def fW.v:fW.A→PV U:=fun r=> .bool r
def fW.o:fW.A→List (PV U):=fun r=>[]
abbrev eP.A:=Bool
def eP.v:eP.A→PV U:=fun r=> .bool r
def eP.o:eP.A→List (PV U):=fun r=>[]
abbrev cT.A:=(List az)
def cT.v:cT.A→PV U:=fun r=> .agg [.own true 164 r]
def cT.o:cT.A→List (PV U):=fun r=>[]
abbrev fp.A:=Int×(List Int)
def fp.v:fp.A→PV U:=fun r=> .agg [.int .i64 r.1,.own true 3 r.2]
def fp.o:fp.A→List (PV U):=fun r=>[]
abbrev cG.A:=(List az)×(List Int)×(List Int)×Int×Int×Int×Int×Int×Int×Int×Int×(List Int)×Int
def cG.v:cG.A→PV U:=fun r=> .agg [.own true 164 r.1,.own true 3 r.2.1,.own true 3 r.2.2.1,.int .i64 r.2.2.2.1,.int .i64 r.2.2.2.2.1,.int .i64 r.2.2.2.2.2.1,.int .i64 r.2.2.2.2.2.2.1,.int .i64 r.2.2.2.2.2.2.2.1,.int .i64 r.2.2.2.2.2.2.2.2.1,.int .i64 r.2.2.2.2.2.2.2.2.2.1,.int .i64 r.2.2.2.2.2.2.2.2.2.2.1,.own true 3 r.2.2.2.2.2.2.2.2.2.2.2.1,.int .i64 r.2.2.2.2.2.2.2.2.2.2.2.2]
def cG.o:cG.A→List (PV U):=fun r=>[]
abbrev dq.A:=Int
def dq.v:dq.A→PV U:=fun r=> .int .i64 r
def dq.o:dq.A→List (PV U):=fun r=>[]
abbrev eX.A:=Int×Int×Int×Int
def eX.v:eX.A→PV U:=fun r=> .agg [.int .i64 r.1,.int .i64 r.2.1,.int .i64 r.2.2.1,.int .i64 r.2.2.2]
def eX.o:eX.A→List (PV U):=fun r=>[]
abbrev gn.A:=Int×Int
def gn.v:gn.A→PV U:=fun r=> .agg [.int .i64 r.1,.int .i64 r.2]
def gn.o:gn.A→List (PV U):=fun r=>[]
abbrev fD.A:=Int×Int
def fD.v:fD.A→PV U:=fun r=> .agg [.int .i64 r.1,.int .i64 r.2]
def fD.o:fD.A→List (PV U):=fun r=>[]
abbrev bd.A:=(List fY)
def bd.v:bd.A→PV U:=fun r=> .own true 173 r
def bd.o:bd.A→List (PV U):=fun r=>[]
abbrev bF.A:=(List Int)
def bF.v:bF.A→PV U:=fun r=> .own true 3 r
def bF.o:bF.A→List (PV U):=fun r=>[]
abbrev gI.A:=Bool
def gI.v:gI.A→PV U:=fun r=> .bool r
def gI.o:gI.A→List (PV U):=fun r=>[]
abbrev cB.A:=Bool
def cB.v:cB.A→PV U:=fun r=> .bool r
def cB.o:cB.A→List (PV U):=fun r=>[]
abbrev bP.A:=(List Int)
def bP.v:bP.A→PV U:=fun r=> .own true 3 r
def bP.o:bP.A→List (PV U):=fun r=>[]
abbrev cW.A:=(List Int)
def cW.v:cW.A→PV U:=fun r=> .own true 3 r
def cW.o:cW.A→List (PV U):=fun r=>[]
abbrev eN.A:=Bool
def eN.v:eN.A→PV U:=fun r=> .bool r
def eN.o:eN.A→List (PV U):=fun r=>[]
abbrev cd.A:=Int
def cd.v:cd.A→PV U:=fun r=> .int .i64 r
def cd.o:cd.A→List (PV U):=fun r=>[]
abbrev cm.A:=(List Int)
def cm.v:cm.A→PV U:=fun r=> .own true 3 r
def cm.o:cm.A→List (PV U):=fun r=>[]
abbrev cV.A:=(List Int)
def cV.v:cV.A→PV U:=fun r=> .own true 3 r
def cV.o:cV.A→List (PV U):=fun r=>[]
abbrev cb.A:=(List Bool)×(List Bool)
def cb.v:cb.A→PV U:=fun r=> .iB []
def cb.o:cb.A→List (PV U):=fun r=>[.own true 4 r.1,.own true 4 r.2]
abbrev bp.A:=(List Bool)×(List Bool)
def bp.v:bp.A→PV U:=fun r=> .iB []
def bp.o:bp.A→List (PV U):=fun r=>[.own true 4 r.1,.own true 4 r.2]
abbrev cD.A:=(List Int)
def cD.v:cD.A→PV U:=fun r=> .own true 3 r
def cD.o:cD.A→List (PV U):=fun r=>[]
abbrev cw.A:=Bool
def cw.v:cw.A→PV U:=fun r=> .bool r
def cw.o:cw.A→List (PV U):=fun r=>[]
abbrev dc.A:=(List Int)
def dc.v:dc.A→PV U:=fun r=> .own true 3 r
def dc.o:dc.A→List (PV U):=fun r=>[]
abbrev eY.A:=(List Int)
def eY.v:eY.A→PV U:=fun r=> .own true 3 r
def eY.o:eY.A→List (PV U):=fun r=>[]
abbrev eT.A:=Int
def eT.v:eT.A→PV U:=fun r=> .int .i64 r
def eT.o:eT.A→List (PV U):=fun r=>[]
abbrev dV.A:=(List Int)×(List Int)×(List Int)×(List Int)×(List Int)×Int×Bool×(List aM)×(List Int)×(List Int)×Int×Int
def dV.v:dV.A→PV U:=fun r=> .iB []
def dV.o:dV.A→List (PV U):=fun r=>[.box [.own true 3 r.1,.own true 3 r.2.1,.own true 3 r.2.2.1,.own true 3 r.2.2.2.1,.sl 3 r.2.2.2.2.1,.int .i64 r.2.2.2.2.2.1,.bool r.2.2.2.2.2.2.1,.own true 179 r.2.2.2.2.2.2.2.1,.own true 3 r.2.2.2.2.2.2.2.2.1,.own true 3 r.2.2.2.2.2.2.2.2.2.1,.int .i64 r.2.2.2.2.2.2.2.2.2.2.1,.int .i64 r.2.2.2.2.2.2.2.2.2.2.2]]
abbrev dZ.A:=Int
def dZ.v:dZ.A→PV U:=fun r=> .int .i64 r
def dZ.o:dZ.A→List (PV U):=fun r=>[]
abbrev bK.A:=Int
def bK.v:bK.A→PV U:=fun r=> .int .i64 r
def bK.o:bK.A→List (PV U):=fun r=>[]
abbrev cZ.A:=Int
def cZ.v:cZ.A→PV U:=fun r=> .int .i64 r
def cZ.o:cZ.A→List (PV U):=fun r=>[]
abbrev dB.A:=Int
def dB.v:dB.A→PV U:=fun r=> .int .i64 r
def dB.o:dB.A→List (PV U):=fun r=>[]
abbrev dU.A:=Int
def dU.v:dU.A→PV U:=fun r=> .int .i64 r
def dU.o:dU.A→List (PV U):=fun r=>[]
abbrev fA.A:=Int
def fA.v:fA.A→PV U:=fun r=> .int .i64 r
def fA.o:fA.A→List (PV U):=fun r=>[]
abbrev cn.A:=Int
def cn.v:cn.A→PV U:=fun r=> .int .i64 r
def cn.o:cn.A→List (PV U):=fun r=>[]
abbrev bR.A:=(List Int)×(List Int)×(List Int)×(List Int)×(List Int)×Int×Bool×(List aM)×(List Int)×(List Int)×Int×Int
def bR.v:bR.A→PV U:=fun r=> .iB []
def bR.o:bR.A→List (PV U):=fun r=>[.box [.own true 3 r.1,.own true 3 r.2.1,.own true 3 r.2.2.1,.own true 3 r.2.2.2.1,.sl 3 r.2.2.2.2.1,.int .i64 r.2.2.2.2.2.1,.bool r.2.2.2.2.2.2.1,.own true 179 r.2.2.2.2.2.2.2.1,.own true 3 r.2.2.2.2.2.2.2.2.1,.own true 3 r.2.2.2.2.2.2.2.2.2.1,.int .i64 r.2.2.2.2.2.2.2.2.2.2.1,.int .i64 r.2.2.2.2.2.2.2.2.2.2.2]]
abbrev bI.A:=(List Int)×(List Int)×(List Int)×(List Int)×(List Int)×Int×Bool×(List aM)×(List Int)×(List Int)×Int×Int
def bI.v:bI.A→PV U:=fun r=> .iB []
def bI.o:bI.A→List (PV U):=fun r=>[.box [.own true 3 r.1,.own true 3 r.2.1,.own true 3 r.2.2.1,.own true 3 r.2.2.2.1,.sl 3 r.2.2.2.2.1,.int .i64 r.2.2.2.2.2.1,.bool r.2.2.2.2.2.2.1,.own true 179 r.2.2.2.2.2.2.2.1,.own true 3 r.2.2.2.2.2.2.2.2.1,.own true 3 r.2.2.2.2.2.2.2.2.2.1,.int .i64 r.2.2.2.2.2.2.2.2.2.2.1,.int .i64 r.2.2.2.2.2.2.2.2.2.2.2]]
abbrev bD.A:=Int
def bD.v:bD.A→PV U:=fun r=> .int .i64 r
def bD.o:bD.A→List (PV U):=fun r=>[]
abbrev dX.A:=Int×(List Int)×(List Int)×(List Int)×(List Int)×(List Int)×Int×Bool×(List aM)×(List Int)×(List Int)×Int×Int
def dX.v:dX.A→PV U:=fun r=> .int .i64 r.1
def dX.o:dX.A→List (PV U):=fun r=>[.box [.own true 3 r.2.1,.own true 3 r.2.2.1,.own true 3 r.2.2.2.1,.own true 3 r.2.2.2.2.1,.sl 3 r.2.2.2.2.2.1,.int .i64 r.2.2.2.2.2.2.1,.bool r.2.2.2.2.2.2.2.1,.own true 179 r.2.2.2.2.2.2.2.2.1,.own true 3 r.2.2.2.2.2.2.2.2.2.1,.own true 3 r.2.2.2.2.2.2.2.2.2.2.1,.int .i64 r.2.2.2.2.2.2.2.2.2.2.2.1,.int .i64 r.2.2.2.2.2.2.2.2.2.2.2.2]]
abbrev ar.A:=(List Int)×(List Int)×(List Int)×(List Int)×(List Int)×Int×Bool×(List aM)×(List Int)×(List Int)×Int×Int
def ar.v:ar.A→PV U:=fun r=> .iB []
def ar.o:ar.A→List (PV U):=fun r=>[.box [.own true 3 r.1,.own true 3 r.2.1,.own true 3 r.2.2.1,.own true 3 r.2.2.2.1,.sl 3 r.2.2.2.2.1,.int .i64 r.2.2.2.2.2.1,.bool r.2.2.2.2.2.2.1,.own true 179 r.2.2.2.2.2.2.2.1,.own true 3 r.2.2.2.2.2.2.2.2.1,.own true 3 r.2.2.2.2.2.2.2.2.2.1,.int .i64 r.2.2.2.2.2.2.2.2.2.2.1,.int .i64 r.2.2.2.2.2.2.2.2.2.2.2]]
abbrev dO.A:=Int
def dO.v:dO.A→PV U:=fun r=> .int .i64 r
def dO.o:dO.A→List (PV U):=fun r=>[]
abbrev dW.A:=(List aM)×(List Int)
def dW.v:dW.A→PV U:=fun r=> .agg [.own true 179 r.1,.own true 3 r.2]
def dW.o:dW.A→List (PV U):=fun r=>[]
abbrev cc.A:=Int
def cc.v:cc.A→PV U:=fun r=> .int .i64 r
def cc.o:cc.A→List (PV U):=fun r=>[]
abbrev cq.A:=Int
def cq.v:cq.A→PV U:=fun r=> .int .i64 r
def cq.o:cq.A→List (PV U):=fun r=>[]
abbrev bA.A:=(List Int)×Int×(List (List Int))×Int
def bA.v:bA.A→PV U:=fun r=> .agg [.own true 3 r.1,.int .i64 r.2.1,.own true 27 r.2.2.1,.int .i64 r.2.2.2]
def bA.o:bA.A→List (PV U):=fun r=>[]
abbrev eB.A:=(List az)×(List Int)×(List Int)×Int×Int×Int×Int×Int×Int×Int×Int×(List Int)×Int
def eB.v:eB.A→PV U:=fun r=> .agg [.own true 164 r.1,.own true 3 r.2.1,.own true 3 r.2.2.1,.int .i64 r.2.2.2.1,.int .i64 r.2.2.2.2.1,.int .i64 r.2.2.2.2.2.1,.int .i64 r.2.2.2.2.2.2.1,.int .i64 r.2.2.2.2.2.2.2.1,.int .i64 r.2.2.2.2.2.2.2.2.1,.int .i64 r.2.2.2.2.2.2.2.2.2.1,.int .i64 r.2.2.2.2.2.2.2.2.2.2.1,.own true 3 r.2.2.2.2.2.2.2.2.2.2.2.1,.int .i64 r.2.2.2.2.2.2.2.2.2.2.2.2]
def eB.o:eB.A→List (PV U):=fun r=>[]
abbrev cz.A:=(List az)×(List Int)×(List Int)×Int×Int×Int×Int×Int×Int×Int×Int×(List Int)×Int×Bool
def cz.v:cz.A→PV U:=fun r=> .iB [.agg [.own true 164 r.1,.own true 3 r.2.1,.own true 3 r.2.2.1,.int .i64 r.2.2.2.1,.int .i64 r.2.2.2.2.1,.int .i64 r.2.2.2.2.2.1,.int .i64 r.2.2.2.2.2.2.1,.int .i64 r.2.2.2.2.2.2.2.1,.int .i64 r.2.2.2.2.2.2.2.2.1,.int .i64 r.2.2.2.2.2.2.2.2.2.1,.int .i64 r.2.2.2.2.2.2.2.2.2.2.1,.own true 3 r.2.2.2.2.2.2.2.2.2.2.2.1,.int .i64 r.2.2.2.2.2.2.2.2.2.2.2.2.1],.bool r.2.2.2.2.2.2.2.2.2.2.2.2.2]
def cz.o:cz.A→List (PV U):=fun r=>[]
abbrev bw.A:=(List aq)
def bw.v:bw.A→PV U:=fun r=> .own true 204 r
def bw.o:bw.A→List (PV U):=fun r=>[]
abbrev eJ.A:=(List aq)×Int×Int×Int
def eJ.v:eJ.A→PV U:=fun r=> .agg [.own true 204 r.1,.int .i64 r.2.1,.int .i64 r.2.2.1,.int .i64 r.2.2.2]
def eJ.o:eJ.A→List (PV U):=fun r=>[]
abbrev bY.A:=(List az)
def bY.v:bY.A→PV U:=fun r=> .agg [.own true 164 r]
def bY.o:bY.A→List (PV U):=fun r=>[]
abbrev bc.A:=(List Int)
def bc.v:bc.A→PV U:=fun r=> .own true 3 r
def bc.o:bc.A→List (PV U):=fun r=>[]
abbrev eL.A:=Int×(List Int)
def eL.v:eL.A→PV U:=fun r=> .agg [.int .i64 r.1,.own true 3 r.2]
def eL.o:eL.A→List (PV U):=fun r=>[]
abbrev cE.A:=(List az)×(List Int)×(List Int)×Int×Int×Int×Int×Int×Int×Int×Int×(List Int)×Int
def cE.v:cE.A→PV U:=fun r=> .agg [.own true 164 r.1,.own true 3 r.2.1,.own true 3 r.2.2.1,.int .i64 r.2.2.2.1,.int .i64 r.2.2.2.2.1,.int .i64 r.2.2.2.2.2.1,.int .i64 r.2.2.2.2.2.2.1,.int .i64 r.2.2.2.2.2.2.2.1,.int .i64 r.2.2.2.2.2.2.2.2.1,.int .i64 r.2.2.2.2.2.2.2.2.2.1,.int .i64 r.2.2.2.2.2.2.2.2.2.2.1,.own true 3 r.2.2.2.2.2.2.2.2.2.2.2.1,.int .i64 r.2.2.2.2.2.2.2.2.2.2.2.2]
def cE.o:cE.A→List (PV U):=fun r=>[]
abbrev aK.A:=Bool
def aK.v:aK.A→PV U:=fun r=> .bool r
def aK.o:aK.A→List (PV U):=fun r=>[]
abbrev bT.A:=Bool
def bT.v:bT.A→PV U:=fun r=> .bool r
def bT.o:bT.A→List (PV U):=fun r=>[]
abbrev dY.A:=Bool
def dY.v:dY.A→PV U:=fun r=> .bool r
def dY.o:dY.A→List (PV U):=fun r=>[]
abbrev cS.A:=Bool
def cS.v:cS.A→PV U:=fun r=> .bool r
def cS.o:cS.A→List (PV U):=fun r=>[]
abbrev dE.A:=Bool
def dE.v:dE.A→PV U:=fun r=> .bool r
def dE.o:dE.A→List (PV U):=fun r=>[]
abbrev cR.A:=Bool
def cR.v:cR.A→PV U:=fun r=> .bool r
def cR.o:cR.A→List (PV U):=fun r=>[]
abbrev bS.A:=Bool
def bS.v:bS.A→PV U:=fun r=> .bool r
def bS.o:bS.A→List (PV U):=fun r=>[]
abbrev dx.A:=Bool
def dx.v:dx.A→PV U:=fun r=> .bool r
def dx.o:dx.A→List (PV U):=fun r=>[]
abbrev bJ.A:=Bool
def bJ.v:bJ.A→PV U:=fun r=> .bool r
def bJ.o:bJ.A→List (PV U):=fun r=>[]
abbrev bQ.A:=Bool
def bQ.v:bQ.A→PV U:=fun r=> .bool r
def bQ.o:bQ.A→List (PV U):=fun r=>[]
abbrev de.A:=Bool
def de.v:de.A→PV U:=fun r=> .bool r
def de.o:de.A→List (PV U):=fun r=>[]
abbrev dj.A:=Bool
def dj.v:dj.A→PV U:=fun r=> .bool r
def dj.o:dj.A→List (PV U):=fun r=>[]
abbrev ao.A:=Int
def ao.v:ao.A→PV U:=fun r=> .int .i64 r
def ao.o:ao.A→List (PV U):=fun r=>[]
abbrev aA.A:=Bool
def aA.v:aA.A→PV U:=fun r=> .bool r
def aA.o:aA.A→List (PV U):=fun r=>[]
abbrev da.A:=Bool
def da.v:da.A→PV U:=fun r=> .bool r
def da.o:da.A→List (PV U):=fun r=>[]
abbrev eC.A:=Bool
def eC.v:eC.A→PV U:=fun r=> .bool r
def eC.o:eC.A→List (PV U):=fun r=>[]
abbrev df.A:=Bool
def df.v:df.A→PV U:=fun r=> .bool r
def df.o:df.A→List (PV U):=fun r=>[]
abbrev aB.A:=Int
def aB.v:aB.A→PV U:=fun r=> .int .i64 r
def aB.o:aB.A→List (PV U):=fun r=>[]
abbrev aI.A:=Bool
def aI.v:aI.A→PV U:=fun r=> .bool r
def aI.o:aI.A→List (PV U):=fun r=>[]
abbrev ck.A:=Bool
def ck.v:ck.A→PV U:=fun r=> .bool r
def ck.o:ck.A→List (PV U):=fun r=>[]
abbrev bo.A:=Int
def bo.v:bo.A→PV U:=fun r=> .int .i64 r
def bo.o:bo.A→List (PV U):=fun r=>[]
abbrev bj.A:=Int×Int×Int
def bj.v:bj.A→PV U:=fun r=> .iB [.int .i64 r.1,.int .i64 r.2.1,.int .i64 r.2.2]
def bj.o:bj.A→List (PV U):=fun r=>[]
abbrev fi.A:=Bool
def fi.v:fi.A→PV U:=fun r=> .bool r
def fi.o:fi.A→List (PV U):=fun r=>[]
abbrev fo.A:=Bool
def fo.v:fo.A→PV U:=fun r=> .bool r
def fo.o:fo.A→List (PV U):=fun r=>[]
abbrev eR.A:=Bool
def eR.v:eR.A→PV U:=fun r=> .bool r
def eR.o:eR.A→List (PV U):=fun r=>[]
abbrev fq.A:=(List Int)
def fq.v:fq.A→PV U:=fun r=> .own true 3 r
def fq.o:fq.A→List (PV U):=fun r=>[]
abbrev bZ.A:=Bool
def bZ.v:bZ.A→PV U:=fun r=> .bool r
def bZ.o:bZ.A→List (PV U):=fun r=>[]
abbrev dm.A:=Bool
def dm.v:dm.A→PV U:=fun r=> .bool r
def dm.o:dm.A→List (PV U):=fun r=>[]
abbrev fN.A:=Bool
def fN.v:fN.A→PV U:=fun r=> .bool r
def fN.o:fN.A→List (PV U):=fun r=>[]
abbrev dS.A:=Bool
def dS.v:dS.A→PV U:=fun r=> .bool r
def dS.o:dS.A→List (PV U):=fun r=>[]
abbrev cl.A:=Bool
def cl.v:cl.A→PV U:=fun r=> .bool r
def cl.o:cl.A→List (PV U):=fun r=>[]
abbrev cN.A:=Int
def cN.v:cN.A→PV U:=fun r=> .int .i64 r
def cN.o:cN.A→List (PV U):=fun r=>[]
abbrev cX.A:=(List az)×(List Int)×(List Int)×Int×Int×Int×Int×Int×Int×Int×Int×(List Int)×Int
def cX.v:cX.A→PV U:=fun r=> .iB []
def cX.o:cX.A→List (PV U):=fun r=>[.box [.own true 164 r.1,.own true 3 r.2.1,.own true 3 r.2.2.1,.int .i64 r.2.2.2.1,.int .i64 r.2.2.2.2.1,.int .i64 r.2.2.2.2.2.1,.int .i64 r.2.2.2.2.2.2.1,.int .i64 r.2.2.2.2.2.2.2.1,.int .i64 r.2.2.2.2.2.2.2.2.1,.int .i64 r.2.2.2.2.2.2.2.2.2.1,.int .i64 r.2.2.2.2.2.2.2.2.2.2.1,.own true 3 r.2.2.2.2.2.2.2.2.2.2.2.1,.int .i64 r.2.2.2.2.2.2.2.2.2.2.2.2]]
abbrev fG.A:=Int×Int
def fG.v:fG.A→PV U:=fun r=> .agg [.int .i64 r.1,.int .i64 r.2]
def fG.o:fG.A→List (PV U):=fun r=>[]
abbrev fz.A:=Int×Int
def fz.v:fz.A→PV U:=fun r=> .agg [.int .i64 r.1,.int .i64 r.2]
def fz.o:fz.A→List (PV U):=fun r=>[]
abbrev bm.A:=(List fY)
def bm.v:bm.A→PV U:=fun r=> .own true 173 r
def bm.o:bm.A→List (PV U):=fun r=>[]
abbrev aY.A:=Bool×(List Int)×Int×(List (List Int))×Int
def aY.v:aY.A→PV U:=fun r=> .bool r.1
def aY.o:aY.A→List (PV U):=fun r=>[.box [.own true 3 r.2.1,.int .i64 r.2.2.1,.own true 27 r.2.2.2.1,.int .i64 r.2.2.2.2]]
abbrev aO.A:=Bool×(List Int)×Int×(List (List Int))×Int
def aO.v:aO.A→PV U:=fun r=> .bool r.1
def aO.o:aO.A→List (PV U):=fun r=>[.box [.own true 3 r.2.1,.int .i64 r.2.2.1,.own true 27 r.2.2.2.1,.int .i64 r.2.2.2.2]]
abbrev eZ.A:=(List Int)
def eZ.v:eZ.A→PV U:=fun r=> .own true 3 r
def eZ.o:eZ.A→List (PV U):=fun r=>[]
abbrev slices_Sort_int.A:=(List Int)
def slices_Sort_int.v:slices_Sort_int.A→PV U:=fun r=> .iB []
def slices_Sort_int.o:slices_Sort_int.A→List (PV U):=fun r=>[.own true 3 r]
abbrev slices_Compact_int.A:=(List Int)
def slices_Compact_int.v:slices_Compact_int.A→PV U:=fun r=> .own true 3 r
def slices_Compact_int.o:slices_Compact_int.A→List (PV U):=fun r=>[]
abbrev cU.A:=(List Int)
def cU.v:cU.A→PV U:=fun r=> .own true 3 r
def cU.o:cU.A→List (PV U):=fun r=>[]
abbrev bn.A:=Bool×Bool×Bool×Bool×Bool×Bool×Bool×Bool×Bool×Bool×Bool×Bool×Bool×Bool×Bool×Bool
def bn.v:bn.A→PV U:=fun r=> .iB []
def bn.o:bn.A→List (PV U):=fun r=>[.box [.bool r.1,.bool r.2.1,.bool r.2.2.1,.bool r.2.2.2.1,.bool r.2.2.2.2.1,.bool r.2.2.2.2.2.1,.bool r.2.2.2.2.2.2.1,.bool r.2.2.2.2.2.2.2.1,.bool r.2.2.2.2.2.2.2.2.1,.bool r.2.2.2.2.2.2.2.2.2.1,.bool r.2.2.2.2.2.2.2.2.2.2.1,.bool r.2.2.2.2.2.2.2.2.2.2.2.1,.bool r.2.2.2.2.2.2.2.2.2.2.2.2.1,.bool r.2.2.2.2.2.2.2.2.2.2.2.2.2.1,.bool r.2.2.2.2.2.2.2.2.2.2.2.2.2.2.1,.bool r.2.2.2.2.2.2.2.2.2.2.2.2.2.2.2]]
abbrev cM.A:=Int
def cM.v:cM.A→PV U:=fun r=> .int .i64 r
def cM.o:cM.A→List (PV U):=fun r=>[]
abbrev aD.A:=Bool×Bool×Bool×Bool×Bool×Bool×Bool×Bool×Bool×Bool×Bool×Bool×Bool×Bool×Bool×Bool
def aD.v:aD.A→PV U:=fun r=> .iB []
def aD.o:aD.A→List (PV U):=fun r=>[.box [.bool r.1,.bool r.2.1,.bool r.2.2.1,.bool r.2.2.2.1,.bool r.2.2.2.2.1,.bool r.2.2.2.2.2.1,.bool r.2.2.2.2.2.2.1,.bool r.2.2.2.2.2.2.2.1,.bool r.2.2.2.2.2.2.2.2.1,.bool r.2.2.2.2.2.2.2.2.2.1,.bool r.2.2.2.2.2.2.2.2.2.2.1,.bool r.2.2.2.2.2.2.2.2.2.2.2.1,.bool r.2.2.2.2.2.2.2.2.2.2.2.2.1,.bool r.2.2.2.2.2.2.2.2.2.2.2.2.2.1,.bool r.2.2.2.2.2.2.2.2.2.2.2.2.2.2.1,.bool r.2.2.2.2.2.2.2.2.2.2.2.2.2.2.2]]
abbrev bq.A:=(List Int)
def bq.v:bq.A→PV U:=fun r=> .own true 3 r
def bq.o:bq.A→List (PV U):=fun r=>[]
abbrev cu.A:=Bool×(List Bool)
def cu.v:cu.A→PV U:=fun r=> .bool r.1
def cu.o:cu.A→List (PV U):=fun r=>[.box [.own true 4 r.2]]
abbrev dJ.A:=(List Int)×(List Bool)
def dJ.v:dJ.A→PV U:=fun r=> .own true 3 r.1
def dJ.o:dJ.A→List (PV U):=fun r=>[.box [.own true 4 r.2]]
abbrev bh.A:=(List Int)
def bh.v:bh.A→PV U:=fun r=> .own true 3 r
def bh.o:bh.A→List (PV U):=fun r=>[]
abbrev dA.A:=Bool
def dA.v:dA.A→PV U:=fun r=> .bool r
def dA.o:dA.A→List (PV U):=fun r=>[]
abbrev cC.A:=(List Int)
def cC.v:cC.A→PV U:=fun r=> .own true 3 r
def cC.o:cC.A→List (PV U):=fun r=>[]
abbrev eK.A:=(List Int)
def eK.v:eK.A→PV U:=fun r=> .own true 3 r
def eK.o:eK.A→List (PV U):=fun r=>[]
abbrev bW.A:=Int
def bW.v:bW.A→PV U:=fun r=> .int .i64 r
def bW.o:bW.A→List (PV U):=fun r=>[]
abbrev cv.A:=Bool
def cv.v:cv.A→PV U:=fun r=> .bool r
def cv.o:cv.A→List (PV U):=fun r=>[]
abbrev ez.A:=Bool
def ez.v:ez.A→PV U:=fun r=> .bool r
def ez.o:ez.A→List (PV U):=fun r=>[]
abbrev cA.A:=Bool×(List Int)×(List Int)
def cA.v:cA.A→PV U:=fun r=> .bool r.1
def cA.o:cA.A→List (PV U):=fun r=>[.box [.own true 3 r.2.1],.box [.own true 3 r.2.2]]
abbrev aC.A:=Int×(List Int)×(List Int)
def aC.v:aC.A→PV U:=fun r=> .int .i64 r.1
def aC.o:aC.A→List (PV U):=fun r=>[.box [.own true 3 r.2.1],.box [.own true 3 r.2.2]]
abbrev aw.A:=(List Int)×(List Int)×(List Int)
def aw.v:aw.A→PV U:=fun r=> .sl 3 r.1
def aw.o:aw.A→List (PV U):=fun r=>[.box [.own true 3 r.2.1],.box [.own true 3 r.2.2]]
abbrev dK.A:=(List Int)
def dK.v:dK.A→PV U:=fun r=> .sl 3 r
def dK.o:dK.A→List (PV U):=fun r=>[]
abbrev eu.A:=Int
def eu.v:eu.A→PV U:=fun r=> .int .i64 r
def eu.o:eu.A→List (PV U):=fun r=>[]
abbrev b7.A:=(List aM)×(List Int)×Int×Int×Int×(List Int)×Bool×Bool×Bool×Bool×Bool×Bool×Bool×Bool×(List Int)
def b7.v:b7.A→PV U:=fun r=> .iB []
def b7.o:b7.A→List (PV U):=fun r=>[.box [.own true 179 r.1,.own true 3 r.2.1,.int .i64 r.2.2.1,.int .i64 r.2.2.2.1,.int .i64 r.2.2.2.2.1,.own true 3 r.2.2.2.2.2.1,.bool r.2.2.2.2.2.2.1,.bool r.2.2.2.2.2.2.2.1,.bool r.2.2.2.2.2.2.2.2.1,.bool r.2.2.2.2.2.2.2.2.2.1,.bool r.2.2.2.2.2.2.2.2.2.2.1,.bool r.2.2.2.2.2.2.2.2.2.2.2.1,.bool r.2.2.2.2.2.2.2.2.2.2.2.2.1,.bool r.2.2.2.2.2.2.2.2.2.2.2.2.2.1,.own true 3 r.2.2.2.2.2.2.2.2.2.2.2.2.2.2]]
abbrev fh.A:=Bool
def fh.v:fh.A→PV U:=fun r=> .bool r
def fh.o:fh.A→List (PV U):=fun r=>[]
abbrev fa.A:=Int
def fa.v:fa.A→PV U:=fun r=> .int .i64 r
def fa.o:fa.A→List (PV U):=fun r=>[]
abbrev bL.A:=Int
def bL.v:bL.A→PV U:=fun r=> .int .i64 r
def bL.o:bL.A→List (PV U):=fun r=>[]
abbrev cY.A:=Int
def cY.v:cY.A→PV U:=fun r=> .int .i64 r
def cY.o:cY.A→List (PV U):=fun r=>[]
abbrev dD.A:=Int
def dD.v:dD.A→PV U:=fun r=> .int .i64 r
def dD.o:dD.A→List (PV U):=fun r=>[]
abbrev dH.A:=Int
def dH.v:dH.A→PV U:=fun r=> .int .i64 r
def dH.o:dH.A→List (PV U):=fun r=>[]
abbrev gQ.A:=Int
def gQ.v:gQ.A→PV U:=fun r=> .int .i64 r
def gQ.o:gQ.A→List (PV U):=fun r=>[]
abbrev cj.A:=Int
def cj.v:cj.A→PV U:=fun r=> .int .i64 r
def cj.o:cj.A→List (PV U):=fun r=>[]
abbrev aZ.A:=(List aM)×(List Int)×Int×Int×Int×(List Int)×Bool×Bool×Bool×Bool×Bool×Bool×Bool×Bool×(List Int)
def aZ.v:aZ.A→PV U:=fun r=> .iB []
def aZ.o:aZ.A→List (PV U):=fun r=>[.box [.own true 179 r.1,.own true 3 r.2.1,.int .i64 r.2.2.1,.int .i64 r.2.2.2.1,.int .i64 r.2.2.2.2.1,.own true 3 r.2.2.2.2.2.1,.bool r.2.2.2.2.2.2.1,.bool r.2.2.2.2.2.2.2.1,.bool r.2.2.2.2.2.2.2.2.1,.bool r.2.2.2.2.2.2.2.2.2.1,.bool r.2.2.2.2.2.2.2.2.2.2.1,.bool r.2.2.2.2.2.2.2.2.2.2.2.1,.bool r.2.2.2.2.2.2.2.2.2.2.2.2.1,.bool r.2.2.2.2.2.2.2.2.2.2.2.2.2.1,.own true 3 r.2.2.2.2.2.2.2.2.2.2.2.2.2.2]]
abbrev aL.A:=(List aM)×(List Int)×Int×Int×Int×(List Int)×Bool×Bool×Bool×Bool×Bool×Bool×Bool×Bool×(List Int)
def aL.v:aL.A→PV U:=fun r=> .iB []
def aL.o:aL.A→List (PV U):=fun r=>[.box [.own true 179 r.1,.own true 3 r.2.1,.int .i64 r.2.2.1,.int .i64 r.2.2.2.1,.int .i64 r.2.2.2.2.1,.own true 3 r.2.2.2.2.2.1,.bool r.2.2.2.2.2.2.1,.bool r.2.2.2.2.2.2.2.1,.bool r.2.2.2.2.2.2.2.2.1,.bool r.2.2.2.2.2.2.2.2.2.1,.bool r.2.2.2.2.2.2.2.2.2.2.1,.bool r.2.2.2.2.2.2.2.2.2.2.2.1,.bool r.2.2.2.2.2.2.2.2.2.2.2.2.1,.bool r.2.2.2.2.2.2.2.2.2.2.2.2.2.1,.own true 3 r.2.2.2.2.2.2.2.2.2.2.2.2.2.2]]
abbrev bO.A:=Int
def bO.v:bO.A→PV U:=fun r=> .int .i64 r
def bO.o:bO.A→List (PV U):=fun r=>[]
abbrev cr.A:=(List aM)×(List Int)×Int×Int×Int×(List Int)×Bool×Bool×Bool×Bool×Bool×Bool×Bool×Bool×(List Int)
def cr.v:cr.A→PV U:=fun r=> .iB []
def cr.o:cr.A→List (PV U):=fun r=>[.box [.own true 179 r.1,.own true 3 r.2.1,.int .i64 r.2.2.1,.int .i64 r.2.2.2.1,.int .i64 r.2.2.2.2.1,.own true 3 r.2.2.2.2.2.1,.bool r.2.2.2.2.2.2.1,.bool r.2.2.2.2.2.2.2.1,.bool r.2.2.2.2.2.2.2.2.1,.bool r.2.2.2.2.2.2.2.2.2.1,.bool r.2.2.2.2.2.2.2.2.2.2.1,.bool r.2.2.2.2.2.2.2.2.2.2.2.1,.bool r.2.2.2.2.2.2.2.2.2.2.2.2.1,.bool r.2.2.2.2.2.2.2.2.2.2.2.2.2.1,.own true 3 r.2.2.2.2.2.2.2.2.2.2.2.2.2.2]]
abbrev br.A:=Bool×(List Int)×(List Int)×Int×(List aM)×(List Int)×Int×Int×Int×(List Int)×Bool×Bool×Bool×Bool×Bool×Bool×Bool×Bool×(List Int)
def br.v:br.A→PV U:=fun r=> .bool r.1
def br.o:br.A→List (PV U):=fun r=>[.box [.ptr 85 0],.box [.sl 3 r.2.1],.box [.sl 3 r.2.2.1],.box [.int .i64 r.2.2.2.1],.box [.own true 179 r.2.2.2.2.1,.own true 3 r.2.2.2.2.2.1,.int .i64 r.2.2.2.2.2.2.1,.int .i64 r.2.2.2.2.2.2.2.1,.int .i64 r.2.2.2.2.2.2.2.2.1,.own true 3 r.2.2.2.2.2.2.2.2.2.1,.bool r.2.2.2.2.2.2.2.2.2.2.1,.bool r.2.2.2.2.2.2.2.2.2.2.2.1,.bool r.2.2.2.2.2.2.2.2.2.2.2.2.1,.bool r.2.2.2.2.2.2.2.2.2.2.2.2.2.1,.bool r.2.2.2.2.2.2.2.2.2.2.2.2.2.2.1,.bool r.2.2.2.2.2.2.2.2.2.2.2.2.2.2.2.1,.bool r.2.2.2.2.2.2.2.2.2.2.2.2.2.2.2.2.1,.bool r.2.2.2.2.2.2.2.2.2.2.2.2.2.2.2.2.2.1,.own true 3 r.2.2.2.2.2.2.2.2.2.2.2.2.2.2.2.2.2.2]]
abbrev bU.A:=(List Int)×(List Int)×Int×(List aM)×(List Int)×Int×Int×Int×(List Int)×Bool×Bool×Bool×Bool×Bool×Bool×Bool×Bool×(List Int)
def bU.v:bU.A→PV U:=fun r=> .iB []
def bU.o:bU.A→List (PV U):=fun r=>[.box [.ptr 55 0],.box [.sl 3 r.1],.box [.sl 3 r.2.1],.box [.int .i64 r.2.2.1],.box [.own true 179 r.2.2.2.1,.own true 3 r.2.2.2.2.1,.int .i64 r.2.2.2.2.2.1,.int .i64 r.2.2.2.2.2.2.1,.int .i64 r.2.2.2.2.2.2.2.1,.own true 3 r.2.2.2.2.2.2.2.2.1,.bool r.2.2.2.2.2.2.2.2.2.1,.bool r.2.2.2.2.2.2.2.2.2.2.1,.bool r.2.2.2.2.2.2.2.2.2.2.2.1,.bool r.2.2.2.2.2.2.2.2.2.2.2.2.1,.bool r.2.2.2.2.2.2.2.2.2.2.2.2.2.1,.bool r.2.2.2.2.2.2.2.2.2.2.2.2.2.2.1,.bool r.2.2.2.2.2.2.2.2.2.2.2.2.2.2.2.1,.bool r.2.2.2.2.2.2.2.2.2.2.2.2.2.2.2.2.1,.own true 3 r.2.2.2.2.2.2.2.2.2.2.2.2.2.2.2.2.2]]
abbrev fI.A:=Bool
def fI.v:fI.A→PV U:=fun r=> .bool r
def fI.o:fI.A→List (PV U):=fun r=>[]
abbrev dy.A:=Int
def dy.v:dy.A→PV U:=fun r=> .int .i64 r
def dy.o:dy.A→List (PV U):=fun r=>[]
abbrev dt.A:=(List aM)×(List Int)
def dt.v:dt.A→PV U:=fun r=> .agg [.own true 179 r.1,.own true 3 r.2]
def dt.o:dt.A→List (PV U):=fun r=>[]
abbrev aP.A:=Bool
def aP.v:aP.A→PV U:=fun r=> .bool r
def aP.o:aP.A→List (PV U):=fun r=>[]
abbrev ba.A:=Bool×(List Int)×Int×(List (List Int))×Int
def ba.v:ba.A→PV U:=fun r=> .bool r.1
def ba.o:ba.A→List (PV U):=fun r=>[.box [.own true 3 r.2.1,.int .i64 r.2.2.1,.own true 27 r.2.2.2.1,.int .i64 r.2.2.2.2]]
abbrev fw.A:=(List Int)×Int×(List (List Int))×Int
def fw.v:fw.A→PV U:=fun r=> .agg [.own true 3 r.1,.int .i64 r.2.1,.own true 27 r.2.2.1,.int .i64 r.2.2.2]
def fw.o:fw.A→List (PV U):=fun r=>[]
abbrev bM.A:=(List az)×(List Int)×(List Int)×Int×Int×Int×Int×Int×Int×Int×Int×(List Int)×Int×Bool
def bM.v:bM.A→PV U:=fun r=> .iB [.agg [.own true 164 r.1,.own true 3 r.2.1,.own true 3 r.2.2.1,.int .i64 r.2.2.2.1,.int .i64 r.2.2.2.2.1,.int .i64 r.2.2.2.2.2.1,.int .i64 r.2.2.2.2.2.2.1,.int .i64 r.2.2.2.2.2.2.2.1,.int .i64 r.2.2.2.2.2.2.2.2.1,.int .i64 r.2.2.2.2.2.2.2.2.2.1,.int .i64 r.2.2.2.2.2.2.2.2.2.2.1,.own true 3 r.2.2.2.2.2.2.2.2.2.2.2.1,.int .i64 r.2.2.2.2.2.2.2.2.2.2.2.2.1],.bool r.2.2.2.2.2.2.2.2.2.2.2.2.2]
def bM.o:bM.A→List (PV U):=fun r=>[]
abbrev fg.A:=Bool
def fg.v:fg.A→PV U:=fun r=> .bool r
def fg.o:fg.A→List (PV U):=fun r=>[]
abbrev fP.A:=Bool
def fP.v:fP.A→PV U:=fun r=> .bool r
def fP.o:fP.A→List (PV U):=fun r=>[]
abbrev dR.A:=Bool
def dR.v:dR.A→PV U:=fun r=> .bool r
def dR.o:dR.A→List (PV U):=fun r=>[]
abbrev fT.A:=Bool
def fT.v:fT.A→PV U:=fun r=> .bool r
def fT.o:fT.A→List (PV U):=fun r=>[]
abbrev dP.A:=Bool
def dP.v:dP.A→PV U:=fun r=> .bool r
def dP.o:dP.A→List (PV U):=fun r=>[]
abbrev dG.A:=Bool
def dG.v:dG.A→PV U:=fun r=> .bool r
def dG.o:dG.A→List (PV U):=fun r=>[]
abbrev dw.A:=Bool
def dw.v:dw.A→PV U:=fun r=> .bool r
def dw.o:dw.A→List (PV U):=fun r=>[]
abbrev fr.A:=Bool
def fr.v:fr.A→PV U:=fun r=> .bool r
def fr.o:fr.A→List (PV U):=fun r=>[]
abbrev fX.A:=Bool
def fX.v:fX.A→PV U:=fun r=> .bool r
def fX.o:fX.A→List (PV U):=fun r=>[]
abbrev dI.A:=Bool
def dI.v:dI.A→PV U:=fun r=> .bool r
def dI.o:dI.A→List (PV U):=fun r=>[]
abbrev fR.A:=Bool
def fR.v:fR.A→PV U:=fun r=> .bool r
def fR.o:fR.A→List (PV U):=fun r=>[]
abbrev eO.A:=Bool
def eO.v:eO.A→PV U:=fun r=> .bool r
def eO.o:eO.A→List (PV U):=fun r=>[]
abbrev cK.A:=Int×(List aq)
def cK.v:cK.A→PV U:=fun r=> .int .i64 r.1
def cK.o:cK.A→List (PV U):=fun r=>[.own true 204 r.2]
abbrev cJ.A:=Int×(List az)
def cJ.v:cJ.A→PV U:=fun r=> .int .i64 r.1
def cJ.o:cJ.A→List (PV U):=fun r=>[.own true 164 r.2]
abbrev dh.A:=Int×(List az)
def dh.v:dh.A→PV U:=fun r=> .int .i64 r.1
def dh.o:dh.A→List (PV U):=fun r=>[.own true 164 r.2]
abbrev cH.A:=Int×(List Int)
def cH.v:cH.A→PV U:=fun r=> .int .i64 r.1
def cH.o:cH.A→List (PV U):=fun r=>[.own true 3 r.2]
abbrev dk.A:=Int×(List Int)
def dk.v:dk.A→PV U:=fun r=> .int .i64 r.1
def dk.o:dk.A→List (PV U):=fun r=>[.own true 3 r.2]
abbrev fb.A:=Int×(List Int)
def fb.v:fb.A→PV U:=fun r=> .int .i64 r.1
def fb.o:fb.A→List (PV U):=fun r=>[.own true 3 r.2]
abbrev ef.A:=Int×(List az)×(List Int)×(List Int)×(List Int)
def ef.v:ef.A→PV U:=fun r=> .int .i64 r.1
def ef.o:ef.A→List (PV U):=fun r=>[.own true 164 r.2.1,.own true 3 r.2.2.1,.own true 3 r.2.2.2.1,.own true 3 r.2.2.2.2]
abbrev cL.A:=Int
def cL.v:cL.A→PV U:=fun r=> .int .i64 r
def cL.o:cL.A→List (PV U):=fun r=>[]
abbrev cQ.A:=Int
def cQ.v:cQ.A→PV U:=fun r=> .int .i64 r
def cQ.o:cQ.A→List (PV U):=fun r=>[]
abbrev di.A:=Int
def di.v:di.A→PV U:=fun r=> .int .i64 r
def di.o:di.A→List (PV U):=fun r=>[]
abbrev cF.A:=Int
def cF.v:cF.A→PV U:=fun r=> .int .i64 r
def cF.o:cF.A→List (PV U):=fun r=>[]
abbrev dg.A:=Int
def dg.v:dg.A→PV U:=fun r=> .int .i64 r
def dg.o:dg.A→List (PV U):=fun r=>[]
abbrev fe.A:=Int
def fe.v:fe.A→PV U:=fun r=> .int .i64 r
def fe.o:fe.A→List (PV U):=fun r=>[]
abbrev ek.A:=Int
def ek.v:ek.A→PV U:=fun r=> .int .i64 r
def ek.o:ek.A→List (PV U):=fun r=>[]
abbrev bC.A:=Bool
def bC.v:bC.A→PV U:=fun r=> .bool r
def bC.o:bC.A→List (PV U):=fun r=>[]
def zf:List (Nat×C1 C):=[(191,⟨fu.A,fu.v,fu.o⟩),(153,⟨fU.A,fU.v,fU.o⟩),(109,⟨db.A,db.v,db.o⟩),(56,⟨dQ.A,dQ.v,dQ.o⟩),(57,⟨eS.A,eS.v,eS.o⟩),(110,⟨eF.A,eF.v,eF.o⟩),(58,⟨fV.A,fV.v,fV.o⟩),(17,⟨fS.A,fS.v,fS.o⟩),(200,⟨gm.A,gm.v,gm.o⟩),(236,⟨gB.A,gB.v,gB.o⟩),(199,⟨dF.A,dF.v,dF.o⟩),(163,⟨fO.A,fO.v,fO.o⟩),(121,⟨dM.A,dM.v,dM.o⟩),(63,⟨dL.A,dL.v,dL.o⟩),(36,⟨dC.A,dC.v,dC.o⟩),(64,⟨ga.A,ga.v,ga.o⟩),(65,⟨gl.A,gl.v,gl.o⟩),(122,⟨eD.A,eD.v,eD.o⟩),(66,⟨gk.A,gk.v,gk.o⟩),(19,⟨eQ.A,eQ.v,eQ.o⟩),(238,⟨eM.A,eM.v,eM.o⟩),(60,⟨aH.A,aH.v,aH.o⟩),(208,⟨dN.A,dN.v,dN.o⟩),(174,⟨cf.A,cf.v,cf.o⟩),(207,⟨fQ.A,fQ.v,fQ.o⟩),(173,⟨bt.A,bt.v,bt.o⟩),(141,⟨cO.A,cO.v,cO.o⟩),(192,⟨bu.A,bu.v,bu.o⟩),(154,⟨bg.A,bg.v,bg.o⟩),(129,⟨eA.A,eA.v,eA.o⟩),(113,⟨bX.A,bX.v,bX.o⟩),(111,⟨fj.A,fj.v,fj.o⟩),(112,⟨fl.A,fl.v,fl.o⟩),(114,⟨ff.A,ff.v,ff.o⟩),(156,⟨fm.A,fm.v,fm.o⟩),(155,⟨bN.A,bN.v,bN.o⟩),(115,⟨fW.A,fW.v,fW.o⟩),(59,⟨eP.A,eP.v,eP.o⟩),(116,⟨cT.A,cT.v,cT.o⟩),(117,⟨fp.A,fp.v,fp.o⟩),(61,⟨cG.A,cG.v,cG.o⟩),(157,⟨dq.A,dq.v,dq.o⟩),(118,⟨eX.A,eX.v,eX.o⟩),(130,⟨gn.A,gn.v,gn.o⟩),(119,⟨fD.A,fD.v,fD.o⟩),(158,⟨bd.A,bd.v,bd.o⟩),(159,⟨bF.A,bF.v,bF.o⟩),(226,⟨gI.A,gI.v,gI.o⟩),(248,⟨cB.A,cB.v,cB.o⟩),(249,⟨bP.A,bP.v,bP.o⟩),(227,⟨cW.A,cW.v,cW.o⟩),(257,⟨eN.A,eN.v,eN.o⟩),(235,⟨cd.A,cd.v,cd.o⟩),(228,⟨cm.A,cm.v,cm.o⟩),(262,⟨cV.A,cV.v,cV.o⟩),(251,⟨cb.A,cb.v,cb.o⟩),(250,⟨bp.A,bp.v,bp.o⟩),(229,⟨cD.A,cD.v,cD.o⟩),(230,⟨cw.A,cw.v,cw.o⟩),(193,⟨dc.A,dc.v,dc.o⟩),(194,⟨eY.A,eY.v,eY.o⟩),(231,⟨eT.A,eT.v,eT.o⟩),(196,⟨dV.A,dV.v,dV.o⟩),(252,⟨dZ.A,dZ.v,dZ.o⟩),(263,⟨bK.A,bK.v,bK.o⟩),(253,⟨cZ.A,cZ.v,cZ.o⟩),(254,⟨dB.A,dB.v,dB.o⟩),(255,⟨dU.A,dU.v,dU.o⟩),(81,⟨fA.A,fA.v,fA.o⟩),(233,⟨cn.A,cn.v,cn.o⟩),(197,⟨bR.A,bR.v,bR.o⟩),(232,⟨bI.A,bI.v,bI.o⟩),(256,⟨bD.A,bD.v,bD.o⟩),(234,⟨dX.A,dX.v,dX.o⟩),(195,⟨ar.A,ar.v,ar.o⟩),(198,⟨dO.A,dO.v,dO.o⟩),(160,⟨dW.A,dW.v,dW.o⟩),(161,⟨cc.A,cc.v,cc.o⟩),(162,⟨cq.A,cq.v,cq.o⟩),(120,⟨bA.A,bA.v,bA.o⟩),(62,⟨eB.A,eB.v,eB.o⟩),(18,⟨cz.A,cz.v,cz.o⟩),(175,⟨bw.A,bw.v,bw.o⟩),(142,⟨eJ.A,eJ.v,eJ.o⟩),(95,⟨bY.A,bY.v,bY.o⟩),(55,⟨bc.A,bc.v,bc.o⟩),(96,⟨eL.A,eL.v,eL.o⟩),(41,⟨cE.A,cE.v,cE.o⟩),(50,⟨aK.A,aK.v,aK.o⟩),(245,⟨bT.A,bT.v,bT.o⟩),(105,⟨dY.A,dY.v,dY.o⟩),(246,⟨cS.A,cS.v,cS.o⟩),(225,⟨dE.A,dE.v,dE.o⟩),(190,⟨cR.A,cR.v,cR.o⟩),(223,⟨bS.A,bS.v,bS.o⟩),(217,⟨dx.A,dx.v,dx.o⟩),(215,⟨bJ.A,bJ.v,bJ.o⟩),(189,⟨bQ.A,bQ.v,bQ.o⟩),(150,⟨de.A,de.v,de.o⟩),(149,⟨dj.A,dj.v,dj.o⟩),(188,⟨ao.A,ao.v,ao.o⟩),(148,⟨aA.A,aA.v,aA.o⟩),(103,⟨da.A,da.v,da.o⟩),(106,⟨eC.A,eC.v,eC.o⟩),(108,⟨df.A,df.v,df.o⟩),(152,⟨aB.A,aB.v,aB.o⟩),(107,⟨aI.A,aI.v,aI.o⟩),(49,⟨ck.A,ck.v,ck.o⟩),(151,⟨bo.A,bo.v,bo.o⟩),(104,⟨bj.A,bj.v,bj.o⟩),(47,⟨fi.A,fi.v,fi.o⟩),(48,⟨fo.A,fo.v,fo.o⟩),(51,⟨eR.A,eR.v,eR.o⟩),(54,⟨fq.A,fq.v,fq.o⟩),(53,⟨bZ.A,bZ.v,bZ.o⟩),(14,⟨dm.A,dm.v,dm.o⟩),(52,⟨fN.A,fN.v,fN.o⟩),(13,⟨dS.A,dS.v,dS.o⟩),(42,⟨cl.A,cl.v,cl.o⟩),(97,⟨cN.A,cN.v,cN.o⟩),(43,⟨cX.A,cX.v,cX.o⟩),(98,⟨fG.A,fG.v,fG.o⟩),(44,⟨fz.A,fz.v,fz.o⟩),(143,⟨bm.A,bm.v,bm.o⟩),(144,⟨aY.A,aY.v,aY.o⟩),(99,⟨aO.A,aO.v,aO.o⟩),(176,⟨eZ.A,eZ.v,eZ.o⟩),(259,⟨slices_Sort_int.A,slices_Sort_int.v,slices_Sort_int.o⟩),(260,⟨slices_Compact_int.A,slices_Compact_int.v,slices_Compact_int.o⟩),(258,⟨cU.A,cU.v,cU.o⟩),(240,⟨bn.A,bn.v,bn.o⟩),(216,⟨cM.A,cM.v,cM.o⟩),(239,⟨aD.A,aD.v,aD.o⟩),(209,⟨bq.A,bq.v,bq.o⟩),(242,⟨cu.A,cu.v,cu.o⟩),(241,⟨dJ.A,dJ.v,dJ.o⟩),(210,⟨bh.A,bh.v,bh.o⟩),(243,⟨dA.A,dA.v,dA.o⟩),(212,⟨eK.A,eK.v,eK.o⟩),(261,⟨bW.A,bW.v,bW.o⟩),(244,⟨cv.A,cv.v,cv.o⟩),(214,⟨ez.A,ez.v,ez.o⟩),(213,⟨cA.A,cA.v,cA.o⟩),(211,⟨aw.A,aw.v,aw.o⟩),(177,⟨dK.A,dK.v,dK.o⟩),(181,⟨eu.A,eu.v,eu.o⟩),(180,⟨b7.A,b7.v,b7.o⟩),(218,⟨fh.A,fh.v,fh.o⟩),(219,⟨fa.A,fa.v,fa.o⟩),(247,⟨bL.A,bL.v,bL.o⟩),(220,⟨cY.A,cY.v,cY.o⟩),(221,⟨dD.A,dD.v,dD.o⟩),(222,⟨dH.A,dH.v,dH.o⟩),(136,⟨gQ.A,gQ.v,gQ.o⟩),(183,⟨cj.A,cj.v,cj.o⟩),(186,⟨aZ.A,aZ.v,aZ.o⟩),(182,⟨aL.A,aL.v,aL.o⟩),(184,⟨bO.A,bO.v,bO.o⟩),(185,⟨cr.A,cr.v,cr.o⟩),(179,⟨br.A,br.v,br.o⟩),(178,⟨bU.A,bU.v,bU.o⟩),(224,⟨fI.A,fI.v,fI.o⟩),(187,⟨dy.A,dy.v,dy.o⟩),(145,⟨dt.A,dt.v,dt.o⟩),(146,⟨aP.A,aP.v,aP.o⟩),(100,⟨ba.A,ba.v,ba.o⟩),(45,⟨fw.A,fw.v,fw.o⟩),(11,⟨bM.A,bM.v,bM.o⟩),(202,⟨fg.A,fg.v,fg.o⟩),(237,⟨fP.A,fP.v,fP.o⟩),(201,⟨dR.A,dR.v,dR.o⟩),(164,⟨fT.A,fT.v,fT.o⟩),(123,⟨dP.A,dP.v,dP.o⟩),(67,⟨dG.A,dG.v,dG.o⟩),(30,⟨dw.A,dw.v,dw.o⟩),(68,⟨fr.A,fr.v,fr.o⟩),(69,⟨fX.A,fX.v,fX.o⟩),(124,⟨dI.A,dI.v,dI.o⟩),(70,⟨fR.A,fR.v,fR.o⟩),(20,⟨eO.A,eO.v,eO.o⟩),(165,⟨cK.A,cK.v,cK.o⟩),(125,⟨cJ.A,cJ.v,cJ.o⟩),(71,⟨dh.A,dh.v,dh.o⟩),(33,⟨cH.A,cH.v,cH.o⟩),(126,⟨dk.A,dk.v,dk.o⟩),(72,⟨fb.A,fb.v,fb.o⟩),(21,⟨ef.A,ef.v,ef.o⟩),(166,⟨cL.A,cL.v,cL.o⟩),(127,⟨cQ.A,cQ.v,cQ.o⟩),(73,⟨di.A,di.v,di.o⟩),(34,⟨cF.A,cF.v,cF.o⟩),(128,⟨dg.A,dg.v,dg.o⟩),(74,⟨fe.A,fe.v,fe.o⟩),(22,⟨ek.A,ek.v,ek.o⟩),(4,⟨bC.A,bC.v,bC.o⟩)]
def CI:List (Nat×Nat):=[(191,12),(153,12),(109,27),(56,12),(57,12),(110,12),(58,12),(17,30),(200,14),(236,18),(199,23),(163,13),(121,23),(63,9),(36,22),(64,17),(65,11),(122,9),(66,12),(19,35),(238,37),(60,15),(208,5),(174,16),(207,43),(173,41),(141,33),(192,27),(154,30),(129,5),(113,16),(111,72),(112,25),(114,18),(156,27),(155,27),(115,20),(59,40),(116,34),(117,12),(61,22),(157,21),(118,17),(130,18),(119,18),(158,60),(159,45),(226,11),(248,11),(249,21),(227,30),(257,11),(235,32),(228,39),(262,31),(251,30),(250,83),(229,30),(230,18),(193,50),(194,11),(231,14),(196,15),(252,13),(263,5),(253,11),(254,11),(255,11),(81,4),(233,52),(197,18),(232,82),(256,29),(234,53),(195,133),(198,28),(160,71),(161,57),(162,31),(120,114),(62,53),(18,26),(175,8),(142,8),(95,23),(55,8),(96,11),(41,20),(50,15),(245,9),(105,5),(246,13),(225,5),(190,16),(223,5),(217,65),(215,9),(189,39),(150,11),(149,6),(188,19),(148,9),(103,13),(106,5),(108,6),(152,19),(107,9),(49,6),(151,27),(104,28),(47,72),(48,25),(51,18),(54,24),(53,26),(14,18),(52,20),(13,40),(42,5),(97,16),(43,23),(98,29),(44,9),(143,57),(144,19),(99,28),(176,9),(259,1),(260,1),(258,32),(240,26),(216,33),(239,56),(209,36),(242,9),(241,34),(210,38),(243,3),(212,8),(261,19),(244,9),(214,8),(213,14),(211,42),(177,18),(181,11),(180,17),(218,10),(219,13),(247,5),(220,11),(221,11),(222,11),(136,4),(183,60),(186,20),(182,85),(184,29),(185,28),(179,81),(178,51),(224,15),(187,34),(145,63),(146,11),(100,66),(45,30),(11,66),(202,20),(237,26),(201,27),(164,17),(123,27),(67,11),(30,26),(68,25),(69,15),(124,11),(70,16),(20,51),(165,58),(125,44),(71,10),(33,19),(126,10),(72,10),(21,22),(166,70),(127,52),(73,12),(34,21),(128,12),(74,12),(22,30),(4,101)]
def BE:List (Nat×aa.Mode):=[(251,.edit),(250,.edit),(259,.edit),(260,.take),(211,.take),(165,.edit),(125,.edit),(71,.edit),(33,.edit),(126,.edit),(72,.edit),(21,.edit)]
def PL:aE C:=⟨fun f=>lookup f zf,fun f=>(lookup f CI).getD 0,fun f=>(lookup f BE).getD aa.Mode.read,[],[],[]⟩
end
end Go.Proofs.YtmapddgocpkgeaaGreat.Ev
