/- The program's types for the evaluator, looked up, and the table of calls. No conditions. -/
import Derived.Test.YtmapddgocpkgeaaGreatLibC
import Derived.WalkKit
import Derived.Test.YtmapddgocpkgeaaGreatProg
import Derived.Test.YtmapddgocpkgeaaGreatShelf
namespace Go.Proofs.YtmapddgocpkgeaaGreat.Ev
open Go.Proofs.YtmapddgocpkgeaaGreat.aa Go.RowKit
set_option linter.unusedVariables false
set_option maxRecDepth 100000
noncomputable section
structure iZ where
 f0:Int
 f1:Int
 f2:Int
def z160:iZ:=⟨(0:Int),(0:Int),(0:Int)⟩
structure aw where
 f0:Int
 f1:Int
 f2:Int
 f3:iZ
def z203:aw:=⟨(0:Int),(0:Int),(0:Int),z160⟩
structure az where
 f0:List aw
 f1:iZ
def DR:az:=⟨([]:List aw),z160⟩
structure fY where
 f0:Int
 f1:Int
def DV:fY:=⟨(0:Int),(0:Int)⟩
structure aO where
 f0:Int
 f1:Int
 f2:Int
def DH:aO:=⟨(0:Int),(0:Int),(0:Int)⟩
structure iw where
 f0:Int
 f1:Int
def DI:iw:=⟨(0:Int),(0:Int)⟩
abbrev wr (n:Int):Int:=IntKind.wrap .i64 n
abbrev dz (xs:List Int) (i:Int):Int:=xs.getD i.toNat (0:Int)
abbrev Dt (xs:List Bool) (i:Int):Bool:=xs.getD i.toNat false
abbrev EB (xs:List (List Int)) (i:Int):List Int:=xs.getD i.toNat ([]:List Int)
abbrev ak (xs:List aw) (i:Int):aw:=xs.getD i.toNat z203
abbrev cy (xs:List az) (i:Int):az:=xs.getD i.toNat DR
abbrev nw (xs:List fY) (i:Int):fY:=xs.getD i.toNat DV
abbrev gq (xs:List aO) (i:Int):aO:=xs.getD i.toNat DH
abbrev yg (xs:List iw) (i:Int):iw:=xs.getD i.toNat DI
def CZ:List (Nat×(Σ T:Type,T)):=[
 (3,⟨Int,(0:Int)⟩),
 (4,⟨Bool,false⟩),
 (5,⟨Int,(0:Int)⟩),
 (27,⟨List Int,([]:List Int)⟩),
 (204,⟨aw,z203⟩),
 (164,⟨az,DR⟩),
 (173,⟨fY,DV⟩),
 (179,⟨aO,DH⟩),
 (182,⟨iw,DI⟩)]
def U:gm:=⟨fun e=>(Df CZ e).1,fun e=>(Df CZ e).2⟩
def D8:List (Σ e,Dg U e):=[
 ⟨3,⟨fun(x:Int)=> .int .i64 x,fun v=>(match v with | .int .i64 y1=>some (y1:Int) | _=>none:Option Int)⟩⟩,
 ⟨4,⟨fun(x:Bool)=> .bool x,fun v=>(match v with | .bool y1=>some (y1:Bool) | _=>none:Option Bool)⟩⟩,
 ⟨5,⟨fun(x:Int)=> .int .u8 x,fun v=>(match v with | .int .u8 y1=>some (y1:Int) | _=>none:Option Int)⟩⟩,
 ⟨27,⟨fun(x:List Int)=> .sl 3 x,fun v=>(match v with | .sl 3 y1=>some (y1:List Int) | _=>none:Option (List Int))⟩⟩,
 ⟨204,⟨fun(x:aw)=> .agg [.int .i64 x.f0,.int .i64 x.f1,.int .i64 x.f2,.int .i64 x.f3.f0,.int .i64 x.f3.f1,.int .i64 x.f3.f2],fun v=>(match v with | .agg [.int .i64 y1,.int .i64 y2,.int .i64 y3,.int .i64 y4,.int .i64 y5,.int .i64 y6]=>some ((⟨y1,y2,y3,(⟨y4,y5,y6⟩:iZ)⟩:aw):aw) | _=>none:Option aw)⟩⟩,
 ⟨164,⟨fun(x:az)=> .agg [.sl 204 x.f0,.int .i64 x.f1.f0,.int .i64 x.f1.f1,.int .i64 x.f1.f2],fun v=>(match v with | .agg [.sl 204 y1,.int .i64 y2,.int .i64 y3,.int .i64 y4]=>some ((⟨y1,(⟨y2,y3,y4⟩:iZ)⟩:az):az) | _=>none:Option az)⟩⟩,
 ⟨173,⟨fun(x:fY)=> .agg [.int .i64 x.f0,.int .i64 x.f1],fun v=>(match v with | .agg [.int .i64 y1,.int .i64 y2]=>some ((⟨y1,y2⟩:fY):fY) | _=>none:Option fY)⟩⟩,
 ⟨179,⟨fun(x:aO)=> .agg [.int .i64 x.f0,.int .i64 x.f1,.int .i64 x.f2],fun v=>(match v with | .agg [.int .i64 y1,.int .i64 y2,.int .i64 y3]=>some ((⟨y1,y2,y3⟩:aO):aO) | _=>none:Option aO)⟩⟩,
 ⟨182,⟨fun(x:iw)=> .agg [.int .i64 x.f0,.int .i64 x.f1],fun v=>(match v with | .agg [.int .i64 y1,.int .i64 y2]=>some ((⟨y1,y2⟩:iw):iw) | _=>none:Option iw)⟩⟩]
def sV:List (Nat×Ty U):=[
 (3,.int .i64),
 (4,.bool),
 (5,.int .u8),
 (22,.slice 5),
 (24,.slice 164),
 (26,.struct [(0,24)] [.own true 164 ([]:List az)]),
 (27,.slice 3),
 (29,.struct [(0,3),(1,3),(2,3),(3,3)] [.int .i64 (0:Int),.int .i64 (0:Int),.int .i64 (0:Int),.int .i64 (0:Int)]),
 (31,.struct [(0,3),(1,3)] [.int .i64 (0:Int),.int .i64 (0:Int)]),
 (33,.struct [(0,27)] [.own true 3 ([]:List Int)]),
 (35,.struct [(0,3),(1,33)] [.int .i64 (0:Int),.own true 3 ([]:List Int)]),
 (37,.struct [(0,26),(1,27),(2,27),(3,3),(4,29),(8,31),(10,35),(12,3)] [.own true 164 ([]:List az),.own true 3 ([]:List Int),.own true 3 ([]:List Int),.int .i64 (0:Int),.int .i64 (0:Int),.int .i64 (0:Int),.int .i64 (0:Int),.int .i64 (0:Int),.int .i64 (0:Int),.int .i64 (0:Int),.int .i64 (0:Int),.own true 3 ([]:List Int),.int .i64 (0:Int)]),
 (43,.slice 4),
 (84,.ptr),
 (91,.slice 27),
 (93,.struct [(0,27),(1,3),(2,91),(3,3)] [.own true 3 ([]:List Int),.int .i64 (0:Int),.own true 27 ([]:List (List Int)),.int .i64 (0:Int)]),
 (132,.struct [(0,22),(1,3),(2,3)] [.own true 5 ([]:List Int),.int .i64 (0:Int),.int .i64 (0:Int)]),
 (136,.ptr),
 (141,.slice 182),
 (158,.slice 204),
 (161,.struct [(0,3),(1,3),(2,3)] [.int .i64 (0:Int),.int .i64 (0:Int),.int .i64 (0:Int)]),
 (164,.struct [(0,158),(1,161)] [.own true 204 ([]:List aw),.int .i64 (0:Int),.int .i64 (0:Int),.int .i64 (0:Int)]),
 (167,.int .u64),
 (169,.ptr),
 (170,.slice 173),
 (173,.struct [(0,3),(1,3)] [.int .i64 (0:Int),.int .i64 (0:Int)]),
 (174,.slice 179),
 (176,.struct [(0,174),(1,27)] [.own true 179 ([]:List aO),.own true 3 ([]:List Int)]),
 (179,.struct [(0,3),(1,3),(2,3)] [.int .i64 (0:Int),.int .i64 (0:Int),.int .i64 (0:Int)]),
 (182,.struct [(0,3),(1,3)] [.int .i64 (0:Int),.int .i64 (0:Int)]),
 (204,.struct [(0,3),(1,3),(2,3),(3,161)] [.int .i64 (0:Int),.int .i64 (0:Int),.int .i64 (0:Int),.int .i64 (0:Int),.int .i64 (0:Int),.int .i64 (0:Int)]),
 (205,.ptr),
 (206,.arr 8 4 [.bool false,.bool false,.bool false,.bool false,.bool false,.bool false,.bool false,.bool false]),
 (208,.struct [(0,176),(2,3),(3,3),(4,3),(5,27),(6,206),(14,27)] [.own true 179 ([]:List aO),.own true 3 ([]:List Int),.int .i64 (0:Int),.int .i64 (0:Int),.int .i64 (0:Int),.own true 3 ([]:List Int),.bool false,.bool false,.bool false,.bool false,.bool false,.bool false,.bool false,.bool false,.own true 3 ([]:List Int)]),
 (221,.struct [(0,27),(1,27),(2,27),(3,27),(4,27),(5,3),(6,4)] [.own true 3 ([]:List Int),.own true 3 ([]:List Int),.own true 3 ([]:List Int),.own true 3 ([]:List Int),.own true 3 ([]:List Int),.int .i64 (0:Int),.bool false]),
 (223,.struct [(0,221),(7,174),(8,27),(9,27),(10,3),(11,3)] [.own true 3 ([]:List Int),.own true 3 ([]:List Int),.own true 3 ([]:List Int),.own true 3 ([]:List Int),.own true 3 ([]:List Int),.int .i64 (0:Int),.bool false,.own true 179 ([]:List aO),.own true 3 ([]:List Int),.own true 3 ([]:List Int),.int .i64 (0:Int),.int .i64 (0:Int)]),
 (225,.ptr),
 (246,.ptr),
 (252,.ptr),
 (254,.struct [(0,206),(8,206)] [.bool false,.bool false,.bool false,.bool false,.bool false,.bool false,.bool false,.bool false,.bool false,.bool false,.bool false,.bool false,.bool false,.bool false,.bool false,.bool false])]
def ov:List (Nat×Nat):=[(3,8),(4,1),(5,1),(27,24),(204,48),(164,48),(173,16),(179,24),(182,16)]
def uE:List (Nat×Nat):=[(161,3),(204,6)]
def C:Ctx:=⟨U,fun e=>(C1 (AA U) D8 e).enc,fun e=>(C1 (AA U) D8 e).dec,fun t=>lookup t sV,fun e=>(lookup e ov).getD 0,fun t=>lookup t uE,[],fun _=>True⟩
theorem Er:vR (fun p:Σ e,Dg U e=>CV p.1 p.2) D8:=⟨⟨fun _=>rfl,fun _=>rfl,fun _=>rfl,fun v y h=>by dsimp only at h;split at h<;>first | (cases h;rfl) | cases h⟩,
 ⟨fun _=>rfl,fun _=>rfl,fun _=>rfl,fun v y h=>by dsimp only at h;split at h<;>first | (cases h;rfl) | cases h⟩,
 ⟨fun _=>rfl,fun _=>rfl,fun _=>rfl,fun v y h=>by dsimp only at h;split at h<;>first | (cases h;rfl) | cases h⟩,
 ⟨fun _=>rfl,fun _=>rfl,fun _=>rfl,fun v y h=>by dsimp only at h;split at h<;>first | (cases h;rfl) | cases h⟩,
 ⟨fun _=>rfl,fun _=>rfl,fun _=>rfl,fun v y h=>by dsimp only at h;split at h<;>first | (cases h;rfl) | cases h⟩,
 ⟨fun _=>rfl,fun _=>rfl,fun _=>rfl,fun v y h=>by dsimp only at h;split at h<;>first | (cases h;rfl) | cases h⟩,
 ⟨fun _=>rfl,fun _=>rfl,fun _=>rfl,fun v y h=>by dsimp only at h;split at h<;>first | (cases h;rfl) | cases h⟩,
 ⟨fun _=>rfl,fun _=>rfl,fun _=>rfl,fun v y h=>by dsimp only at h;split at h<;>first | (cases h;rfl) | cases h⟩,
 ⟨fun _=>rfl,fun _=>rfl,fun _=>rfl,fun v y h=>by dsimp only at h;split at h<;>first | (cases h;rfl) | cases h⟩,trivial⟩
theorem Ep:vR (fun p:Nat×Ty U=>jy Tryz.prog C p.1 p.2) sV:=⟨uB (by kernel_rfl) (by kernel_rfl),
 BF (by kernel_rfl) (by kernel_rfl),
 uB (by kernel_rfl) (by kernel_rfl),
 iL (by kernel_rfl) (by kernel_rfl),
 iL (by kernel_rfl) (by kernel_rfl),
 dY #[.slice none 0 0] (by kernel_rfl) (by kernel_rfl) (by kernel_rfl) (by kernel_rfl) (by kernel_rfl),
 iL (by kernel_rfl) (by kernel_rfl),
 dY #[.int .i64 0,.int .i64 0,.int .i64 0,.int .i64 0] (by kernel_rfl) (by kernel_rfl) (by kernel_rfl) (by kernel_rfl) (by kernel_rfl),
 dY #[.int .i64 0,.int .i64 0] (by kernel_rfl) (by kernel_rfl) (by kernel_rfl) (by kernel_rfl) (by kernel_rfl),
 dY #[.slice none 0 0] (by kernel_rfl) (by kernel_rfl) (by kernel_rfl) (by kernel_rfl) (by kernel_rfl),
 dY #[.int .i64 0,.slice none 0 0] (by kernel_rfl) (by kernel_rfl) (by kernel_rfl) (by kernel_rfl) (by kernel_rfl),
 dY #[.slice none 0 0,.slice none 0 0,.slice none 0 0,.int .i64 0,.int .i64 0,.int .i64 0,.int .i64 0,.int .i64 0,.int .i64 0,.int .i64 0,.int .i64 0,.slice none 0 0,.int .i64 0] (by kernel_rfl) (by kernel_rfl) (by kernel_rfl) (by kernel_rfl) (by kernel_rfl),
 iL (by kernel_rfl) (by kernel_rfl),
 lG (e:=132) (by kernel_rfl) (by kernel_rfl),
 iL (by kernel_rfl) (by kernel_rfl),
 dY #[.slice none 0 0,.int .i64 0,.slice none 0 0,.int .i64 0] (by kernel_rfl) (by kernel_rfl) (by kernel_rfl) (by kernel_rfl) (by kernel_rfl),
 dY #[.slice none 0 0,.int .i64 0,.int .i64 0] (by kernel_rfl) (by kernel_rfl) (by kernel_rfl) (by kernel_rfl) (by kernel_rfl),
 lG (e:=29) (by kernel_rfl) (by kernel_rfl),
 iL (by kernel_rfl) (by kernel_rfl),
 iL (by kernel_rfl) (by kernel_rfl),
 dY #[.int .i64 0,.int .i64 0,.int .i64 0] (by kernel_rfl) (by kernel_rfl) (by kernel_rfl) (by kernel_rfl) (by kernel_rfl),
 dY #[.slice none 0 0,.int .i64 0,.int .i64 0,.int .i64 0] (by kernel_rfl) (by kernel_rfl) (by kernel_rfl) (by kernel_rfl) (by kernel_rfl),
 uB (by kernel_rfl) (by kernel_rfl),
 lG (e:=93) (by kernel_rfl) (by kernel_rfl),
 iL (by kernel_rfl) (by kernel_rfl),
 dY #[.int .i64 0,.int .i64 0] (by kernel_rfl) (by kernel_rfl) (by kernel_rfl) (by kernel_rfl) (by kernel_rfl),
 iL (by kernel_rfl) (by kernel_rfl),
 dY #[.slice none 0 0,.slice none 0 0] (by kernel_rfl) (by kernel_rfl) (by kernel_rfl) (by kernel_rfl) (by kernel_rfl),
 dY #[.int .i64 0,.int .i64 0,.int .i64 0] (by kernel_rfl) (by kernel_rfl) (by kernel_rfl) (by kernel_rfl) (by kernel_rfl),
 dY #[.int .i64 0,.int .i64 0] (by kernel_rfl) (by kernel_rfl) (by kernel_rfl) (by kernel_rfl) (by kernel_rfl),
 dY #[.int .i64 0,.int .i64 0,.int .i64 0,.int .i64 0,.int .i64 0,.int .i64 0] (by kernel_rfl) (by kernel_rfl) (by kernel_rfl) (by kernel_rfl) (by kernel_rfl),
 lG (e:=208) (by kernel_rfl) (by kernel_rfl),
 B9 #[.bool false,.bool false,.bool false,.bool false,.bool false,.bool false,.bool false,.bool false] (by kernel_rfl) (by kernel_rfl) (by kernel_rfl) (by kernel_rfl) (by kernel_rfl) (by kernel_rfl),
 dY #[.slice none 0 0,.slice none 0 0,.int .i64 0,.int .i64 0,.int .i64 0,.slice none 0 0,.bool false,.bool false,.bool false,.bool false,.bool false,.bool false,.bool false,.bool false,.slice none 0 0] (by kernel_rfl) (by kernel_rfl) (by kernel_rfl) (by kernel_rfl) (by kernel_rfl),
 dY #[.slice none 0 0,.slice none 0 0,.slice none 0 0,.slice none 0 0,.slice none 0 0,.int .i64 0,.bool false] (by kernel_rfl) (by kernel_rfl) (by kernel_rfl) (by kernel_rfl) (by kernel_rfl),
 dY #[.slice none 0 0,.slice none 0 0,.slice none 0 0,.slice none 0 0,.slice none 0 0,.int .i64 0,.bool false,.slice none 0 0,.slice none 0 0,.slice none 0 0,.int .i64 0,.int .i64 0] (by kernel_rfl) (by kernel_rfl) (by kernel_rfl) (by kernel_rfl) (by kernel_rfl),
 lG (e:=223) (by kernel_rfl) (by kernel_rfl),
 lG (e:=221) (by kernel_rfl) (by kernel_rfl),
 lG (e:=254) (by kernel_rfl) (by kernel_rfl),
 dY #[.bool false,.bool false,.bool false,.bool false,.bool false,.bool false,.bool false,.bool false,.bool false,.bool false,.bool false,.bool false,.bool false,.bool false,.bool false,.bool false] (by kernel_rfl) (by kernel_rfl) (by kernel_rfl) (by kernel_rfl) (by kernel_rfl),trivial⟩
theorem EA:jD Tryz.prog C 3:=iP (.int .i64 0) 1 8 (fun x T h ha=>by have h':(some (.int .i64):Option (Ty U))=some T:=h;cases h';cases ha) (by kernel_rfl) (by kernel_rfl) (by kernel_rfl) (by decide) (by decide) (by kernel_rfl)
theorem ED:jD Tryz.prog C 4:=iP (.bool false) 1 1 (fun x T h ha=>by have h':(some (.bool):Option (Ty U))=some T:=h;cases h';cases ha) (by kernel_rfl) (by kernel_rfl) (by kernel_rfl) (by decide) (by decide) (by kernel_rfl)
theorem EC:jD Tryz.prog C 5:=iP (.int .u8 0) 1 1 (fun x T h ha=>by have h':(some (.int .u8):Option (Ty U))=some T:=h;cases h';cases ha) (by kernel_rfl) (by kernel_rfl) (by kernel_rfl) (by decide) (by decide) (by kernel_rfl)
theorem El:jD Tryz.prog C 27:=iP (.slice none 0 0) 1 24 (fun x T h ha=>by have h':(some (.slice 3):Option (Ty U))=some T:=h;cases h';cases ha) (by kernel_rfl) (by kernel_rfl) (by kernel_rfl) (by decide) (by decide) (by kernel_rfl)
theorem D0:jD Tryz.prog C 164:=iP (.agg #[.slice none 0 0,.int .i64 0,.int .i64 0,.int .i64 0]) 4 48 (fun x T _ _=>⟨_,rfl⟩) (by kernel_rfl) (by kernel_rfl) (by kernel_rfl) (by decide) (by decide) (by kernel_rfl)
theorem DX:jD Tryz.prog C 173:=iP (.agg #[.int .i64 0,.int .i64 0]) 2 16 (fun x T _ _=>⟨_,rfl⟩) (by kernel_rfl) (by kernel_rfl) (by kernel_rfl) (by decide) (by decide) (by kernel_rfl)
theorem DE:jD Tryz.prog C 179:=iP (.agg #[.int .i64 0,.int .i64 0,.int .i64 0]) 3 24 (fun x T _ _=>⟨_,rfl⟩) (by kernel_rfl) (by kernel_rfl) (by kernel_rfl) (by decide) (by decide) (by kernel_rfl)
theorem D4:jD Tryz.prog C 182:=iP (.agg #[.int .i64 0,.int .i64 0]) 2 16 (fun x T _ _=>⟨_,rfl⟩) (by kernel_rfl) (by kernel_rfl) (by kernel_rfl) (by decide) (by decide) (by kernel_rfl)
theorem DN:jD Tryz.prog C 204:=iP (.agg #[.int .i64 0,.int .i64 0,.int .i64 0,.int .i64 0,.int .i64 0,.int .i64 0]) 6 48 (fun x T _ _=>⟨_,rfl⟩) (by kernel_rfl) (by kernel_rfl) (by kernel_rfl) (by decide) (by decide) (by kernel_rfl)
theorem Ej:vR (fun p:Nat×Ty U=>∀e,p.2= .slice e→jD Tryz.prog C e) sV:=⟨(fun e h=>by cases h),(fun e h=>by cases h),(fun e h=>by cases h),(fun e h=>by cases h;exact EC),(fun e h=>by cases h;exact D0),(fun e h=>by cases h),(fun e h=>by cases h;exact EA),(fun e h=>by cases h),(fun e h=>by cases h),(fun e h=>by cases h),(fun e h=>by cases h),(fun e h=>by cases h),(fun e h=>by cases h;exact ED),(fun e h=>by cases h),(fun e h=>by cases h;exact El),(fun e h=>by cases h),(fun e h=>by cases h),(fun e h=>by cases h),(fun e h=>by cases h;exact D4),(fun e h=>by cases h;exact DN),(fun e h=>by cases h),(fun e h=>by cases h),(fun e h=>by cases h),(fun e h=>by cases h),(fun e h=>by cases h;exact DX),(fun e h=>by cases h),(fun e h=>by cases h;exact DE),(fun e h=>by cases h),(fun e h=>by cases h),(fun e h=>by cases h),(fun e h=>by cases h),(fun e h=>by cases h),(fun e h=>by cases h),(fun e h=>by cases h),(fun e h=>by cases h),(fun e h=>by cases h),(fun e h=>by cases h),(fun e h=>by cases h),(fun e h=>by cases h),(fun e h=>by cases h),trivial⟩
def xw (x0 x1 x2 y0 y1 y2:Int):Bool:=(x0==y0)&&((x1==y1)&&((x2==y2)&&true))
theorem B2 (d:Nat) (w:World) (k0 k1 k2:IntKind) (x0 x1 x2 y0 y1 y2:Int):(Op.equalIn (d+2) 161 (.agg #[.int k0 x0,.int k1 x1,.int k2 x2]) (.agg #[.int k0 y0,.int k1 y1,.int k2 y2])).run Tryz.prog w= .ok (xw x0 x1 x2 y0 y1 y2) w:=by
 refine xf Tryz.underlying161 (by kernel_rfl) ?_;refine nv (by rfl) (by go_simp;rfl) (by go_simp;rfl) (by go_simp) ?_;refine nv (by rfl) (by go_simp;rfl) (by go_simp;rfl) (by go_simp) ?_;refine nv (by rfl) (by go_simp;rfl) (by go_simp;rfl) (by go_simp) ?_;exact eq_nil
theorem DF:Cv Tryz.prog 161 3:=fun ps w h=>match ps,h with
 | [p0,p1,p2],_=>⟨by
  have e:=B2 9998 w p0.1 p1.1 p2.1 p0.2.1 p1.2.1 p2.2.1 p0.2.2 p1.2.2 p2.2.2;have hb:∀a b:Int,(a==b)=decide (a=b):=fun _ _=>rfl;exact e.trans (by simp[xw,List.all,hb]),by kernel_rfl⟩
def Ci (x0 x1 x2 x3 x4 x5 y0 y1 y2 y3 y4 y5:Int):Bool:=(x0==y0)&&((x1==y1)&&((x2==y2)&&((xw x3 x4 x5 y3 y4 y5)&&true)))
theorem Dm (d:Nat) (w:World) (k0 k1 k2 k3 k4 k5:IntKind) (x0 x1 x2 x3 x4 x5 y0 y1 y2 y3 y4 y5:Int):(Op.equalIn (d+3) 204 (.agg #[.int k0 x0,.int k1 x1,.int k2 x2,.int k3 x3,.int k4 x4,.int k5 x5]) (.agg #[.int k0 y0,.int k1 y1,.int k2 y2,.int k3 y3,.int k4 y4,.int k5 y5])).run Tryz.prog w= .ok (Ci x0 x1 x2 x3 x4 x5 y0 y1 y2 y3 y4 y5) w:=by
 refine xf Tryz.underlying204 (by kernel_rfl) ?_;refine nv (by rfl) (by go_simp;rfl) (by go_simp;rfl) (by go_simp) ?_;refine nv (by rfl) (by go_simp;rfl) (by go_simp;rfl) (by go_simp) ?_;refine nv (by rfl) (by go_simp;rfl) (by go_simp;rfl) (by go_simp) ?_;refine nv (a:= .agg #[.int k3 x3,.int k4 x4,.int k5 x5]) (b:= .agg #[.int k3 y3,.int k4 y4,.int k5 y5]) (by rfl) (by go_simp) (by go_simp) (B2 d w k3 k4 k5 x3 x4 x5 y3 y4 y5) ?_;exact eq_nil
theorem DU:Cv Tryz.prog 204 6:=fun ps w h=>match ps,h with
 | [p0,p1,p2,p3,p4,p5],_=>⟨by
  have e:=Dm 9997 w p0.1 p1.1 p2.1 p3.1 p4.1 p5.1 p0.2.1 p1.2.1 p2.2.1 p3.2.1 p4.2.1 p5.2.1 p0.2.2 p1.2.2 p2.2.2 p3.2.2 p4.2.2 p5.2.2;have hb:∀a b:Int,(a==b)=decide (a=b):=fun _ _=>rfl;exact e.trans (by simp[xw,Ci,List.all,hb]),by kernel_rfl⟩
theorem Et:vR (fun p:Nat×Nat=>Cv Tryz.prog p.1 p.2) uE:=⟨DF,DU,trivial⟩
theorem G:aa.Good Tryz.prog C:=CT (U:=U) (xk:=D8) (sV:=sV) (ov:=ov) (uE:=uE) rfl Er Ep (fun t e h=>Ej.mem _ (nx h) e rfl) Et (fun _ _ _ _=>trivial)
abbrev Pg:Program:=Tryz.prog
theorem mixed:Pg.follows .mixedOrders=true:=by kernel_rfl
abbrev iE.A:=Bool
def iE.v:iE.A→PV U:=fun r=> .bool r
def iE.o:iE.A→List (PV U):=fun r=>[]
abbrev eJ.A:=(List Int)×Int×Int
def eJ.v:eJ.A→PV U:=fun r=> .box [.sl 5 r.1,.int .i64 r.2.1,.int .i64 r.2.2]
def eJ.o:eJ.A→List (PV U):=fun r=>[]
abbrev cU.A:=Int×(List Int)×Int×Int
def cU.v:cU.A→PV U:=fun r=> .int .i64 r.1
def cU.o:cU.A→List (PV U):=fun r=>[.box [.sl 5 r.2.1,.int .i64 r.2.2.1,.int .i64 r.2.2.2]]
abbrev ar.A:=Int×(List Int)×Int×Int
def ar.v:ar.A→PV U:=fun r=> .int .i64 r.1
def ar.o:ar.A→List (PV U):=fun r=>[.box [.sl 5 r.2.1,.int .i64 r.2.2.1,.int .i64 r.2.2.2]]
abbrev bF.A:=Bool×(List Int)×Int×Int
def bF.v:bF.A→PV U:=fun r=> .bool r.1
def bF.o:bF.A→List (PV U):=fun r=>[.box [.sl 5 r.2.1,.int .i64 r.2.2.1,.int .i64 r.2.2.2]]
abbrev b7.A:=Int×(List Int)×Int×Int
def b7.v:b7.A→PV U:=fun r=> .int .i64 r.1
def b7.o:b7.A→List (PV U):=fun r=>[.box [.sl 5 r.2.1,.int .i64 r.2.2.1,.int .i64 r.2.2.2]]
abbrev cH.A:=Int×(List Int)×Int×Int
def cH.v:cH.A→PV U:=fun r=> .int .i64 r.1
def cH.o:cH.A→List (PV U):=fun r=>[.box [.sl 5 r.2.1,.int .i64 r.2.2.1,.int .i64 r.2.2.2]]
abbrev cW.A:=Int×Int×Int×(List Int)×Int×Int
def cW.v:cW.A→PV U:=fun r=> .agg [.int .i64 r.1,.int .i64 r.2.1,.int .i64 r.2.2.1]
def cW.o:cW.A→List (PV U):=fun r=>[.box [.sl 5 r.2.2.2.1,.int .i64 r.2.2.2.2.1,.int .i64 r.2.2.2.2.2]]
abbrev dE.A:=Int×Int×Int×Int×Int×Int×(List Int)×Int×Int
def dE.v:dE.A→PV U:=fun r=> .agg [.int .i64 r.1,.int .i64 r.2.1,.int .i64 r.2.2.1,.int .i64 r.2.2.2.1,.int .i64 r.2.2.2.2.1,.int .i64 r.2.2.2.2.2.1]
def dE.o:dE.A→List (PV U):=fun r=>[.box [.sl 5 r.2.2.2.2.2.2.1,.int .i64 r.2.2.2.2.2.2.2.1,.int .i64 r.2.2.2.2.2.2.2.2]]
abbrev bb.A:=(List aw)×(List Int)×Int×Int
def bb.v:bb.A→PV U:=fun r=> .own true 204 r.1
def bb.o:bb.A→List (PV U):=fun r=>[.box [.sl 5 r.2.1,.int .i64 r.2.2.1,.int .i64 r.2.2.2]]
abbrev fm.A:=(List aw)×(List Int)×Int×Int
def fm.v:fm.A→PV U:=fun r=> .own true 204 r.1
def fm.o:fm.A→List (PV U):=fun r=>[.box [.sl 5 r.2.1,.int .i64 r.2.2.1,.int .i64 r.2.2.2]]
abbrev cF.A:=(List az)×(List Int)×Int×Int
def cF.v:cF.A→PV U:=fun r=> .agg [.own true 164 r.1]
def cF.o:cF.A→List (PV U):=fun r=>[.box [.sl 5 r.2.1,.int .i64 r.2.2.1,.int .i64 r.2.2.2]]
abbrev eY.A:=Int×Int×Int×Int×(List Int)×Int×Int
def eY.v:eY.A→PV U:=fun r=> .agg [.int .i64 r.1,.int .i64 r.2.1,.int .i64 r.2.2.1,.int .i64 r.2.2.2.1]
def eY.o:eY.A→List (PV U):=fun r=>[.box [.sl 5 r.2.2.2.2.1,.int .i64 r.2.2.2.2.2.1,.int .i64 r.2.2.2.2.2.2]]
abbrev bK.A:=(List Int)×(List Int)×Int×Int
def bK.v:bK.A→PV U:=fun r=> .own true 3 r.1
def bK.o:bK.A→List (PV U):=fun r=>[.box [.sl 5 r.2.1,.int .i64 r.2.2.1,.int .i64 r.2.2.2]]
abbrev aI.A:=(List Int)×(List Int)×Int×Int
def aI.v:aI.A→PV U:=fun r=> .own true 3 r.1
def aI.o:aI.A→List (PV U):=fun r=>[.box [.sl 5 r.2.1,.int .i64 r.2.2.1,.int .i64 r.2.2.2]]
abbrev aE.A:=Bool
def aE.v:aE.A→PV U:=fun r=> .bool r
def aE.o:aE.A→List (PV U):=fun r=>[]
abbrev dH.A:=Bool
def dH.v:dH.A→PV U:=fun r=> .bool r
def dH.o:dH.A→List (PV U):=fun r=>[]
abbrev fc.A:=Bool
def fc.v:fc.A→PV U:=fun r=> .bool r
def fc.o:fc.A→List (PV U):=fun r=>[]
abbrev fW.A:=(List Int)×Bool
def fW.v:fW.A→PV U:=fun r=> .gG [.own true 3 r.1,.bool r.2]
def fW.o:fW.A→List (PV U):=fun r=>[]
abbrev eV.A:=Int×Int×Int×Int×Int×Int
def eV.v:eV.A→PV U:=fun r=> .agg [.int .i64 r.1,.int .i64 r.2.1,.int .i64 r.2.2.1,.int .i64 r.2.2.2.1,.int .i64 r.2.2.2.2.1,.int .i64 r.2.2.2.2.2]
def eV.o:eV.A→List (PV U):=fun r=>[]
abbrev dQ.A:=Bool
def dQ.v:dQ.A→PV U:=fun r=> .bool r
def dQ.o:dQ.A→List (PV U):=fun r=>[]
abbrev cq.A:=Bool
def cq.v:cq.A→PV U:=fun r=> .bool r
def cq.o:cq.A→List (PV U):=fun r=>[]
abbrev fV.A:=Bool
def fV.v:fV.A→PV U:=fun r=> .bool r
def fV.o:fV.A→List (PV U):=fun r=>[]
abbrev bx.A:=Bool
def bx.v:bx.A→PV U:=fun r=> .bool r
def bx.o:bx.A→List (PV U):=fun r=>[]
abbrev cv.A:=Bool
def cv.v:cv.A→PV U:=fun r=> .bool r
def cv.o:cv.A→List (PV U):=fun r=>[]
abbrev eN.A:=Bool
def eN.v:eN.A→PV U:=fun r=> .bool r
def eN.o:eN.A→List (PV U):=fun r=>[]
abbrev bM.A:=Bool
def bM.v:bM.A→PV U:=fun r=> .bool r
def bM.o:bM.A→List (PV U):=fun r=>[]
abbrev ca.A:=(List az)
def ca.v:ca.A→PV U:=fun r=> .agg [.own true 164 r]
def ca.o:ca.A→List (PV U):=fun r=>[]
abbrev aV.A:=(List az)×(List Int)×(List Int)×Int×Int×Int×Int×Int×Int×Int×Int×(List Int)×Int×Bool
def aV.v:aV.A→PV U:=fun r=> .gG [.agg [.own true 164 r.1,.own true 3 r.2.1,.own true 3 r.2.2.1,.int .i64 r.2.2.2.1,.int .i64 r.2.2.2.2.1,.int .i64 r.2.2.2.2.2.1,.int .i64 r.2.2.2.2.2.2.1,.int .i64 r.2.2.2.2.2.2.2.1,.int .i64 r.2.2.2.2.2.2.2.2.1,.int .i64 r.2.2.2.2.2.2.2.2.2.1,.int .i64 r.2.2.2.2.2.2.2.2.2.2.1,.own true 3 r.2.2.2.2.2.2.2.2.2.2.2.1,.int .i64 r.2.2.2.2.2.2.2.2.2.2.2.2.1],.bool r.2.2.2.2.2.2.2.2.2.2.2.2.2]
def aV.o:aV.A→List (PV U):=fun r=>[]
abbrev bz.A:=Int
def bz.v:bz.A→PV U:=fun r=> .int .i64 r
def bz.o:bz.A→List (PV U):=fun r=>[]
abbrev bk.A:=Int×Int×Int
def bk.v:bk.A→PV U:=fun r=> .gG [.int .i64 r.1,.int .i64 r.2.1,.int .i64 r.2.2]
def bk.o:bk.A→List (PV U):=fun r=>[]
abbrev fC.A:=Bool
def fC.v:fC.A→PV U:=fun r=> .bool r
def fC.o:fC.A→List (PV U):=fun r=>[]
abbrev fw.A:=Bool
def fw.v:fw.A→PV U:=fun r=> .bool r
def fw.o:fw.A→List (PV U):=fun r=>[]
abbrev eO.A:=(List Int)
def eO.v:eO.A→PV U:=fun r=> .own true 3 r
def eO.o:eO.A→List (PV U):=fun r=>[]
abbrev bT.A:=Bool
def bT.v:bT.A→PV U:=fun r=> .bool r
def bT.o:bT.A→List (PV U):=fun r=>[]
abbrev fu.A:=Bool
def fu.v:fu.A→PV U:=fun r=> .bool r
def fu.o:fu.A→List (PV U):=fun r=>[]
abbrev eZ.A:=Bool
def eZ.v:eZ.A→PV U:=fun r=> .bool r
def eZ.o:eZ.A→List (PV U):=fun r=>[]
abbrev eQ.A:=Int×(List Int)
def eQ.v:eQ.A→PV U:=fun r=> .agg [.int .i64 r.1,.own true 3 r.2]
def eQ.o:eQ.A→List (PV U):=fun r=>[]
abbrev cV.A:=(List az)×(List Int)×(List Int)×Int×Int×Int×Int×Int×Int×Int×Int×(List Int)×Int
def cV.v:cV.A→PV U:=fun r=> .agg [.own true 164 r.1,.own true 3 r.2.1,.own true 3 r.2.2.1,.int .i64 r.2.2.2.1,.int .i64 r.2.2.2.2.1,.int .i64 r.2.2.2.2.2.1,.int .i64 r.2.2.2.2.2.2.1,.int .i64 r.2.2.2.2.2.2.2.1,.int .i64 r.2.2.2.2.2.2.2.2.1,.int .i64 r.2.2.2.2.2.2.2.2.2.1,.int .i64 r.2.2.2.2.2.2.2.2.2.2.1,.own true 3 r.2.2.2.2.2.2.2.2.2.2.2.1,.int .i64 r.2.2.2.2.2.2.2.2.2.2.2.2]
def cV.o:cV.A→List (PV U):=fun r=>[]
abbrev dB.A:=Int
def dB.v:dB.A→PV U:=fun r=> .int .i64 r
def dB.o:dB.A→List (PV U):=fun r=>[]
abbrev ff.A:=Int×Int×Int×Int
def ff.v:ff.A→PV U:=fun r=> .agg [.int .i64 r.1,.int .i64 r.2.1,.int .i64 r.2.2.1,.int .i64 r.2.2.2]
def ff.o:ff.A→List (PV U):=fun r=>[]
abbrev gi.A:=Int×Int
def gi.v:gi.A→PV U:=fun r=> .agg [.int .i64 r.1,.int .i64 r.2]
def gi.o:gi.A→List (PV U):=fun r=>[]
abbrev fH.A:=Int×Int
def fH.v:fH.A→PV U:=fun r=> .agg [.int .i64 r.1,.int .i64 r.2]
def fH.o:fH.A→List (PV U):=fun r=>[]
abbrev ba.A:=(List fY)
def ba.v:ba.A→PV U:=fun r=> .own true 173 r
def ba.o:ba.A→List (PV U):=fun r=>[]
abbrev bJ.A:=(List Int)
def bJ.v:bJ.A→PV U:=fun r=> .own true 3 r
def bJ.o:bJ.A→List (PV U):=fun r=>[]
abbrev gB.A:=Bool
def gB.v:gB.A→PV U:=fun r=> .bool r
def gB.o:gB.A→List (PV U):=fun r=>[]
abbrev cO.A:=Bool
def cO.v:cO.A→PV U:=fun r=> .bool r
def cO.o:cO.A→List (PV U):=fun r=>[]
abbrev bV.A:=(List Int)
def bV.v:bV.A→PV U:=fun r=> .own true 3 r
def bV.o:bV.A→List (PV U):=fun r=>[]
abbrev di.A:=(List Int)
def di.v:di.A→PV U:=fun r=> .own true 3 r
def di.o:di.A→List (PV U):=fun r=>[]
abbrev eT.A:=Bool
def eT.v:eT.A→PV U:=fun r=> .bool r
def eT.o:eT.A→List (PV U):=fun r=>[]
abbrev cn.A:=Int
def cn.v:cn.A→PV U:=fun r=> .int .i64 r
def cn.o:cn.A→List (PV U):=fun r=>[]
abbrev cz.A:=(List Int)
def cz.v:cz.A→PV U:=fun r=> .own true 3 r
def cz.o:cz.A→List (PV U):=fun r=>[]
abbrev dh.A:=(List Int)
def dh.v:dh.A→PV U:=fun r=> .own true 3 r
def dh.o:dh.A→List (PV U):=fun r=>[]
abbrev cl.A:=(List Bool)×(List Bool)
def cl.v:cl.A→PV U:=fun r=> .gG []
def cl.o:cl.A→List (PV U):=fun r=>[.own true 4 r.1,.own true 4 r.2]
abbrev br.A:=(List Bool)×(List Bool)
def br.v:br.A→PV U:=fun r=> .gG []
def br.o:br.A→List (PV U):=fun r=>[.own true 4 r.1,.own true 4 r.2]
abbrev cR.A:=(List Int)
def cR.v:cR.A→PV U:=fun r=> .own true 3 r
def cR.o:cR.A→List (PV U):=fun r=>[]
abbrev cK.A:=Bool
def cK.v:cK.A→PV U:=fun r=> .bool r
def cK.o:cK.A→List (PV U):=fun r=>[]
abbrev dq.A:=(List Int)
def dq.v:dq.A→PV U:=fun r=> .own true 3 r
def dq.o:dq.A→List (PV U):=fun r=>[]
abbrev fg.A:=(List Int)
def fg.v:fg.A→PV U:=fun r=> .own true 3 r
def fg.o:fg.A→List (PV U):=fun r=>[]
abbrev fl.A:=Int
def fl.v:fl.A→PV U:=fun r=> .int .i64 r
def fl.o:fl.A→List (PV U):=fun r=>[]
abbrev ez.A:=(List Int)×(List Int)×(List Int)×(List Int)×(List Int)×Int×Bool×(List aO)×(List Int)×(List Int)×Int×Int
def ez.v:ez.A→PV U:=fun r=> .gG []
def ez.o:ez.A→List (PV U):=fun r=>[.box [.own true 3 r.1,.own true 3 r.2.1,.own true 3 r.2.2.1,.own true 3 r.2.2.2.1,.sl 3 r.2.2.2.2.1,.int .i64 r.2.2.2.2.2.1,.bool r.2.2.2.2.2.2.1,.own true 179 r.2.2.2.2.2.2.2.1,.own true 3 r.2.2.2.2.2.2.2.2.1,.own true 3 r.2.2.2.2.2.2.2.2.2.1,.int .i64 r.2.2.2.2.2.2.2.2.2.2.1,.int .i64 r.2.2.2.2.2.2.2.2.2.2.2]]
abbrev eE.A:=Int
def eE.v:eE.A→PV U:=fun r=> .int .i64 r
def eE.o:eE.A→List (PV U):=fun r=>[]
abbrev bP.A:=Int
def bP.v:bP.A→PV U:=fun r=> .int .i64 r
def bP.o:bP.A→List (PV U):=fun r=>[]
abbrev dk.A:=Int
def dk.v:dk.A→PV U:=fun r=> .int .i64 r
def dk.o:dk.A→List (PV U):=fun r=>[]
abbrev dP.A:=Int
def dP.v:dP.A→PV U:=fun r=> .int .i64 r
def dP.o:dP.A→List (PV U):=fun r=>[]
abbrev dZ.A:=Int
def dZ.v:dZ.A→PV U:=fun r=> .int .i64 r
def dZ.o:dZ.A→List (PV U):=fun r=>[]
abbrev fJ.A:=Int
def fJ.v:fJ.A→PV U:=fun r=> .int .i64 r
def fJ.o:fJ.A→List (PV U):=fun r=>[]
abbrev cw.A:=Int
def cw.v:cw.A→PV U:=fun r=> .int .i64 r
def cw.o:cw.A→List (PV U):=fun r=>[]
abbrev bX.A:=(List Int)×(List Int)×(List Int)×(List Int)×(List Int)×Int×Bool×(List aO)×(List Int)×(List Int)×Int×Int
def bX.v:bX.A→PV U:=fun r=> .gG []
def bX.o:bX.A→List (PV U):=fun r=>[.box [.own true 3 r.1,.own true 3 r.2.1,.own true 3 r.2.2.1,.own true 3 r.2.2.2.1,.sl 3 r.2.2.2.2.1,.int .i64 r.2.2.2.2.2.1,.bool r.2.2.2.2.2.2.1,.own true 179 r.2.2.2.2.2.2.2.1,.own true 3 r.2.2.2.2.2.2.2.2.1,.own true 3 r.2.2.2.2.2.2.2.2.2.1,.int .i64 r.2.2.2.2.2.2.2.2.2.2.1,.int .i64 r.2.2.2.2.2.2.2.2.2.2.2]]
abbrev bO.A:=(List Int)×(List Int)×(List Int)×(List Int)×(List Int)×Int×Bool×(List aO)×(List Int)×(List Int)×Int×Int
def bO.v:bO.A→PV U:=fun r=> .gG []
def bO.o:bO.A→List (PV U):=fun r=>[.box [.own true 3 r.1,.own true 3 r.2.1,.own true 3 r.2.2.1,.own true 3 r.2.2.2.1,.sl 3 r.2.2.2.2.1,.int .i64 r.2.2.2.2.2.1,.bool r.2.2.2.2.2.2.1,.own true 179 r.2.2.2.2.2.2.2.1,.own true 3 r.2.2.2.2.2.2.2.2.1,.own true 3 r.2.2.2.2.2.2.2.2.2.1,.int .i64 r.2.2.2.2.2.2.2.2.2.2.1,.int .i64 r.2.2.2.2.2.2.2.2.2.2.2]]
abbrev bH.A:=Int
def bH.v:bH.A→PV U:=fun r=> .int .i64 r
def bH.o:bH.A→List (PV U):=fun r=>[]
abbrev eB.A:=Int×(List Int)×(List Int)×(List Int)×(List Int)×(List Int)×Int×Bool×(List aO)×(List Int)×(List Int)×Int×Int
def eB.v:eB.A→PV U:=fun r=> .int .i64 r.1
def eB.o:eB.A→List (PV U):=fun r=>[.box [.own true 3 r.2.1,.own true 3 r.2.2.1,.own true 3 r.2.2.2.1,.own true 3 r.2.2.2.2.1,.sl 3 r.2.2.2.2.2.1,.int .i64 r.2.2.2.2.2.2.1,.bool r.2.2.2.2.2.2.2.1,.own true 179 r.2.2.2.2.2.2.2.2.1,.own true 3 r.2.2.2.2.2.2.2.2.2.1,.own true 3 r.2.2.2.2.2.2.2.2.2.2.1,.int .i64 r.2.2.2.2.2.2.2.2.2.2.2.1,.int .i64 r.2.2.2.2.2.2.2.2.2.2.2.2]]
abbrev aq.A:=(List Int)×(List Int)×(List Int)×(List Int)×(List Int)×Int×Bool×(List aO)×(List Int)×(List Int)×Int×Int
def aq.v:aq.A→PV U:=fun r=> .gG []
def aq.o:aq.A→List (PV U):=fun r=>[.box [.own true 3 r.1,.own true 3 r.2.1,.own true 3 r.2.2.1,.own true 3 r.2.2.2.1,.sl 3 r.2.2.2.2.1,.int .i64 r.2.2.2.2.2.1,.bool r.2.2.2.2.2.2.1,.own true 179 r.2.2.2.2.2.2.2.1,.own true 3 r.2.2.2.2.2.2.2.2.1,.own true 3 r.2.2.2.2.2.2.2.2.2.1,.int .i64 r.2.2.2.2.2.2.2.2.2.2.1,.int .i64 r.2.2.2.2.2.2.2.2.2.2.2]]
abbrev dU.A:=Int
def dU.v:dU.A→PV U:=fun r=> .int .i64 r
def dU.o:dU.A→List (PV U):=fun r=>[]
abbrev eD.A:=(List aO)×(List Int)
def eD.v:eD.A→PV U:=fun r=> .agg [.own true 179 r.1,.own true 3 r.2]
def eD.o:eD.A→List (PV U):=fun r=>[]
abbrev cm.A:=Int
def cm.v:cm.A→PV U:=fun r=> .int .i64 r
def cm.o:cm.A→List (PV U):=fun r=>[]
abbrev cA.A:=Int
def cA.v:cA.A→PV U:=fun r=> .int .i64 r
def cA.o:cA.A→List (PV U):=fun r=>[]
abbrev bD.A:=(List Int)×Int×(List (List Int))×Int
def bD.v:bD.A→PV U:=fun r=> .agg [.own true 3 r.1,.int .i64 r.2.1,.own true 27 r.2.2.1,.int .i64 r.2.2.2]
def bD.o:bD.A→List (PV U):=fun r=>[]
abbrev eM.A:=(List az)×(List Int)×(List Int)×Int×Int×Int×Int×Int×Int×Int×Int×(List Int)×Int
def eM.v:eM.A→PV U:=fun r=> .agg [.own true 164 r.1,.own true 3 r.2.1,.own true 3 r.2.2.1,.int .i64 r.2.2.2.1,.int .i64 r.2.2.2.2.1,.int .i64 r.2.2.2.2.2.1,.int .i64 r.2.2.2.2.2.2.1,.int .i64 r.2.2.2.2.2.2.2.1,.int .i64 r.2.2.2.2.2.2.2.2.1,.int .i64 r.2.2.2.2.2.2.2.2.2.1,.int .i64 r.2.2.2.2.2.2.2.2.2.2.1,.own true 3 r.2.2.2.2.2.2.2.2.2.2.2.1,.int .i64 r.2.2.2.2.2.2.2.2.2.2.2.2]
def eM.o:eM.A→List (PV U):=fun r=>[]
abbrev dL.A:=(List az)×(List Int)×(List Int)×Int×Int×Int×Int×Int×Int×Int×Int×(List Int)×Int×Bool
def dL.v:dL.A→PV U:=fun r=> .gG [.agg [.own true 164 r.1,.own true 3 r.2.1,.own true 3 r.2.2.1,.int .i64 r.2.2.2.1,.int .i64 r.2.2.2.2.1,.int .i64 r.2.2.2.2.2.1,.int .i64 r.2.2.2.2.2.2.1,.int .i64 r.2.2.2.2.2.2.2.1,.int .i64 r.2.2.2.2.2.2.2.2.1,.int .i64 r.2.2.2.2.2.2.2.2.2.1,.int .i64 r.2.2.2.2.2.2.2.2.2.2.1,.own true 3 r.2.2.2.2.2.2.2.2.2.2.2.1,.int .i64 r.2.2.2.2.2.2.2.2.2.2.2.2.1],.bool r.2.2.2.2.2.2.2.2.2.2.2.2.2]
def dL.o:dL.A→List (PV U):=fun r=>[]
abbrev dI.A:=(List Bool)×(List Int)×Int×Int
def dI.v:dI.A→PV U:=fun r=> .own true 4 r.1
def dI.o:dI.A→List (PV U):=fun r=>[.box [.sl 5 r.2.1,.int .i64 r.2.2.1,.int .i64 r.2.2.2]]
abbrev cQ.A:=(List iw)
def cQ.v:cQ.A→PV U:=fun r=> .own true 182 r
def cQ.o:cQ.A→List (PV U):=fun r=>[]
abbrev fD.A:=(List Int)
def fD.v:fD.A→PV U:=fun r=> .own true 3 r
def fD.o:fD.A→List (PV U):=fun r=>[]
abbrev bR.A:=(List Int)×Int
def bR.v:bR.A→PV U:=fun r=> .gG [.agg [.own true 3 r.1],.int .i64 r.2]
def bR.o:bR.A→List (PV U):=fun r=>[]
abbrev ef.A:=Int×(List Int)×Bool
def ef.v:ef.A→PV U:=fun r=> .gG [.agg [.int .i64 r.1,.own true 3 r.2.1],.bool r.2.2]
def ef.o:ef.A→List (PV U):=fun r=>[]
abbrev fy.A:=(List az)×(List Int)×(List Int)×Int×Int×Int×Int×Int×Int×Int×Int×(List Int)×Int×Bool
def fy.v:fy.A→PV U:=fun r=> .gG [.agg [.own true 164 r.1,.own true 3 r.2.1,.own true 3 r.2.2.1,.int .i64 r.2.2.2.1,.int .i64 r.2.2.2.2.1,.int .i64 r.2.2.2.2.2.1,.int .i64 r.2.2.2.2.2.2.1,.int .i64 r.2.2.2.2.2.2.2.1,.int .i64 r.2.2.2.2.2.2.2.2.1,.int .i64 r.2.2.2.2.2.2.2.2.2.1,.int .i64 r.2.2.2.2.2.2.2.2.2.2.1,.own true 3 r.2.2.2.2.2.2.2.2.2.2.2.1,.int .i64 r.2.2.2.2.2.2.2.2.2.2.2.2.1],.bool r.2.2.2.2.2.2.2.2.2.2.2.2.2]
def fy.o:fy.A→List (PV U):=fun r=>[]
abbrev bw.A:=(List az)×(List Int)×(List Int)×Int×Int×Int×Int×Int×Int×Int×Int×(List Int)×Int×(List Int)×Int×Int
def bw.v:bw.A→PV U:=fun r=> .agg [.own true 164 r.1,.own true 3 r.2.1,.own true 3 r.2.2.1,.int .i64 r.2.2.2.1,.int .i64 r.2.2.2.2.1,.int .i64 r.2.2.2.2.2.1,.int .i64 r.2.2.2.2.2.2.1,.int .i64 r.2.2.2.2.2.2.2.1,.int .i64 r.2.2.2.2.2.2.2.2.1,.int .i64 r.2.2.2.2.2.2.2.2.2.1,.int .i64 r.2.2.2.2.2.2.2.2.2.2.1,.own true 3 r.2.2.2.2.2.2.2.2.2.2.2.1,.int .i64 r.2.2.2.2.2.2.2.2.2.2.2.2.1]
def bw.o:bw.A→List (PV U):=fun r=>[.box [.sl 5 r.2.2.2.2.2.2.2.2.2.2.2.2.2.1,.int .i64 r.2.2.2.2.2.2.2.2.2.2.2.2.2.2.1,.int .i64 r.2.2.2.2.2.2.2.2.2.2.2.2.2.2.2]]
abbrev eX.A:=(List az)×(List Int)×(List Int)×Int×Int×Int×Int×Int×Int×Int×Int×(List Int)×Int
def eX.v:eX.A→PV U:=fun r=> .agg [.own true 164 r.1,.own true 3 r.2.1,.own true 3 r.2.2.1,.int .i64 r.2.2.2.1,.int .i64 r.2.2.2.2.1,.int .i64 r.2.2.2.2.2.1,.int .i64 r.2.2.2.2.2.2.1,.int .i64 r.2.2.2.2.2.2.2.1,.int .i64 r.2.2.2.2.2.2.2.2.1,.int .i64 r.2.2.2.2.2.2.2.2.2.1,.int .i64 r.2.2.2.2.2.2.2.2.2.2.1,.own true 3 r.2.2.2.2.2.2.2.2.2.2.2.1,.int .i64 r.2.2.2.2.2.2.2.2.2.2.2.2]
def eX.o:eX.A→List (PV U):=fun r=>[]
abbrev cG.A:=(List Int)
def cG.v:cG.A→PV U:=fun r=> .own true 3 r
def cG.o:cG.A→List (PV U):=fun r=>[]
abbrev bB.A:=(List aw)
def bB.v:bB.A→PV U:=fun r=> .own true 204 r
def bB.o:bB.A→List (PV U):=fun r=>[]
abbrev eS.A:=(List aw)×Int×Int×Int
def eS.v:eS.A→PV U:=fun r=> .agg [.own true 204 r.1,.int .i64 r.2.1,.int .i64 r.2.2.1,.int .i64 r.2.2.2]
def eS.o:eS.A→List (PV U):=fun r=>[]
abbrev cf.A:=(List az)
def cf.v:cf.A→PV U:=fun r=> .agg [.own true 164 r]
def cf.o:cf.A→List (PV U):=fun r=>[]
abbrev aL.A:=(List Int)
def aL.v:aL.A→PV U:=fun r=> .own true 3 r
def aL.o:aL.A→List (PV U):=fun r=>[]
abbrev dN.A:=Int×(List Int)
def dN.v:dN.A→PV U:=fun r=> .agg [.int .i64 r.1,.own true 3 r.2]
def dN.o:dN.A→List (PV U):=fun r=>[]
abbrev cZ.A:=(List az)×(List Int)×(List Int)×Int×Int×Int×Int×Int×Int×Int×Int×(List Int)×Int
def cZ.v:cZ.A→PV U:=fun r=> .agg [.own true 164 r.1,.own true 3 r.2.1,.own true 3 r.2.2.1,.int .i64 r.2.2.2.1,.int .i64 r.2.2.2.2.1,.int .i64 r.2.2.2.2.2.1,.int .i64 r.2.2.2.2.2.2.1,.int .i64 r.2.2.2.2.2.2.2.1,.int .i64 r.2.2.2.2.2.2.2.2.1,.int .i64 r.2.2.2.2.2.2.2.2.2.1,.int .i64 r.2.2.2.2.2.2.2.2.2.2.1,.own true 3 r.2.2.2.2.2.2.2.2.2.2.2.1,.int .i64 r.2.2.2.2.2.2.2.2.2.2.2.2]
def cZ.o:cZ.A→List (PV U):=fun r=>[]
abbrev aK.A:=Bool
def aK.v:aK.A→PV U:=fun r=> .bool r
def aK.o:aK.A→List (PV U):=fun r=>[]
abbrev bZ.A:=Bool
def bZ.v:bZ.A→PV U:=fun r=> .bool r
def bZ.o:bZ.A→List (PV U):=fun r=>[]
abbrev eF.A:=Bool
def eF.v:eF.A→PV U:=fun r=> .bool r
def eF.o:eF.A→List (PV U):=fun r=>[]
abbrev dd.A:=Bool
def dd.v:dd.A→PV U:=fun r=> .bool r
def dd.o:dd.A→List (PV U):=fun r=>[]
abbrev ek.A:=Bool
def ek.v:ek.A→PV U:=fun r=> .bool r
def ek.o:ek.A→List (PV U):=fun r=>[]
abbrev da.A:=Bool
def da.v:da.A→PV U:=fun r=> .bool r
def da.o:da.A→List (PV U):=fun r=>[]
abbrev bY.A:=Bool
def bY.v:bY.A→PV U:=fun r=> .bool r
def bY.o:bY.A→List (PV U):=fun r=>[]
abbrev dJ.A:=Bool
def dJ.v:dJ.A→PV U:=fun r=> .bool r
def dJ.o:dJ.A→List (PV U):=fun r=>[]
abbrev bN.A:=Bool
def bN.v:bN.A→PV U:=fun r=> .bool r
def bN.o:bN.A→List (PV U):=fun r=>[]
abbrev bU.A:=Bool
def bU.v:bU.A→PV U:=fun r=> .bool r
def bU.o:bU.A→List (PV U):=fun r=>[]
abbrev du.A:=Bool
def du.v:du.A→PV U:=fun r=> .bool r
def du.o:du.A→List (PV U):=fun r=>[]
abbrev dx.A:=Bool
def dx.v:dx.A→PV U:=fun r=> .bool r
def dx.o:dx.A→List (PV U):=fun r=>[]
abbrev an.A:=Int
def an.v:an.A→PV U:=fun r=> .int .i64 r
def an.o:an.A→List (PV U):=fun r=>[]
abbrev ax.A:=Bool
def ax.v:ax.A→PV U:=fun r=> .bool r
def ax.o:ax.A→List (PV U):=fun r=>[]
abbrev dm.A:=Bool
def dm.v:dm.A→PV U:=fun r=> .bool r
def dm.o:dm.A→List (PV U):=fun r=>[]
abbrev eP.A:=Bool
def eP.v:eP.A→PV U:=fun r=> .bool r
def eP.o:eP.A→List (PV U):=fun r=>[]
abbrev dw.A:=Bool
def dw.v:dw.A→PV U:=fun r=> .bool r
def dw.o:dw.A→List (PV U):=fun r=>[]
abbrev ay.A:=Int
def ay.v:ay.A→PV U:=fun r=> .int .i64 r
def ay.o:ay.A→List (PV U):=fun r=>[]
abbrev aH.A:=Bool
def aH.v:aH.A→PV U:=fun r=> .bool r
def aH.o:aH.A→List (PV U):=fun r=>[]
abbrev cu.A:=Bool
def cu.v:cu.A→PV U:=fun r=> .bool r
def cu.o:cu.A→List (PV U):=fun r=>[]
abbrev bq.A:=Int
def bq.v:bq.A→PV U:=fun r=> .int .i64 r
def bq.o:bq.A→List (PV U):=fun r=>[]
abbrev bm.A:=Int×Int×Int
def bm.v:bm.A→PV U:=fun r=> .gG [.int .i64 r.1,.int .i64 r.2.1,.int .i64 r.2.2]
def bm.o:bm.A→List (PV U):=fun r=>[]
abbrev fB.A:=Bool
def fB.v:fB.A→PV U:=fun r=> .bool r
def fB.o:fB.A→List (PV U):=fun r=>[]
abbrev fF.A:=Bool
def fF.v:fF.A→PV U:=fun r=> .bool r
def fF.o:fF.A→List (PV U):=fun r=>[]
abbrev fb.A:=Bool
def fb.v:fb.A→PV U:=fun r=> .bool r
def fb.o:fb.A→List (PV U):=fun r=>[]
abbrev dD.A:=(List Int)
def dD.v:dD.A→PV U:=fun r=> .own true 3 r
def dD.o:dD.A→List (PV U):=fun r=>[]
abbrev ck.A:=Bool
def ck.v:ck.A→PV U:=fun r=> .bool r
def ck.o:ck.A→List (PV U):=fun r=>[]
abbrev cI.A:=Bool
def cI.v:cI.A→PV U:=fun r=> .bool r
def cI.o:cI.A→List (PV U):=fun r=>[]
abbrev fv.A:=Bool
def fv.v:fv.A→PV U:=fun r=> .bool r
def fv.o:fv.A→List (PV U):=fun r=>[]
abbrev cJ.A:=Bool
def cJ.v:cJ.A→PV U:=fun r=> .bool r
def cJ.o:cJ.A→List (PV U):=fun r=>[]
abbrev dA.A:=Bool
def dA.v:dA.A→PV U:=fun r=> .bool r
def dA.o:dA.A→List (PV U):=fun r=>[]
abbrev db.A:=Int
def db.v:db.A→PV U:=fun r=> .int .i64 r
def db.o:db.A→List (PV U):=fun r=>[]
abbrev dj.A:=(List az)×(List Int)×(List Int)×Int×Int×Int×Int×Int×Int×Int×Int×(List Int)×Int
def dj.v:dj.A→PV U:=fun r=> .gG []
def dj.o:dj.A→List (PV U):=fun r=>[.box [.own true 164 r.1,.own true 3 r.2.1,.own true 3 r.2.2.1,.int .i64 r.2.2.2.1,.int .i64 r.2.2.2.2.1,.int .i64 r.2.2.2.2.2.1,.int .i64 r.2.2.2.2.2.2.1,.int .i64 r.2.2.2.2.2.2.2.1,.int .i64 r.2.2.2.2.2.2.2.2.1,.int .i64 r.2.2.2.2.2.2.2.2.2.1,.int .i64 r.2.2.2.2.2.2.2.2.2.2.1,.own true 3 r.2.2.2.2.2.2.2.2.2.2.2.1,.int .i64 r.2.2.2.2.2.2.2.2.2.2.2.2]]
abbrev fP.A:=Int×Int
def fP.v:fP.A→PV U:=fun r=> .agg [.int .i64 r.1,.int .i64 r.2]
def fP.o:fP.A→List (PV U):=fun r=>[]
abbrev fL.A:=Int×Int
def fL.v:fL.A→PV U:=fun r=> .agg [.int .i64 r.1,.int .i64 r.2]
def fL.o:fL.A→List (PV U):=fun r=>[]
abbrev bn.A:=(List fY)
def bn.v:bn.A→PV U:=fun r=> .own true 173 r
def bn.o:bn.A→List (PV U):=fun r=>[]
abbrev aW.A:=Bool×(List Int)×Int×(List (List Int))×Int
def aW.v:aW.A→PV U:=fun r=> .bool r.1
def aW.o:aW.A→List (PV U):=fun r=>[.box [.own true 3 r.2.1,.int .i64 r.2.2.1,.own true 27 r.2.2.2.1,.int .i64 r.2.2.2.2]]
abbrev aP.A:=Bool×(List Int)×Int×(List (List Int))×Int
def aP.v:aP.A→PV U:=fun r=> .bool r.1
def aP.o:aP.A→List (PV U):=fun r=>[.box [.own true 3 r.2.1,.int .i64 r.2.2.1,.own true 27 r.2.2.2.1,.int .i64 r.2.2.2.2]]
abbrev fh.A:=(List Int)
def fh.v:fh.A→PV U:=fun r=> .own true 3 r
def fh.o:fh.A→List (PV U):=fun r=>[]
abbrev slices_Sort_int.A:=(List Int)
def slices_Sort_int.v:slices_Sort_int.A→PV U:=fun r=> .gG []
def slices_Sort_int.o:slices_Sort_int.A→List (PV U):=fun r=>[.own true 3 r]
abbrev slices_Compact_int.A:=(List Int)
def slices_Compact_int.v:slices_Compact_int.A→PV U:=fun r=> .own true 3 r
def slices_Compact_int.o:slices_Compact_int.A→List (PV U):=fun r=>[]
abbrev de.A:=(List Int)
def de.v:de.A→PV U:=fun r=> .own true 3 r
def de.o:de.A→List (PV U):=fun r=>[]
abbrev bo.A:=Bool×Bool×Bool×Bool×Bool×Bool×Bool×Bool×Bool×Bool×Bool×Bool×Bool×Bool×Bool×Bool
def bo.v:bo.A→PV U:=fun r=> .gG []
def bo.o:bo.A→List (PV U):=fun r=>[.box [.bool r.1,.bool r.2.1,.bool r.2.2.1,.bool r.2.2.2.1,.bool r.2.2.2.2.1,.bool r.2.2.2.2.2.1,.bool r.2.2.2.2.2.2.1,.bool r.2.2.2.2.2.2.2.1,.bool r.2.2.2.2.2.2.2.2.1,.bool r.2.2.2.2.2.2.2.2.2.1,.bool r.2.2.2.2.2.2.2.2.2.2.1,.bool r.2.2.2.2.2.2.2.2.2.2.2.1,.bool r.2.2.2.2.2.2.2.2.2.2.2.2.1,.bool r.2.2.2.2.2.2.2.2.2.2.2.2.2.1,.bool r.2.2.2.2.2.2.2.2.2.2.2.2.2.2.1,.bool r.2.2.2.2.2.2.2.2.2.2.2.2.2.2.2]]
abbrev cT.A:=Int
def cT.v:cT.A→PV U:=fun r=> .int .i64 r
def cT.o:cT.A→List (PV U):=fun r=>[]
abbrev aD.A:=Bool×Bool×Bool×Bool×Bool×Bool×Bool×Bool×Bool×Bool×Bool×Bool×Bool×Bool×Bool×Bool
def aD.v:aD.A→PV U:=fun r=> .gG []
def aD.o:aD.A→List (PV U):=fun r=>[.box [.bool r.1,.bool r.2.1,.bool r.2.2.1,.bool r.2.2.2.1,.bool r.2.2.2.2.1,.bool r.2.2.2.2.2.1,.bool r.2.2.2.2.2.2.1,.bool r.2.2.2.2.2.2.2.1,.bool r.2.2.2.2.2.2.2.2.1,.bool r.2.2.2.2.2.2.2.2.2.1,.bool r.2.2.2.2.2.2.2.2.2.2.1,.bool r.2.2.2.2.2.2.2.2.2.2.2.1,.bool r.2.2.2.2.2.2.2.2.2.2.2.2.1,.bool r.2.2.2.2.2.2.2.2.2.2.2.2.2.1,.bool r.2.2.2.2.2.2.2.2.2.2.2.2.2.2.1,.bool r.2.2.2.2.2.2.2.2.2.2.2.2.2.2.2]]
abbrev bt.A:=(List Int)
def bt.v:bt.A→PV U:=fun r=> .own true 3 r
def bt.o:bt.A→List (PV U):=fun r=>[]
abbrev cC.A:=Bool×(List Bool)
def cC.v:cC.A→PV U:=fun r=> .bool r.1
def cC.o:cC.A→List (PV U):=fun r=>[.box [.own true 4 r.2]]
abbrev dV.A:=(List Int)×(List Bool)
def dV.v:dV.A→PV U:=fun r=> .own true 3 r.1
def dV.o:dV.A→List (PV U):=fun r=>[.box [.own true 4 r.2]]
abbrev bj.A:=(List Int)
def bj.v:bj.A→PV U:=fun r=> .own true 3 r
def bj.o:bj.A→List (PV U):=fun r=>[]
abbrev dO.A:=Bool
def dO.v:dO.A→PV U:=fun r=> .bool r
def dO.o:dO.A→List (PV U):=fun r=>[]
abbrev cP.A:=(List Int)
def cP.v:cP.A→PV U:=fun r=> .own true 3 r
def cP.o:cP.A→List (PV U):=fun r=>[]
abbrev eU.A:=(List Int)
def eU.v:eU.A→PV U:=fun r=> .own true 3 r
def eU.o:eU.A→List (PV U):=fun r=>[]
abbrev cj.A:=Int
def cj.v:cj.A→PV U:=fun r=> .int .i64 r
def cj.o:cj.A→List (PV U):=fun r=>[]
abbrev cD.A:=Bool
def cD.v:cD.A→PV U:=fun r=> .bool r
def cD.o:cD.A→List (PV U):=fun r=>[]
abbrev eK.A:=Bool
def eK.v:eK.A→PV U:=fun r=> .bool r
def eK.o:eK.A→List (PV U):=fun r=>[]
abbrev cN.A:=Bool×(List Int)×(List Int)
def cN.v:cN.A→PV U:=fun r=> .bool r.1
def cN.o:cN.A→List (PV U):=fun r=>[.box [.own true 3 r.2.1],.box [.own true 3 r.2.2]]
abbrev aA.A:=Int×(List Int)×(List Int)
def aA.v:aA.A→PV U:=fun r=> .int .i64 r.1
def aA.o:aA.A→List (PV U):=fun r=>[.box [.own true 3 r.2.1],.box [.own true 3 r.2.2]]
abbrev au.A:=(List Int)×(List Int)×(List Int)
def au.v:au.A→PV U:=fun r=> .sl 3 r.1
def au.o:au.A→List (PV U):=fun r=>[.box [.own true 3 r.2.1],.box [.own true 3 r.2.2]]
abbrev dS.A:=(List Int)
def dS.v:dS.A→PV U:=fun r=> .sl 3 r
def dS.o:dS.A→List (PV U):=fun r=>[]
abbrev eC.A:=Int
def eC.v:eC.A→PV U:=fun r=> .int .i64 r
def eC.o:eC.A→List (PV U):=fun r=>[]
abbrev cg.A:=(List aO)×(List Int)×Int×Int×Int×(List Int)×Bool×Bool×Bool×Bool×Bool×Bool×Bool×Bool×(List Int)
def cg.v:cg.A→PV U:=fun r=> .gG []
def cg.o:cg.A→List (PV U):=fun r=>[.box [.own true 179 r.1,.own true 3 r.2.1,.int .i64 r.2.2.1,.int .i64 r.2.2.2.1,.int .i64 r.2.2.2.2.1,.own true 3 r.2.2.2.2.2.1,.bool r.2.2.2.2.2.2.1,.bool r.2.2.2.2.2.2.2.1,.bool r.2.2.2.2.2.2.2.2.1,.bool r.2.2.2.2.2.2.2.2.2.1,.bool r.2.2.2.2.2.2.2.2.2.2.1,.bool r.2.2.2.2.2.2.2.2.2.2.2.1,.bool r.2.2.2.2.2.2.2.2.2.2.2.2.1,.bool r.2.2.2.2.2.2.2.2.2.2.2.2.2.1,.own true 3 r.2.2.2.2.2.2.2.2.2.2.2.2.2.2]]
abbrev fz.A:=Bool
def fz.v:fz.A→PV U:=fun r=> .bool r
def fz.o:fz.A→List (PV U):=fun r=>[]
abbrev fi.A:=Int
def fi.v:fi.A→PV U:=fun r=> .int .i64 r
def fi.o:fi.A→List (PV U):=fun r=>[]
abbrev bQ.A:=Int
def bQ.v:bQ.A→PV U:=fun r=> .int .i64 r
def bQ.o:bQ.A→List (PV U):=fun r=>[]
abbrev dn.A:=Int
def dn.v:dn.A→PV U:=fun r=> .int .i64 r
def dn.o:dn.A→List (PV U):=fun r=>[]
abbrev ey.A:=Int
def ey.v:ey.A→PV U:=fun r=> .int .i64 r
def ey.o:ey.A→List (PV U):=fun r=>[]
abbrev dW.A:=Int
def dW.v:dW.A→PV U:=fun r=> .int .i64 r
def dW.o:dW.A→List (PV U):=fun r=>[]
abbrev gM.A:=Int
def gM.v:gM.A→PV U:=fun r=> .int .i64 r
def gM.o:gM.A→List (PV U):=fun r=>[]
abbrev cr.A:=Int
def cr.v:cr.A→PV U:=fun r=> .int .i64 r
def cr.o:cr.A→List (PV U):=fun r=>[]
abbrev aX.A:=(List aO)×(List Int)×Int×Int×Int×(List Int)×Bool×Bool×Bool×Bool×Bool×Bool×Bool×Bool×(List Int)
def aX.v:aX.A→PV U:=fun r=> .gG []
def aX.o:aX.A→List (PV U):=fun r=>[.box [.own true 179 r.1,.own true 3 r.2.1,.int .i64 r.2.2.1,.int .i64 r.2.2.2.1,.int .i64 r.2.2.2.2.1,.own true 3 r.2.2.2.2.2.1,.bool r.2.2.2.2.2.2.1,.bool r.2.2.2.2.2.2.2.1,.bool r.2.2.2.2.2.2.2.2.1,.bool r.2.2.2.2.2.2.2.2.2.1,.bool r.2.2.2.2.2.2.2.2.2.2.1,.bool r.2.2.2.2.2.2.2.2.2.2.2.1,.bool r.2.2.2.2.2.2.2.2.2.2.2.2.1,.bool r.2.2.2.2.2.2.2.2.2.2.2.2.2.1,.own true 3 r.2.2.2.2.2.2.2.2.2.2.2.2.2.2]]
abbrev aM.A:=(List aO)×(List Int)×Int×Int×Int×(List Int)×Bool×Bool×Bool×Bool×Bool×Bool×Bool×Bool×(List Int)
def aM.v:aM.A→PV U:=fun r=> .gG []
def aM.o:aM.A→List (PV U):=fun r=>[.box [.own true 179 r.1,.own true 3 r.2.1,.int .i64 r.2.2.1,.int .i64 r.2.2.2.1,.int .i64 r.2.2.2.2.1,.own true 3 r.2.2.2.2.2.1,.bool r.2.2.2.2.2.2.1,.bool r.2.2.2.2.2.2.2.1,.bool r.2.2.2.2.2.2.2.2.1,.bool r.2.2.2.2.2.2.2.2.2.1,.bool r.2.2.2.2.2.2.2.2.2.2.1,.bool r.2.2.2.2.2.2.2.2.2.2.2.1,.bool r.2.2.2.2.2.2.2.2.2.2.2.2.1,.bool r.2.2.2.2.2.2.2.2.2.2.2.2.2.1,.own true 3 r.2.2.2.2.2.2.2.2.2.2.2.2.2.2]]
abbrev bS.A:=Int
def bS.v:bS.A→PV U:=fun r=> .int .i64 r
def bS.o:bS.A→List (PV U):=fun r=>[]
abbrev cE.A:=(List aO)×(List Int)×Int×Int×Int×(List Int)×Bool×Bool×Bool×Bool×Bool×Bool×Bool×Bool×(List Int)
def cE.v:cE.A→PV U:=fun r=> .gG []
def cE.o:cE.A→List (PV U):=fun r=>[.box [.own true 179 r.1,.own true 3 r.2.1,.int .i64 r.2.2.1,.int .i64 r.2.2.2.1,.int .i64 r.2.2.2.2.1,.own true 3 r.2.2.2.2.2.1,.bool r.2.2.2.2.2.2.1,.bool r.2.2.2.2.2.2.2.1,.bool r.2.2.2.2.2.2.2.2.1,.bool r.2.2.2.2.2.2.2.2.2.1,.bool r.2.2.2.2.2.2.2.2.2.2.1,.bool r.2.2.2.2.2.2.2.2.2.2.2.1,.bool r.2.2.2.2.2.2.2.2.2.2.2.2.1,.bool r.2.2.2.2.2.2.2.2.2.2.2.2.2.1,.own true 3 r.2.2.2.2.2.2.2.2.2.2.2.2.2.2]]
abbrev bu.A:=Bool×(List Int)×(List Int)×Int×(List aO)×(List Int)×Int×Int×Int×(List Int)×Bool×Bool×Bool×Bool×Bool×Bool×Bool×Bool×(List Int)
def bu.v:bu.A→PV U:=fun r=> .bool r.1
def bu.o:bu.A→List (PV U):=fun r=>[.box [.ptr 85 0],.box [.sl 3 r.2.1],.box [.sl 3 r.2.2.1],.box [.int .i64 r.2.2.2.1],.box [.own true 179 r.2.2.2.2.1,.own true 3 r.2.2.2.2.2.1,.int .i64 r.2.2.2.2.2.2.1,.int .i64 r.2.2.2.2.2.2.2.1,.int .i64 r.2.2.2.2.2.2.2.2.1,.own true 3 r.2.2.2.2.2.2.2.2.2.1,.bool r.2.2.2.2.2.2.2.2.2.2.1,.bool r.2.2.2.2.2.2.2.2.2.2.2.1,.bool r.2.2.2.2.2.2.2.2.2.2.2.2.1,.bool r.2.2.2.2.2.2.2.2.2.2.2.2.2.1,.bool r.2.2.2.2.2.2.2.2.2.2.2.2.2.2.1,.bool r.2.2.2.2.2.2.2.2.2.2.2.2.2.2.2.1,.bool r.2.2.2.2.2.2.2.2.2.2.2.2.2.2.2.2.1,.bool r.2.2.2.2.2.2.2.2.2.2.2.2.2.2.2.2.2.1,.own true 3 r.2.2.2.2.2.2.2.2.2.2.2.2.2.2.2.2.2.2]]
abbrev cb.A:=(List Int)×(List Int)×Int×(List aO)×(List Int)×Int×Int×Int×(List Int)×Bool×Bool×Bool×Bool×Bool×Bool×Bool×Bool×(List Int)
def cb.v:cb.A→PV U:=fun r=> .gG []
def cb.o:cb.A→List (PV U):=fun r=>[.box [.ptr 55 0],.box [.sl 3 r.1],.box [.sl 3 r.2.1],.box [.int .i64 r.2.2.1],.box [.own true 179 r.2.2.2.1,.own true 3 r.2.2.2.2.1,.int .i64 r.2.2.2.2.2.1,.int .i64 r.2.2.2.2.2.2.1,.int .i64 r.2.2.2.2.2.2.2.1,.own true 3 r.2.2.2.2.2.2.2.2.1,.bool r.2.2.2.2.2.2.2.2.2.1,.bool r.2.2.2.2.2.2.2.2.2.2.1,.bool r.2.2.2.2.2.2.2.2.2.2.2.1,.bool r.2.2.2.2.2.2.2.2.2.2.2.2.1,.bool r.2.2.2.2.2.2.2.2.2.2.2.2.2.1,.bool r.2.2.2.2.2.2.2.2.2.2.2.2.2.2.1,.bool r.2.2.2.2.2.2.2.2.2.2.2.2.2.2.2.1,.bool r.2.2.2.2.2.2.2.2.2.2.2.2.2.2.2.2.1,.own true 3 r.2.2.2.2.2.2.2.2.2.2.2.2.2.2.2.2.2]]
abbrev fQ.A:=Bool
def fQ.v:fQ.A→PV U:=fun r=> .bool r
def fQ.o:fQ.A→List (PV U):=fun r=>[]
abbrev dM.A:=Int
def dM.v:dM.A→PV U:=fun r=> .int .i64 r
def dM.o:dM.A→List (PV U):=fun r=>[]
abbrev dF.A:=(List aO)×(List Int)
def dF.v:dF.A→PV U:=fun r=> .agg [.own true 179 r.1,.own true 3 r.2]
def dF.o:dF.A→List (PV U):=fun r=>[]
abbrev aS.A:=Bool
def aS.v:aS.A→PV U:=fun r=> .bool r
def aS.o:aS.A→List (PV U):=fun r=>[]
abbrev aY.A:=Bool×(List Int)×Int×(List (List Int))×Int
def aY.v:aY.A→PV U:=fun r=> .bool r.1
def aY.o:aY.A→List (PV U):=fun r=>[.box [.own true 3 r.2.1,.int .i64 r.2.2.1,.own true 27 r.2.2.2.1,.int .i64 r.2.2.2.2]]
abbrev fG.A:=(List Int)×Int×(List (List Int))×Int
def fG.v:fG.A→PV U:=fun r=> .agg [.own true 3 r.1,.int .i64 r.2.1,.own true 27 r.2.2.1,.int .i64 r.2.2.2]
def fG.o:fG.A→List (PV U):=fun r=>[]
abbrev cX.A:=(List az)×(List Int)×(List Int)×Int×Int×Int×Int×Int×Int×Int×Int×(List Int)×Int×Bool
def cX.v:cX.A→PV U:=fun r=> .gG [.agg [.own true 164 r.1,.own true 3 r.2.1,.own true 3 r.2.2.1,.int .i64 r.2.2.2.1,.int .i64 r.2.2.2.2.1,.int .i64 r.2.2.2.2.2.1,.int .i64 r.2.2.2.2.2.2.1,.int .i64 r.2.2.2.2.2.2.2.1,.int .i64 r.2.2.2.2.2.2.2.2.1,.int .i64 r.2.2.2.2.2.2.2.2.2.1,.int .i64 r.2.2.2.2.2.2.2.2.2.2.1,.own true 3 r.2.2.2.2.2.2.2.2.2.2.2.1,.int .i64 r.2.2.2.2.2.2.2.2.2.2.2.2.1],.bool r.2.2.2.2.2.2.2.2.2.2.2.2.2]
def cX.o:cX.A→List (PV U):=fun r=>[]
abbrev cM.A:=(List iw)
def cM.v:cM.A→PV U:=fun r=> .own true 182 r
def cM.o:cM.A→List (PV U):=fun r=>[]
abbrev fE.A:=(List Int)×Int
def fE.v:fE.A→PV U:=fun r=> .gG [.agg [.own true 3 r.1],.int .i64 r.2]
def fE.o:fE.A→List (PV U):=fun r=>[]
abbrev bI.A:=(List Int)×Int
def bI.v:bI.A→PV U:=fun r=> .gG [.agg [.own true 3 r.1],.int .i64 r.2]
def bI.o:bI.A→List (PV U):=fun r=>[]
abbrev eu.A:=Int×(List Int)×Bool
def eu.v:eu.A→PV U:=fun r=> .gG [.agg [.int .i64 r.1,.own true 3 r.2.1],.bool r.2.2]
def eu.o:eu.A→List (PV U):=fun r=>[]
abbrev fa.A:=(List az)×(List Int)×(List Int)×Int×Int×Int×Int×Int×Int×Int×Int×(List Int)×Int×Bool
def fa.v:fa.A→PV U:=fun r=> .gG [.agg [.own true 164 r.1,.own true 3 r.2.1,.own true 3 r.2.2.1,.int .i64 r.2.2.2.1,.int .i64 r.2.2.2.2.1,.int .i64 r.2.2.2.2.2.1,.int .i64 r.2.2.2.2.2.2.1,.int .i64 r.2.2.2.2.2.2.2.1,.int .i64 r.2.2.2.2.2.2.2.2.1,.int .i64 r.2.2.2.2.2.2.2.2.2.1,.int .i64 r.2.2.2.2.2.2.2.2.2.2.1,.own true 3 r.2.2.2.2.2.2.2.2.2.2.2.1,.int .i64 r.2.2.2.2.2.2.2.2.2.2.2.2.1],.bool r.2.2.2.2.2.2.2.2.2.2.2.2.2]
def fa.o:fa.A→List (PV U):=fun r=>[]
abbrev fA.A:=(List Int)
def fA.v:fA.A→PV U:=fun r=> .own true 3 r
def fA.o:fA.A→List (PV U):=fun r=>[]
abbrev dX.A:=(List Int)
def dX.v:dX.A→PV U:=fun r=> .own true 3 r
def dX.o:dX.A→List (PV U):=fun r=>[]
abbrev cY.A:=Bool
def cY.v:cY.A→PV U:=fun r=> .bool r
def cY.o:cY.A→List (PV U):=fun r=>[]
def Aw:List (Nat×Ef C):=[(8,⟨iE.A,iE.v,iE.o⟩),(39,⟨eJ.A,eJ.v,eJ.o⟩),(94,⟨cU.A,cU.v,cU.o⟩),(40,⟨ar.A,ar.v,ar.o⟩),(92,⟨bF.A,bF.v,bF.o⟩),(91,⟨b7.A,b7.v,b7.o⟩),(171,⟨cH.A,cH.v,cH.o⟩),(139,⟨cW.A,cW.v,cW.o⟩),(206,⟨dE.A,dE.v,dE.o⟩),(170,⟨bb.A,bb.v,bb.o⟩),(138,⟨fm.A,fm.v,fm.o⟩),(86,⟨cF.A,cF.v,cF.o⟩),(87,⟨eY.A,eY.v,eY.o⟩),(89,⟨bK.A,bK.v,bK.o⟩),(90,⟨aI.A,aI.v,aI.o⟩),(60,⟨aE.A,aE.v,aE.o⟩),(129,⟨dH.A,dH.v,dH.o⟩),(172,⟨fc.A,fc.v,fc.o⟩),(140,⟨fW.A,fW.v,fW.o⟩),(238,⟨eV.A,eV.v,eV.o⟩),(208,⟨dQ.A,dQ.v,dQ.o⟩),(174,⟨cq.A,cq.v,cq.o⟩),(207,⟨fV.A,fV.v,fV.o⟩),(173,⟨bx.A,bx.v,bx.o⟩),(141,⟨cv.A,cv.v,cv.o⟩),(112,⟨eN.A,eN.v,eN.o⟩),(113,⟨bM.A,bM.v,bM.o⟩),(116,⟨ca.A,ca.v,ca.o⟩),(88,⟨aV.A,aV.v,aV.o⟩),(192,⟨bz.A,bz.v,bz.o⟩),(154,⟨bk.A,bk.v,bk.o⟩),(111,⟨fC.A,fC.v,fC.o⟩),(114,⟨fw.A,fw.v,fw.o⟩),(156,⟨eO.A,eO.v,eO.o⟩),(155,⟨bT.A,bT.v,bT.o⟩),(115,⟨fu.A,fu.v,fu.o⟩),(59,⟨eZ.A,eZ.v,eZ.o⟩),(117,⟨eQ.A,eQ.v,eQ.o⟩),(61,⟨cV.A,cV.v,cV.o⟩),(157,⟨dB.A,dB.v,dB.o⟩),(118,⟨ff.A,ff.v,ff.o⟩),(130,⟨gi.A,gi.v,gi.o⟩),(119,⟨fH.A,fH.v,fH.o⟩),(158,⟨ba.A,ba.v,ba.o⟩),(159,⟨bJ.A,bJ.v,bJ.o⟩),(226,⟨gB.A,gB.v,gB.o⟩),(248,⟨cO.A,cO.v,cO.o⟩),(249,⟨bV.A,bV.v,bV.o⟩),(227,⟨di.A,di.v,di.o⟩),(257,⟨eT.A,eT.v,eT.o⟩),(235,⟨cn.A,cn.v,cn.o⟩),(228,⟨cz.A,cz.v,cz.o⟩),(262,⟨dh.A,dh.v,dh.o⟩),(251,⟨cl.A,cl.v,cl.o⟩),(250,⟨br.A,br.v,br.o⟩),(229,⟨cR.A,cR.v,cR.o⟩),(230,⟨cK.A,cK.v,cK.o⟩),(193,⟨dq.A,dq.v,dq.o⟩),(194,⟨fg.A,fg.v,fg.o⟩),(231,⟨fl.A,fl.v,fl.o⟩),(196,⟨ez.A,ez.v,ez.o⟩),(252,⟨eE.A,eE.v,eE.o⟩),(263,⟨bP.A,bP.v,bP.o⟩),(253,⟨dk.A,dk.v,dk.o⟩),(254,⟨dP.A,dP.v,dP.o⟩),(255,⟨dZ.A,dZ.v,dZ.o⟩),(81,⟨fJ.A,fJ.v,fJ.o⟩),(233,⟨cw.A,cw.v,cw.o⟩),(197,⟨bX.A,bX.v,bX.o⟩),(232,⟨bO.A,bO.v,bO.o⟩),(256,⟨bH.A,bH.v,bH.o⟩),(234,⟨eB.A,eB.v,eB.o⟩),(195,⟨aq.A,aq.v,aq.o⟩),(198,⟨dU.A,dU.v,dU.o⟩),(160,⟨eD.A,eD.v,eD.o⟩),(161,⟨cm.A,cm.v,cm.o⟩),(162,⟨cA.A,cA.v,cA.o⟩),(120,⟨bD.A,bD.v,bD.o⟩),(62,⟨eM.A,eM.v,eM.o⟩),(18,⟨dL.A,dL.v,dL.o⟩),(93,⟨dI.A,dI.v,dI.o⟩),(168,⟨cQ.A,cQ.v,cQ.o⟩),(203,⟨fD.A,fD.v,fD.o⟩),(167,⟨bR.A,bR.v,bR.o⟩),(131,⟨ef.A,ef.v,ef.o⟩),(78,⟨fy.A,fy.v,fy.o⟩),(38,⟨bw.A,bw.v,bw.o⟩),(9,⟨eX.A,eX.v,eX.o⟩),(10,⟨cG.A,cG.v,cG.o⟩),(175,⟨bB.A,bB.v,bB.o⟩),(142,⟨eS.A,eS.v,eS.o⟩),(95,⟨cf.A,cf.v,cf.o⟩),(55,⟨aL.A,aL.v,aL.o⟩),(96,⟨dN.A,dN.v,dN.o⟩),(41,⟨cZ.A,cZ.v,cZ.o⟩),(50,⟨aK.A,aK.v,aK.o⟩),(245,⟨bZ.A,bZ.v,bZ.o⟩),(105,⟨eF.A,eF.v,eF.o⟩),(246,⟨dd.A,dd.v,dd.o⟩),(225,⟨ek.A,ek.v,ek.o⟩),(190,⟨da.A,da.v,da.o⟩),(223,⟨bY.A,bY.v,bY.o⟩),(217,⟨dJ.A,dJ.v,dJ.o⟩),(215,⟨bN.A,bN.v,bN.o⟩),(189,⟨bU.A,bU.v,bU.o⟩),(150,⟨du.A,du.v,du.o⟩),(149,⟨dx.A,dx.v,dx.o⟩),(188,⟨an.A,an.v,an.o⟩),(148,⟨ax.A,ax.v,ax.o⟩),(103,⟨dm.A,dm.v,dm.o⟩),(106,⟨eP.A,eP.v,eP.o⟩),(108,⟨dw.A,dw.v,dw.o⟩),(152,⟨ay.A,ay.v,ay.o⟩),(107,⟨aH.A,aH.v,aH.o⟩),(49,⟨cu.A,cu.v,cu.o⟩),(151,⟨bq.A,bq.v,bq.o⟩),(104,⟨bm.A,bm.v,bm.o⟩),(47,⟨fB.A,fB.v,fB.o⟩),(48,⟨fF.A,fF.v,fF.o⟩),(51,⟨fb.A,fb.v,fb.o⟩),(54,⟨dD.A,dD.v,dD.o⟩),(53,⟨ck.A,ck.v,ck.o⟩),(14,⟨cI.A,cI.v,cI.o⟩),(52,⟨fv.A,fv.v,fv.o⟩),(13,⟨cJ.A,cJ.v,cJ.o⟩),(42,⟨dA.A,dA.v,dA.o⟩),(97,⟨db.A,db.v,db.o⟩),(43,⟨dj.A,dj.v,dj.o⟩),(98,⟨fP.A,fP.v,fP.o⟩),(44,⟨fL.A,fL.v,fL.o⟩),(143,⟨bn.A,bn.v,bn.o⟩),(144,⟨aW.A,aW.v,aW.o⟩),(99,⟨aP.A,aP.v,aP.o⟩),(176,⟨fh.A,fh.v,fh.o⟩),(259,⟨slices_Sort_int.A,slices_Sort_int.v,slices_Sort_int.o⟩),(260,⟨slices_Compact_int.A,slices_Compact_int.v,slices_Compact_int.o⟩),(258,⟨de.A,de.v,de.o⟩),(240,⟨bo.A,bo.v,bo.o⟩),(216,⟨cT.A,cT.v,cT.o⟩),(239,⟨aD.A,aD.v,aD.o⟩),(209,⟨bt.A,bt.v,bt.o⟩),(242,⟨cC.A,cC.v,cC.o⟩),(241,⟨dV.A,dV.v,dV.o⟩),(210,⟨bj.A,bj.v,bj.o⟩),(243,⟨dO.A,dO.v,dO.o⟩),(212,⟨eU.A,eU.v,eU.o⟩),(261,⟨cj.A,cj.v,cj.o⟩),(244,⟨cD.A,cD.v,cD.o⟩),(214,⟨eK.A,eK.v,eK.o⟩),(213,⟨cN.A,cN.v,cN.o⟩),(211,⟨au.A,au.v,au.o⟩),(177,⟨dS.A,dS.v,dS.o⟩),(181,⟨eC.A,eC.v,eC.o⟩),(180,⟨cg.A,cg.v,cg.o⟩),(218,⟨fz.A,fz.v,fz.o⟩),(219,⟨fi.A,fi.v,fi.o⟩),(247,⟨bQ.A,bQ.v,bQ.o⟩),(220,⟨dn.A,dn.v,dn.o⟩),(221,⟨ey.A,ey.v,ey.o⟩),(222,⟨dW.A,dW.v,dW.o⟩),(136,⟨gM.A,gM.v,gM.o⟩),(183,⟨cr.A,cr.v,cr.o⟩),(186,⟨aX.A,aX.v,aX.o⟩),(182,⟨aM.A,aM.v,aM.o⟩),(184,⟨bS.A,bS.v,bS.o⟩),(185,⟨cE.A,cE.v,cE.o⟩),(179,⟨bu.A,bu.v,bu.o⟩),(178,⟨cb.A,cb.v,cb.o⟩),(224,⟨fQ.A,fQ.v,fQ.o⟩),(187,⟨dM.A,dM.v,dM.o⟩),(145,⟨dF.A,dF.v,dF.o⟩),(146,⟨aS.A,aS.v,aS.o⟩),(100,⟨aY.A,aY.v,aY.o⟩),(45,⟨fG.A,fG.v,fG.o⟩),(11,⟨cX.A,cX.v,cX.o⟩),(102,⟨cM.A,cM.v,cM.o⟩),(147,⟨fE.A,fE.v,fE.o⟩),(101,⟨bI.A,bI.v,bI.o⟩),(46,⟨eu.A,eu.v,eu.o⟩),(12,⟨fa.A,fa.v,fa.o⟩),(15,⟨fA.A,fA.v,fA.o⟩),(16,⟨dX.A,dX.v,dX.o⟩),(3,⟨cY.A,cY.v,cY.o⟩)]
def DO:List (Nat×Nat):=[(8,6),(39,32),(94,58),(40,37),(92,9),(91,12),(171,11),(139,11),(206,23),(170,59),(138,7),(86,24),(87,23),(89,20),(90,20),(60,15),(129,5),(172,19),(140,14),(238,37),(208,5),(174,16),(207,43),(173,41),(141,33),(112,25),(113,16),(116,34),(88,43),(192,27),(154,30),(111,72),(114,18),(156,27),(155,27),(115,20),(59,40),(117,12),(61,22),(157,21),(118,17),(130,18),(119,18),(158,60),(159,45),(226,11),(248,11),(249,21),(227,30),(257,11),(235,32),(228,39),(262,31),(251,30),(250,83),(229,30),(230,18),(193,50),(194,11),(231,14),(196,15),(252,13),(263,5),(253,11),(254,11),(255,11),(81,4),(233,52),(197,18),(232,82),(256,29),(234,53),(195,133),(198,28),(160,71),(161,57),(162,31),(120,114),(62,53),(18,26),(93,20),(168,34),(203,21),(167,40),(131,37),(78,27),(38,48),(9,6),(10,19),(175,8),(142,8),(95,23),(55,8),(96,11),(41,20),(50,15),(245,9),(105,5),(246,13),(225,5),(190,16),(223,5),(217,65),(215,9),(189,39),(150,11),(149,6),(188,19),(148,9),(103,13),(106,5),(108,6),(152,19),(107,9),(49,6),(151,27),(104,28),(47,72),(48,25),(51,18),(54,24),(53,26),(14,18),(52,20),(13,40),(42,5),(97,16),(43,23),(98,29),(44,9),(143,57),(144,19),(99,28),(176,9),(259,1),(260,1),(258,32),(240,26),(216,33),(239,56),(209,36),(242,9),(241,34),(210,38),(243,3),(212,8),(261,19),(244,9),(214,8),(213,14),(211,42),(177,18),(181,11),(180,17),(218,10),(219,13),(247,5),(220,11),(221,11),(222,11),(136,4),(183,60),(186,20),(182,85),(184,29),(185,28),(179,81),(178,51),(224,15),(187,34),(145,63),(146,11),(100,66),(45,30),(11,66),(102,33),(147,34),(101,43),(46,37),(12,27),(15,9),(16,7),(3,88)]
def CR:List (Nat×aa.Mode):=[(251,.edit),(250,.edit),(203,.take),(259,.edit),(260,.take),(211,.take)]
def PL:bE C:=⟨fun f=>lookup f Aw,fun f=>(lookup f DO).getD 0,fun f=>(lookup f CR).getD aa.Mode.read,[],[],[]⟩
def aF {A:Type}:Empty→Tr Empty A:=fun _=> .fail
theorem dy {R:Type} (v:R→PV U) (o:R→List (PV U)) {Q:bE C} {f:FuncId} {fn:Func} {c:Code} (hf:Pg.funcs[f]? =some fn) (hb:fn.body=some c) (hok:BM Q fn c=true) {S0:List (PV U)} {no:Nat} (hl:S0.length=fn.ntmps+no) {X:Type} {id:X→Nat} {st:X→List (PV U)} (hno:∀r,(o r).length=no) {tr:X→Tr X R} (he:df Pg C Q fn no id st v o tr) {bg:Tr X R} (hbg:vM Pg C Q fn no id st v o S0 bg) {r:R} (h:bg.run (lp tr)=some r):ae Pg C f S0 no (v r) (o r):=gK G mixed Q hf hb hok hl id st v o hno tr he bg hbg h
theorem aG {R:Type} (v:R→PV U) (o:R→List (PV U)) {Q:bE C} {f:FuncId} {fn:Func} {c:Code} (hf:Pg.funcs[f]? =some fn) (hb:fn.body=some c) (hok:BM Q fn c=true) {S0:List (PV U)} {no:Nat} (hl:S0.length=fn.ntmps+no) (hno:∀r,(o r).length=no) {bg:Tr Empty R} (hbg:vM Pg C Q fn no (fun _=>0) (fun _=>[]) v o S0 bg) {r:R} (h:bg.run (lp aF)=some r):ae Pg C f S0 no (v r) (o r):=dy v o hf hb hok hl hno (fun _ _ x=>x.elim) hbg h
end
end Go.Proofs.YtmapddgocpkgeaaGreat.Ev
