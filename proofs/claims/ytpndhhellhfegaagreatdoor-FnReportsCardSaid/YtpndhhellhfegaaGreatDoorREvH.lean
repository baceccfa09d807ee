/- The program's types for the evaluator, looked up, and the table of calls. No conditions. -/
import Derived.Test.YtpndhhellhfegaaGreatDoorLibC
import Derived.WalkKit
import Derived.Test.YtpndhhellhfegaaGreatDoorProg
import Derived.Test.YtpndhhellhfegaaGreatDoorShelf
import Derived.Lib.SmallJoins
import Derived.Lib.AppendIntMem
namespace Go.Proofs.YtpndhhellhfegaaGreatDoor.Ev
open Go.Proofs.YtpndhhellhfegaaGreatDoor.aa Go.RowKit
set_option linter.unusedVariables false
set_option maxRecDepth 100000
noncomputable section
structure om where
 f0:Int
 f1:Int
 f2:Int
def z85:om:=⟨(0:Int),(0:Int),(0:Int)⟩
structure aw where
 f0:Int
 f1:Int
 f2:Int
 f3:om
def Ee:aw:=⟨(0:Int),(0:Int),(0:Int),z85⟩
structure bR where
 f0:List aw
 f1:om
def z87:bR:=⟨([]:List aw),z85⟩
structure aL where
 f0:Int
 f1:Int
 f2:Int
def EI:aL:=⟨(0:Int),(0:Int),(0:Int)⟩
structure iA where
 f0:Int
 f1:Int
def EK:iA:=⟨(0:Int),(0:Int)⟩
structure fG where
 f0:Int
 f1:Int
def Eu:fG:=⟨(0:Int),(0:Int)⟩
abbrev wr (n:Int):Int:=IntKind.wrap .i64 n
abbrev cT (xs:List Int) (i:Int):Int:=xs.getD i.toNat (0:Int)
abbrev D2 (xs:List Bool) (i:Int):Bool:=xs.getD i.toNat false
abbrev EU (xs:List ByteArray) (i:Int):ByteArray:=xs.getD i.toNat ByteArray.empty
abbrev Fm (xs:List (List Int)) (i:Int):List Int:=xs.getD i.toNat ([]:List Int)
abbrev aj (xs:List aw) (i:Int):aw:=xs.getD i.toNat Ee
abbrev cS (xs:List bR) (i:Int):bR:=xs.getD i.toNat z87
abbrev fX (xs:List aL) (i:Int):aL:=xs.getD i.toNat EI
abbrev yp (xs:List iA) (i:Int):iA:=xs.getD i.toNat EK
abbrev nU (xs:List fG) (i:Int):fG:=xs.getD i.toNat Eu
def Dx:List (Nat×(Σ T:Type,T)):=[
 (3,⟨Int,(0:Int)⟩),
 (4,⟨Bool,false⟩),
 (5,⟨Int,(0:Int)⟩),
 (9,⟨ByteArray,ByteArray.empty⟩),
 (25,⟨List Int,([]:List Int)⟩),
 (122,⟨aw,Ee⟩),
 (88,⟨bR,z87⟩),
 (189,⟨aL,EI⟩),
 (192,⟨iA,EK⟩),
 (201,⟨fG,Eu⟩)]
def U:fS:=⟨fun e=>(D6 Dx e).1,fun e=>(D6 Dx e).2⟩
def EO:List (Σ e,DZ U e):=[
 ⟨3,⟨fun(x:Int)=> .int .i64 x,fun v=>(match v with | .int .i64 y1=>some (y1:Int) | _=>none:Option Int)⟩⟩,
 ⟨4,⟨fun(x:Bool)=> .bool x,fun v=>(match v with | .bool y1=>some (y1:Bool) | _=>none:Option Bool)⟩⟩,
 ⟨5,⟨fun(x:Int)=> .int .u8 x,fun v=>(match v with | .int .u8 y1=>some (y1:Int) | _=>none:Option Int)⟩⟩,
 ⟨9,⟨fun(x:ByteArray)=> .str x,fun v=>(match v with | .str y1=>some (y1:ByteArray) | _=>none:Option ByteArray)⟩⟩,
 ⟨25,⟨fun(x:List Int)=> .sl 3 x,fun v=>(match v with | .sl 3 y1=>some (y1:List Int) | _=>none:Option (List Int))⟩⟩,
 ⟨122,⟨fun(x:aw)=> .agg [.int .i64 x.f0,.int .i64 x.f1,.int .i64 x.f2,.int .i64 x.f3.f0,.int .i64 x.f3.f1,.int .i64 x.f3.f2],fun v=>(match v with | .agg [.int .i64 y1,.int .i64 y2,.int .i64 y3,.int .i64 y4,.int .i64 y5,.int .i64 y6]=>some ((⟨y1,y2,y3,(⟨y4,y5,y6⟩:om)⟩:aw):aw) | _=>none:Option aw)⟩⟩,
 ⟨88,⟨fun(x:bR)=> .agg [.sl 122 x.f0,.int .i64 x.f1.f0,.int .i64 x.f1.f1,.int .i64 x.f1.f2],fun v=>(match v with | .agg [.sl 122 y1,.int .i64 y2,.int .i64 y3,.int .i64 y4]=>some ((⟨y1,(⟨y2,y3,y4⟩:om)⟩:bR):bR) | _=>none:Option bR)⟩⟩,
 ⟨189,⟨fun(x:aL)=> .agg [.int .i64 x.f0,.int .i64 x.f1,.int .i64 x.f2],fun v=>(match v with | .agg [.int .i64 y1,.int .i64 y2,.int .i64 y3]=>some ((⟨y1,y2,y3⟩:aL):aL) | _=>none:Option aL)⟩⟩,
 ⟨192,⟨fun(x:iA)=> .agg [.int .i64 x.f0,.int .i64 x.f1],fun v=>(match v with | .agg [.int .i64 y1,.int .i64 y2]=>some ((⟨y1,y2⟩:iA):iA) | _=>none:Option iA)⟩⟩,
 ⟨201,⟨fun(x:fG)=> .agg [.int .i64 x.f0,.int .i64 x.f1],fun v=>(match v with | .agg [.int .i64 y1,.int .i64 y2]=>some ((⟨y1,y2⟩:fG):fG) | _=>none:Option fG)⟩⟩]
def tv:List (Nat×Ty U):=[
 (3,.int .i64),
 (4,.bool),
 (5,.int .u8),
 (9,.str),
 (25,.slice 3),
 (37,.slice 9),
 (39,.slice 88),
 (41,.struct [(0,39)] [.own true 88 ([]:List bR)]),
 (42,.struct [(0,3),(1,3),(2,3),(3,3)] [.int .i64 (0:Int),.int .i64 (0:Int),.int .i64 (0:Int),.int .i64 (0:Int)]),
 (43,.struct [(0,3),(1,3)] [.int .i64 (0:Int),.int .i64 (0:Int)]),
 (44,.struct [(0,25)] [.own true 3 ([]:List Int)]),
 (46,.struct [(0,3),(1,44)] [.int .i64 (0:Int),.own true 3 ([]:List Int)]),
 (48,.struct [(0,41),(1,25),(2,25),(3,3),(4,42),(8,43),(10,46),(12,3)] [.own true 88 ([]:List bR),.own true 3 ([]:List Int),.own true 3 ([]:List Int),.int .i64 (0:Int),.int .i64 (0:Int),.int .i64 (0:Int),.int .i64 (0:Int),.int .i64 (0:Int),.int .i64 (0:Int),.int .i64 (0:Int),.int .i64 (0:Int),.own true 3 ([]:List Int),.int .i64 (0:Int)]),
 (55,.slice 5),
 (81,.ptr),
 (84,.slice 122),
 (86,.struct [(0,3),(1,3),(2,3)] [.int .i64 (0:Int),.int .i64 (0:Int),.int .i64 (0:Int)]),
 (88,.struct [(0,84),(1,86)] [.own true 122 ([]:List aw),.int .i64 (0:Int),.int .i64 (0:Int),.int .i64 (0:Int)]),
 (116,.slice 4),
 (119,.struct [(0,55),(1,3),(2,3)] [.own true 5 ([]:List Int),.int .i64 (0:Int),.int .i64 (0:Int)]),
 (122,.struct [(0,3),(1,3),(2,3),(3,86)] [.int .i64 (0:Int),.int .i64 (0:Int),.int .i64 (0:Int),.int .i64 (0:Int),.int .i64 (0:Int),.int .i64 (0:Int)]),
 (154,.int .u64),
 (158,.slice 25),
 (160,.struct [(0,25),(1,3),(2,158),(3,3)] [.own true 3 ([]:List Int),.int .i64 (0:Int),.own true 25 ([]:List (List Int)),.int .i64 (0:Int)]),
 (164,.slice 192),
 (180,.slice 201),
 (183,.slice 189),
 (185,.struct [(0,183),(1,25)] [.own true 189 ([]:List aL),.own true 3 ([]:List Int)]),
 (189,.struct [(0,3),(1,3),(2,3)] [.int .i64 (0:Int),.int .i64 (0:Int),.int .i64 (0:Int)]),
 (192,.struct [(0,3),(1,3)] [.int .i64 (0:Int),.int .i64 (0:Int)]),
 (201,.struct [(0,3),(1,3)] [.int .i64 (0:Int),.int .i64 (0:Int)]),
 (204,.struct [(0,25),(1,25),(2,25),(3,25),(4,25),(5,3),(6,4)] [.own true 3 ([]:List Int),.own true 3 ([]:List Int),.own true 3 ([]:List Int),.own true 3 ([]:List Int),.own true 3 ([]:List Int),.int .i64 (0:Int),.bool false]),
 (206,.struct [(0,204),(7,183),(8,25),(9,25),(10,3),(11,3)] [.own true 3 ([]:List Int),.own true 3 ([]:List Int),.own true 3 ([]:List Int),.own true 3 ([]:List Int),.own true 3 ([]:List Int),.int .i64 (0:Int),.bool false,.own true 189 ([]:List aL),.own true 3 ([]:List Int),.own true 3 ([]:List Int),.int .i64 (0:Int),.int .i64 (0:Int)]),
 (208,.ptr),
 (218,.ptr)]
def pn:List (Nat×Nat):=[(3,8),(4,1),(5,1),(9,16),(25,24),(122,48),(88,48),(189,24),(192,16),(201,16)]
def vZ:List (Nat×Nat):=[(42,4),(43,2),(86,3),(122,6)]
structure Ck (w:World):Prop where
 pow:Lib.TabIs Tryz.prog w "internal/strconv.uint64pow10" .u64 Lib.pow10Tab
theorem Dh (w w':World) (h:Ck w) (hw:∀g,g∈[0]→w'.heap[g]? =w.heap[g]?):Ck w':=⟨(CU (P:=Tryz.prog) (n:= "internal/strconv.uint64pow10") (g:=0) (by kernel_rfl) (hw 0 (by simp))).trans h.pow⟩
theorem Eg (w:World) (h:Ck w) (g:Nat) (hg:g∈[0]):g<w.heap.size:=by
 simp only[List.mem_cons,List.not_mem_nil,or_false]at hg;rcases hg with rfl
 ·exact DX (P:=Tryz.prog) (n:= "internal/strconv.uint64pow10") (g:=0) (by kernel_rfl) h.pow
def C:Ctx:=⟨U,fun e=>(DC (As U) EO e).enc,fun e=>(DC (As U) EO e).dec,fun t=>lookup t tv,fun e=>(lookup e pn).getD 0,fun t=>lookup t vZ,[0],Ck⟩
theorem E1:wS (fun p:Σ e,DZ U e=>C6 p.1 p.2) EO:=⟨⟨fun _=>rfl,fun _=>rfl,fun _=>rfl,fun v y h=>by dsimp only at h;split at h<;>first | (cases h;rfl) | cases h⟩,
 ⟨fun _=>rfl,fun _=>rfl,fun _=>rfl,fun v y h=>by dsimp only at h;split at h<;>first | (cases h;rfl) | cases h⟩,
 ⟨fun _=>rfl,fun _=>rfl,fun _=>rfl,fun v y h=>by dsimp only at h;split at h<;>first | (cases h;rfl) | cases h⟩,
 ⟨fun _=>rfl,fun _=>rfl,fun _=>rfl,fun v y h=>by dsimp only at h;split at h<;>first | (cases h;rfl) | cases h⟩,
 ⟨fun _=>rfl,fun _=>rfl,fun _=>rfl,fun v y h=>by dsimp only at h;split at h<;>first | (cases h;rfl) | cases h⟩,
 ⟨fun _=>rfl,fun _=>rfl,fun _=>rfl,fun v y h=>by dsimp only at h;split at h<;>first | (cases h;rfl) | cases h⟩,
 ⟨fun _=>rfl,fun _=>rfl,fun _=>rfl,fun v y h=>by dsimp only at h;split at h<;>first | (cases h;rfl) | cases h⟩,
 ⟨fun _=>rfl,fun _=>rfl,fun _=>rfl,fun v y h=>by dsimp only at h;split at h<;>first | (cases h;rfl) | cases h⟩,
 ⟨fun _=>rfl,fun _=>rfl,fun _=>rfl,fun v y h=>by dsimp only at h;split at h<;>first | (cases h;rfl) | cases h⟩,
 ⟨fun _=>rfl,fun _=>rfl,fun _=>rfl,fun v y h=>by dsimp only at h;split at h<;>first | (cases h;rfl) | cases h⟩,trivial⟩
theorem EV:wS (fun p:Nat×Ty U=>jL Tryz.prog C p.1 p.2) tv:=⟨u9 (by kernel_rfl) (by kernel_rfl),
 BU (by kernel_rfl) (by kernel_rfl),
 u9 (by kernel_rfl) (by kernel_rfl),
 CG (by kernel_rfl) (by kernel_rfl),
 iF (by kernel_rfl) (by kernel_rfl),
 iF (by kernel_rfl) (by kernel_rfl),
 iF (by kernel_rfl) (by kernel_rfl),
 dX #[.slice none 0 0] (by kernel_rfl) (by kernel_rfl) (by kernel_rfl) (by kernel_rfl) (by kernel_rfl),
 dX #[.int .i64 0,.int .i64 0,.int .i64 0,.int .i64 0] (by kernel_rfl) (by kernel_rfl) (by kernel_rfl) (by kernel_rfl) (by kernel_rfl),
 dX #[.int .i64 0,.int .i64 0] (by kernel_rfl) (by kernel_rfl) (by kernel_rfl) (by kernel_rfl) (by kernel_rfl),
 dX #[.slice none 0 0] (by kernel_rfl) (by kernel_rfl) (by kernel_rfl) (by kernel_rfl) (by kernel_rfl),
 dX #[.int .i64 0,.slice none 0 0] (by kernel_rfl) (by kernel_rfl) (by kernel_rfl) (by kernel_rfl) (by kernel_rfl),
 dX #[.slice none 0 0,.slice none 0 0,.slice none 0 0,.int .i64 0,.int .i64 0,.int .i64 0,.int .i64 0,.int .i64 0,.int .i64 0,.int .i64 0,.int .i64 0,.slice none 0 0,.int .i64 0] (by kernel_rfl) (by kernel_rfl) (by kernel_rfl) (by kernel_rfl) (by kernel_rfl),
 iF (by kernel_rfl) (by kernel_rfl),
 vE (e:=119) (by kernel_rfl) (by kernel_rfl),
 iF (by kernel_rfl) (by kernel_rfl),
 dX #[.int .i64 0,.int .i64 0,.int .i64 0] (by kernel_rfl) (by kernel_rfl) (by kernel_rfl) (by kernel_rfl) (by kernel_rfl),
 dX #[.slice none 0 0,.int .i64 0,.int .i64 0,.int .i64 0] (by kernel_rfl) (by kernel_rfl) (by kernel_rfl) (by kernel_rfl) (by kernel_rfl),
 iF (by kernel_rfl) (by kernel_rfl),
 dX #[.slice none 0 0,.int .i64 0,.int .i64 0] (by kernel_rfl) (by kernel_rfl) (by kernel_rfl) (by kernel_rfl) (by kernel_rfl),
 dX #[.int .i64 0,.int .i64 0,.int .i64 0,.int .i64 0,.int .i64 0,.int .i64 0] (by kernel_rfl) (by kernel_rfl) (by kernel_rfl) (by kernel_rfl) (by kernel_rfl),
 u9 (by kernel_rfl) (by kernel_rfl),
 iF (by kernel_rfl) (by kernel_rfl),
 dX #[.slice none 0 0,.int .i64 0,.slice none 0 0,.int .i64 0] (by kernel_rfl) (by kernel_rfl) (by kernel_rfl) (by kernel_rfl) (by kernel_rfl),
 iF (by kernel_rfl) (by kernel_rfl),
 iF (by kernel_rfl) (by kernel_rfl),
 iF (by kernel_rfl) (by kernel_rfl),
 dX #[.slice none 0 0,.slice none 0 0] (by kernel_rfl) (by kernel_rfl) (by kernel_rfl) (by kernel_rfl) (by kernel_rfl),
 dX #[.int .i64 0,.int .i64 0,.int .i64 0] (by kernel_rfl) (by kernel_rfl) (by kernel_rfl) (by kernel_rfl) (by kernel_rfl),
 dX #[.int .i64 0,.int .i64 0] (by kernel_rfl) (by kernel_rfl) (by kernel_rfl) (by kernel_rfl) (by kernel_rfl),
 dX #[.int .i64 0,.int .i64 0] (by kernel_rfl) (by kernel_rfl) (by kernel_rfl) (by kernel_rfl) (by kernel_rfl),
 dX #[.slice none 0 0,.slice none 0 0,.slice none 0 0,.slice none 0 0,.slice none 0 0,.int .i64 0,.bool false] (by kernel_rfl) (by kernel_rfl) (by kernel_rfl) (by kernel_rfl) (by kernel_rfl),
 dX #[.slice none 0 0,.slice none 0 0,.slice none 0 0,.slice none 0 0,.slice none 0 0,.int .i64 0,.bool false,.slice none 0 0,.slice none 0 0,.slice none 0 0,.int .i64 0,.int .i64 0] (by kernel_rfl) (by kernel_rfl) (by kernel_rfl) (by kernel_rfl) (by kernel_rfl),
 vE (e:=206) (by kernel_rfl) (by kernel_rfl),
 vE (e:=204) (by kernel_rfl) (by kernel_rfl),trivial⟩
theorem Fk:jG Tryz.prog C 3:=iG (.int .i64 0) 1 8 (fun x T h ha=>by have h':(some (.int .i64):Option (Ty U))=some T:=h;cases h';cases ha) (by kernel_rfl) (by kernel_rfl) (by kernel_rfl) (by decide) (by decide) (by kernel_rfl)
theorem Fl:jG Tryz.prog C 4:=iG (.bool false) 1 1 (fun x T h ha=>by have h':(some (.bool):Option (Ty U))=some T:=h;cases h';cases ha) (by kernel_rfl) (by kernel_rfl) (by kernel_rfl) (by decide) (by decide) (by kernel_rfl)
theorem Fp:jG Tryz.prog C 5:=iG (.int .u8 0) 1 1 (fun x T h ha=>by have h':(some (.int .u8):Option (Ty U))=some T:=h;cases h';cases ha) (by kernel_rfl) (by kernel_rfl) (by kernel_rfl) (by decide) (by decide) (by kernel_rfl)
theorem Fo:jG Tryz.prog C 9:=iG (.string .empty) 1 16 (fun x T h ha=>by have h':(some (.str):Option (Ty U))=some T:=h;cases h';cases ha) (by kernel_rfl) (by kernel_rfl) (by kernel_rfl) (by decide) (by decide) (by kernel_rfl)
theorem EZ:jG Tryz.prog C 25:=iG (.slice none 0 0) 1 24 (fun x T h ha=>by have h':(some (.slice 3):Option (Ty U))=some T:=h;cases h';cases ha) (by kernel_rfl) (by kernel_rfl) (by kernel_rfl) (by decide) (by decide) (by kernel_rfl)
theorem EX:jG Tryz.prog C 88:=iG (.agg #[.slice none 0 0,.int .i64 0,.int .i64 0,.int .i64 0]) 4 48 (fun x T _ _=>⟨_,rfl⟩) (by kernel_rfl) (by kernel_rfl) (by kernel_rfl) (by decide) (by decide) (by kernel_rfl)
theorem Ew:jG Tryz.prog C 122:=iG (.agg #[.int .i64 0,.int .i64 0,.int .i64 0,.int .i64 0,.int .i64 0,.int .i64 0]) 6 48 (fun x T _ _=>⟨_,rfl⟩) (by kernel_rfl) (by kernel_rfl) (by kernel_rfl) (by decide) (by decide) (by kernel_rfl)
theorem Ej:jG Tryz.prog C 189:=iG (.agg #[.int .i64 0,.int .i64 0,.int .i64 0]) 3 24 (fun x T _ _=>⟨_,rfl⟩) (by kernel_rfl) (by kernel_rfl) (by kernel_rfl) (by decide) (by decide) (by kernel_rfl)
theorem Ek:jG Tryz.prog C 192:=iG (.agg #[.int .i64 0,.int .i64 0]) 2 16 (fun x T _ _=>⟨_,rfl⟩) (by kernel_rfl) (by kernel_rfl) (by kernel_rfl) (by decide) (by decide) (by kernel_rfl)
theorem Et:jG Tryz.prog C 201:=iG (.agg #[.int .i64 0,.int .i64 0]) 2 16 (fun x T _ _=>⟨_,rfl⟩) (by kernel_rfl) (by kernel_rfl) (by kernel_rfl) (by decide) (by decide) (by kernel_rfl)
theorem EY:wS (fun p:Nat×Ty U=>∀e,p.2= .slice e→jG Tryz.prog C e) tv:=⟨(fun e h=>by cases h),(fun e h=>by cases h),(fun e h=>by cases h),(fun e h=>by cases h),(fun e h=>by cases h;exact Fk),(fun e h=>by cases h;exact Fo),(fun e h=>by cases h;exact EX),(fun e h=>by cases h),(fun e h=>by cases h),(fun e h=>by cases h),(fun e h=>by cases h),(fun e h=>by cases h),(fun e h=>by cases h),(fun e h=>by cases h;exact Fp),(fun e h=>by cases h),(fun e h=>by cases h;exact Ew),(fun e h=>by cases h),(fun e h=>by cases h),(fun e h=>by cases h;exact Fl),(fun e h=>by cases h),(fun e h=>by cases h),(fun e h=>by cases h),(fun e h=>by cases h;exact EZ),(fun e h=>by cases h),(fun e h=>by cases h;exact Ek),(fun e h=>by cases h;exact Et),(fun e h=>by cases h;exact Ej),(fun e h=>by cases h),(fun e h=>by cases h),(fun e h=>by cases h),(fun e h=>by cases h),(fun e h=>by cases h),(fun e h=>by cases h),(fun e h=>by cases h),(fun e h=>by cases h),trivial⟩
def zX (x0 x1 x2 x3 y0 y1 y2 y3:Int):Bool:=(x0==y0)&&((x1==y1)&&((x2==y2)&&((x3==y3)&&true)))
theorem Ef (d:Nat) (w:World) (k0 k1 k2 k3:IntKind) (x0 x1 x2 x3 y0 y1 y2 y3:Int):(Op.equalIn (d+2) 42 (.agg #[.int k0 x0,.int k1 x1,.int k2 x2,.int k3 x3]) (.agg #[.int k0 y0,.int k1 y1,.int k2 y2,.int k3 y3])).run Tryz.prog w= .ok (zX x0 x1 x2 x3 y0 y1 y2 y3) w:=by
 refine pE Tryz.underlying42 (by kernel_rfl) ?_;refine jJ (by rfl) (by go_simp;rfl) (by go_simp;rfl) (by go_simp) ?_;refine jJ (by rfl) (by go_simp;rfl) (by go_simp;rfl) (by go_simp) ?_;refine jJ (by rfl) (by go_simp;rfl) (by go_simp;rfl) (by go_simp) ?_;refine jJ (by rfl) (by go_simp;rfl) (by go_simp;rfl) (by go_simp) ?_;exact eq_nil
theorem E7:B6 Tryz.prog 42 4:=fun ps w h=>match ps,h with
 | [p0,p1,p2,p3],_=>⟨by
  have e:=Ef 9998 w p0.1 p1.1 p2.1 p3.1 p0.2.1 p1.2.1 p2.2.1 p3.2.1 p0.2.2 p1.2.2 p2.2.2 p3.2.2;have hb:∀a b:Int,(a==b)=decide (a=b):=fun _ _=>rfl;exact e.trans (by simp[zX,List.all,hb]),by kernel_rfl⟩
def Bl (x0 x1 y0 y1:Int):Bool:=(x0==y0)&&((x1==y1)&&true)
theorem EA (d:Nat) (w:World) (k0 k1:IntKind) (x0 x1 y0 y1:Int):(Op.equalIn (d+2) 43 (.agg #[.int k0 x0,.int k1 x1]) (.agg #[.int k0 y0,.int k1 y1])).run Tryz.prog w= .ok (Bl x0 x1 y0 y1) w:=by
 refine pE Tryz.underlying43 (by kernel_rfl) ?_;refine jJ (by rfl) (by go_simp;rfl) (by go_simp;rfl) (by go_simp) ?_;refine jJ (by rfl) (by go_simp;rfl) (by go_simp;rfl) (by go_simp) ?_;exact eq_nil
theorem E0:B6 Tryz.prog 43 2:=fun ps w h=>match ps,h with
 | [p0,p1],_=>⟨by
  have e:=EA 9998 w p0.1 p1.1 p0.2.1 p1.2.1 p0.2.2 p1.2.2;have hb:∀a b:Int,(a==b)=decide (a=b):=fun _ _=>rfl;exact e.trans (by simp[zX,Bl,List.all,hb]),by kernel_rfl⟩
def A5 (x0 x1 x2 y0 y1 y2:Int):Bool:=(x0==y0)&&((x1==y1)&&((x2==y2)&&true))
theorem DE (d:Nat) (w:World) (k0 k1 k2:IntKind) (x0 x1 x2 y0 y1 y2:Int):(Op.equalIn (d+2) 86 (.agg #[.int k0 x0,.int k1 x1,.int k2 x2]) (.agg #[.int k0 y0,.int k1 y1,.int k2 y2])).run Tryz.prog w= .ok (A5 x0 x1 x2 y0 y1 y2) w:=by
 refine pE Tryz.underlying86 (by kernel_rfl) ?_;refine jJ (by rfl) (by go_simp;rfl) (by go_simp;rfl) (by go_simp) ?_;refine jJ (by rfl) (by go_simp;rfl) (by go_simp;rfl) (by go_simp) ?_;refine jJ (by rfl) (by go_simp;rfl) (by go_simp;rfl) (by go_simp) ?_;exact eq_nil
theorem E4:B6 Tryz.prog 86 3:=fun ps w h=>match ps,h with
 | [p0,p1,p2],_=>⟨by
  have e:=DE 9998 w p0.1 p1.1 p2.1 p0.2.1 p1.2.1 p2.2.1 p0.2.2 p1.2.2 p2.2.2;have hb:∀a b:Int,(a==b)=decide (a=b):=fun _ _=>rfl;exact e.trans (by simp[zX,Bl,A5,List.all,hb]),by kernel_rfl⟩
def CJ (x0 x1 x2 x3 x4 x5 y0 y1 y2 y3 y4 y5:Int):Bool:=(x0==y0)&&((x1==y1)&&((x2==y2)&&((A5 x3 x4 x5 y3 y4 y5)&&true)))
theorem D3 (d:Nat) (w:World) (k0 k1 k2 k3 k4 k5:IntKind) (x0 x1 x2 x3 x4 x5 y0 y1 y2 y3 y4 y5:Int):(Op.equalIn (d+3) 122 (.agg #[.int k0 x0,.int k1 x1,.int k2 x2,.int k3 x3,.int k4 x4,.int k5 x5]) (.agg #[.int k0 y0,.int k1 y1,.int k2 y2,.int k3 y3,.int k4 y4,.int k5 y5])).run Tryz.prog w= .ok (CJ x0 x1 x2 x3 x4 x5 y0 y1 y2 y3 y4 y5) w:=by
 refine pE Tryz.underlying122 (by kernel_rfl) ?_;refine jJ (by rfl) (by go_simp;rfl) (by go_simp;rfl) (by go_simp) ?_;refine jJ (by rfl) (by go_simp;rfl) (by go_simp;rfl) (by go_simp) ?_;refine jJ (by rfl) (by go_simp;rfl) (by go_simp;rfl) (by go_simp) ?_;refine jJ (a:= .agg #[.int k3 x3,.int k4 x4,.int k5 x5]) (b:= .agg #[.int k3 y3,.int k4 y4,.int k5 y5]) (by rfl) (by go_simp) (by go_simp) (DE d w k3 k4 k5 x3 x4 x5 y3 y4 y5) ?_;exact eq_nil
theorem ED:B6 Tryz.prog 122 6:=fun ps w h=>match ps,h with
 | [p0,p1,p2,p3,p4,p5],_=>⟨by
  have e:=D3 9997 w p0.1 p1.1 p2.1 p3.1 p4.1 p5.1 p0.2.1 p1.2.1 p2.2.1 p3.2.1 p4.2.1 p5.2.1 p0.2.2 p1.2.2 p2.2.2 p3.2.2 p4.2.2 p5.2.2;have hb:∀a b:Int,(a==b)=decide (a=b):=fun _ _=>rfl;exact e.trans (by simp[zX,Bl,A5,CJ,List.all,hb]),by kernel_rfl⟩
theorem Fg:wS (fun p:Nat×Nat=>B6 Tryz.prog p.1 p.2) vZ:=⟨E7,E0,E4,ED,trivial⟩
theorem G:aa.Good Tryz.prog C:=C2 (U:=U) (xV:=EO) (tv:=tv) (pn:=pn) (vZ:=vZ) rfl E1 EV (fun t e h=>EY.mem _ (nE h) e rfl) Fg (Dh)
abbrev Pg:Program:=Tryz.prog
theorem mixed:Pg.follows .mixedOrders=true:=by kernel_rfl
abbrev iJ.A:=Bool
def iJ.v:iJ.A→PV U:=fun r=> .bool r
def iJ.o:iJ.A→List (PV U):=fun r=>[]
abbrev eR.A:=(List Int)×Int×Int
def eR.v:eR.A→PV U:=fun r=> .box [.sl 5 r.1,.int .i64 r.2.1,.int .i64 r.2.2]
def eR.o:eR.A→List (PV U):=fun r=>[]
abbrev cC.A:=Int×(List Int)×Int×Int
def cC.v:cC.A→PV U:=fun r=> .int .i64 r.1
def cC.o:cC.A→List (PV U):=fun r=>[.box [.sl 5 r.2.1,.int .i64 r.2.2.1,.int .i64 r.2.2.2]]
abbrev au.A:=Int×(List Int)×Int×Int
def au.v:au.A→PV U:=fun r=> .int .i64 r.1
def au.o:au.A→List (PV U):=fun r=>[.box [.sl 5 r.2.1,.int .i64 r.2.2.1,.int .i64 r.2.2.2]]
abbrev bx.A:=Bool×(List Int)×Int×Int
def bx.v:bx.A→PV U:=fun r=> .bool r.1
def bx.o:bx.A→List (PV U):=fun r=>[.box [.sl 5 r.2.1,.int .i64 r.2.2.1,.int .i64 r.2.2.2]]
abbrev bW.A:=Int×(List Int)×Int×Int
def bW.v:bW.A→PV U:=fun r=> .int .i64 r.1
def bW.o:bW.A→List (PV U):=fun r=>[.box [.sl 5 r.2.1,.int .i64 r.2.2.1,.int .i64 r.2.2.2]]
abbrev cl.A:=Int×(List Int)×Int×Int
def cl.v:cl.A→PV U:=fun r=> .int .i64 r.1
def cl.o:cl.A→List (PV U):=fun r=>[.box [.sl 5 r.2.1,.int .i64 r.2.2.1,.int .i64 r.2.2.2]]
abbrev cD.A:=Int×Int×Int×(List Int)×Int×Int
def cD.v:cD.A→PV U:=fun r=> .agg [.int .i64 r.1,.int .i64 r.2.1,.int .i64 r.2.2.1]
def cD.o:cD.A→List (PV U):=fun r=>[.box [.sl 5 r.2.2.2.1,.int .i64 r.2.2.2.2.1,.int .i64 r.2.2.2.2.2]]
abbrev dj.A:=Int×Int×Int×Int×Int×Int×(List Int)×Int×Int
def dj.v:dj.A→PV U:=fun r=> .agg [.int .i64 r.1,.int .i64 r.2.1,.int .i64 r.2.2.1,.int .i64 r.2.2.2.1,.int .i64 r.2.2.2.2.1,.int .i64 r.2.2.2.2.2.1]
def dj.o:dj.A→List (PV U):=fun r=>[.box [.sl 5 r.2.2.2.2.2.2.1,.int .i64 r.2.2.2.2.2.2.2.1,.int .i64 r.2.2.2.2.2.2.2.2]]
abbrev aV.A:=(List aw)×(List Int)×Int×Int
def aV.v:aV.A→PV U:=fun r=> .own true 122 r.1
def aV.o:aV.A→List (PV U):=fun r=>[.box [.sl 5 r.2.1,.int .i64 r.2.2.1,.int .i64 r.2.2.2]]
abbrev eu.A:=(List aw)×(List Int)×Int×Int
def eu.v:eu.A→PV U:=fun r=> .own true 122 r.1
def eu.o:eu.A→List (PV U):=fun r=>[.box [.sl 5 r.2.1,.int .i64 r.2.2.1,.int .i64 r.2.2.2]]
abbrev cn.A:=(List bR)×(List Int)×Int×Int
def cn.v:cn.A→PV U:=fun r=> .agg [.own true 88 r.1]
def cn.o:cn.A→List (PV U):=fun r=>[.box [.sl 5 r.2.1,.int .i64 r.2.2.1,.int .i64 r.2.2.2]]
abbrev dU.A:=Int×Int×Int×Int×(List Int)×Int×Int
def dU.v:dU.A→PV U:=fun r=> .agg [.int .i64 r.1,.int .i64 r.2.1,.int .i64 r.2.2.1,.int .i64 r.2.2.2.1]
def dU.o:dU.A→List (PV U):=fun r=>[.box [.sl 5 r.2.2.2.2.1,.int .i64 r.2.2.2.2.2.1,.int .i64 r.2.2.2.2.2.2]]
abbrev bE.A:=(List Int)×(List Int)×Int×Int
def bE.v:bE.A→PV U:=fun r=> .own true 3 r.1
def bE.o:bE.A→List (PV U):=fun r=>[.box [.sl 5 r.2.1,.int .i64 r.2.2.1,.int .i64 r.2.2.2]]
abbrev aD.A:=(List Int)×(List Int)×Int×Int
def aD.v:aD.A→PV U:=fun r=> .own true 3 r.1
def aD.o:aD.A→List (PV U):=fun r=>[.box [.sl 5 r.2.1,.int .i64 r.2.2.1,.int .i64 r.2.2.2]]
abbrev aC.A:=Bool
def aC.v:aC.A→PV U:=fun r=> .bool r
def aC.o:aC.A→List (PV U):=fun r=>[]
abbrev df.A:=Bool
def df.v:df.A→PV U:=fun r=> .bool r
def df.o:df.A→List (PV U):=fun r=>[]
abbrev ef.A:=Bool
def ef.v:ef.A→PV U:=fun r=> .bool r
def ef.o:ef.A→List (PV U):=fun r=>[]
abbrev fC.A:=(List Int)×Bool
def fC.v:fC.A→PV U:=fun r=> .im [.own true 3 r.1,.bool r.2]
def fC.o:fC.A→List (PV U):=fun r=>[]
abbrev dW.A:=Int×Int×Int×Int×Int×Int
def dW.v:dW.A→PV U:=fun r=> .agg [.int .i64 r.1,.int .i64 r.2.1,.int .i64 r.2.2.1,.int .i64 r.2.2.2.1,.int .i64 r.2.2.2.2.1,.int .i64 r.2.2.2.2.2]
def dW.o:dW.A→List (PV U):=fun r=>[]
abbrev dw.A:=Bool
def dw.v:dw.A→PV U:=fun r=> .bool r
def dw.o:dw.A→List (PV U):=fun r=>[]
abbrev cb.A:=Bool
def cb.v:cb.A→PV U:=fun r=> .bool r
def cb.o:cb.A→List (PV U):=fun r=>[]
abbrev fD.A:=Bool
def fD.v:fD.A→PV U:=fun r=> .bool r
def fD.o:fD.A→List (PV U):=fun r=>[]
abbrev bm.A:=Bool
def bm.v:bm.A→PV U:=fun r=> .bool r
def bm.o:bm.A→List (PV U):=fun r=>[]
abbrev cj.A:=Bool
def cj.v:cj.A→PV U:=fun r=> .bool r
def cj.o:cj.A→List (PV U):=fun r=>[]
abbrev dM.A:=Bool
def dM.v:dM.A→PV U:=fun r=> .bool r
def dM.o:dM.A→List (PV U):=fun r=>[]
abbrev bH.A:=Bool
def bH.v:bH.A→PV U:=fun r=> .bool r
def bH.o:bH.A→List (PV U):=fun r=>[]
abbrev bV.A:=(List bR)
def bV.v:bV.A→PV U:=fun r=> .agg [.own true 88 r]
def bV.o:bV.A→List (PV U):=fun r=>[]
abbrev aQ.A:=(List bR)×(List Int)×(List Int)×Int×Int×Int×Int×Int×Int×Int×Int×(List Int)×Int×Bool
def aQ.v:aQ.A→PV U:=fun r=> .im [.agg [.own true 88 r.1,.own true 3 r.2.1,.own true 3 r.2.2.1,.int .i64 r.2.2.2.1,.int .i64 r.2.2.2.2.1,.int .i64 r.2.2.2.2.2.1,.int .i64 r.2.2.2.2.2.2.1,.int .i64 r.2.2.2.2.2.2.2.1,.int .i64 r.2.2.2.2.2.2.2.2.1,.int .i64 r.2.2.2.2.2.2.2.2.2.1,.int .i64 r.2.2.2.2.2.2.2.2.2.2.1,.own true 3 r.2.2.2.2.2.2.2.2.2.2.2.1,.int .i64 r.2.2.2.2.2.2.2.2.2.2.2.2.1],.bool r.2.2.2.2.2.2.2.2.2.2.2.2.2]
def aQ.o:aQ.A→List (PV U):=fun r=>[]
abbrev bn.A:=Int
def bn.v:bn.A→PV U:=fun r=> .int .i64 r
def bn.o:bn.A→List (PV U):=fun r=>[]
abbrev bc.A:=Int×Int×Int
def bc.v:bc.A→PV U:=fun r=> .im [.int .i64 r.1,.int .i64 r.2.1,.int .i64 r.2.2]
def bc.o:bc.A→List (PV U):=fun r=>[]
abbrev fb.A:=Bool
def fb.v:fb.A→PV U:=fun r=> .bool r
def fb.o:fb.A→List (PV U):=fun r=>[]
abbrev eY.A:=Bool
def eY.v:eY.A→PV U:=fun r=> .bool r
def eY.o:eY.A→List (PV U):=fun r=>[]
abbrev dI.A:=(List Int)
def dI.v:dI.A→PV U:=fun r=> .own true 3 r
def dI.o:dI.A→List (PV U):=fun r=>[]
abbrev bM.A:=Bool
def bM.v:bM.A→PV U:=fun r=> .bool r
def bM.o:bM.A→List (PV U):=fun r=>[]
abbrev eZ.A:=Bool
def eZ.v:eZ.A→PV U:=fun r=> .bool r
def eZ.o:eZ.A→List (PV U):=fun r=>[]
abbrev dY.A:=Bool
def dY.v:dY.A→PV U:=fun r=> .bool r
def dY.o:dY.A→List (PV U):=fun r=>[]
abbrev dL.A:=Int×(List Int)
def dL.v:dL.A→PV U:=fun r=> .agg [.int .i64 r.1,.own true 3 r.2]
def dL.o:dL.A→List (PV U):=fun r=>[]
abbrev cE.A:=(List bR)×(List Int)×(List Int)×Int×Int×Int×Int×Int×Int×Int×Int×(List Int)×Int
def cE.v:cE.A→PV U:=fun r=> .agg [.own true 88 r.1,.own true 3 r.2.1,.own true 3 r.2.2.1,.int .i64 r.2.2.2.1,.int .i64 r.2.2.2.2.1,.int .i64 r.2.2.2.2.2.1,.int .i64 r.2.2.2.2.2.2.1,.int .i64 r.2.2.2.2.2.2.2.1,.int .i64 r.2.2.2.2.2.2.2.2.1,.int .i64 r.2.2.2.2.2.2.2.2.2.1,.int .i64 r.2.2.2.2.2.2.2.2.2.2.1,.own true 3 r.2.2.2.2.2.2.2.2.2.2.2.1,.int .i64 r.2.2.2.2.2.2.2.2.2.2.2.2]
def cE.o:cE.A→List (PV U):=fun r=>[]
abbrev dd.A:=Int
def dd.v:dd.A→PV U:=fun r=> .int .i64 r
def dd.o:dd.A→List (PV U):=fun r=>[]
abbrev eG.A:=Int×Int×Int×Int
def eG.v:eG.A→PV U:=fun r=> .agg [.int .i64 r.1,.int .i64 r.2.1,.int .i64 r.2.2.1,.int .i64 r.2.2.2]
def eG.o:eG.A→List (PV U):=fun r=>[]
abbrev fO.A:=Int×Int
def fO.v:fO.A→PV U:=fun r=> .agg [.int .i64 r.1,.int .i64 r.2]
def fO.o:fO.A→List (PV U):=fun r=>[]
abbrev fk.A:=Int×Int
def fk.v:fk.A→PV U:=fun r=> .agg [.int .i64 r.1,.int .i64 r.2]
def fk.o:fk.A→List (PV U):=fun r=>[]
abbrev aU.A:=(List fG)
def aU.v:aU.A→PV U:=fun r=> .own true 201 r
def aU.o:aU.A→List (PV U):=fun r=>[]
abbrev bF.A:=(List Int)
def bF.v:bF.A→PV U:=fun r=> .own true 3 r
def bF.o:bF.A→List (PV U):=fun r=>[]
abbrev gj.A:=Bool
def gj.v:gj.A→PV U:=fun r=> .bool r
def gj.o:gj.A→List (PV U):=fun r=>[]
abbrev cw.A:=Bool
def cw.v:cw.A→PV U:=fun r=> .bool r
def cw.o:cw.A→List (PV U):=fun r=>[]
abbrev bP.A:=(List Int)
def bP.v:bP.A→PV U:=fun r=> .own true 3 r
def bP.o:bP.A→List (PV U):=fun r=>[]
abbrev cN.A:=(List Int)
def cN.v:cN.A→PV U:=fun r=> .own true 3 r
def cN.o:cN.A→List (PV U):=fun r=>[]
abbrev dQ.A:=Bool
def dQ.v:dQ.A→PV U:=fun r=> .bool r
def dQ.o:dQ.A→List (PV U):=fun r=>[]
abbrev ca.A:=Int
def ca.v:ca.A→PV U:=fun r=> .int .i64 r
def ca.o:ca.A→List (PV U):=fun r=>[]
abbrev cd.A:=(List Int)
def cd.v:cd.A→PV U:=fun r=> .own true 3 r
def cd.o:cd.A→List (PV U):=fun r=>[]
abbrev cJ.A:=(List Int)
def cJ.v:cJ.A→PV U:=fun r=> .own true 3 r
def cJ.o:cJ.A→List (PV U):=fun r=>[]
abbrev b6.A:=(List Bool)×(List Bool)
def b6.v:b6.A→PV U:=fun r=> .im []
def b6.o:b6.A→List (PV U):=fun r=>[.own true 4 r.1,.own true 4 r.2]
abbrev bf.A:=(List Bool)×(List Bool)
def bf.v:bf.A→PV U:=fun r=> .im []
def bf.o:bf.A→List (PV U):=fun r=>[.own true 4 r.1,.own true 4 r.2]
abbrev cz.A:=(List Int)
def cz.v:cz.A→PV U:=fun r=> .own true 3 r
def cz.o:cz.A→List (PV U):=fun r=>[]
abbrev cm.A:=Bool
def cm.v:cm.A→PV U:=fun r=> .bool r
def cm.o:cm.A→List (PV U):=fun r=>[]
abbrev cU.A:=(List Int)
def cU.v:cU.A→PV U:=fun r=> .own true 3 r
def cU.o:cU.A→List (PV U):=fun r=>[]
abbrev eE.A:=(List Int)
def eE.v:eE.A→PV U:=fun r=> .own true 3 r
def eE.o:eE.A→List (PV U):=fun r=>[]
abbrev eA.A:=Int
def eA.v:eA.A→PV U:=fun r=> .int .i64 r
def eA.o:eA.A→List (PV U):=fun r=>[]
abbrev dA.A:=(List Int)×(List Int)×(List Int)×(List Int)×(List Int)×Int×Bool×(List aL)×(List Int)×(List Int)×Int×Int
def dA.v:dA.A→PV U:=fun r=> .im []
def dA.o:dA.A→List (PV U):=fun r=>[.box [.own true 3 r.1,.own true 3 r.2.1,.own true 3 r.2.2.1,.own true 3 r.2.2.2.1,.sl 3 r.2.2.2.2.1,.int .i64 r.2.2.2.2.2.1,.bool r.2.2.2.2.2.2.1,.own true 189 r.2.2.2.2.2.2.2.1,.own true 3 r.2.2.2.2.2.2.2.2.1,.own true 3 r.2.2.2.2.2.2.2.2.2.1,.int .i64 r.2.2.2.2.2.2.2.2.2.2.1,.int .i64 r.2.2.2.2.2.2.2.2.2.2.2]]
abbrev dC.A:=Int
def dC.v:dC.A→PV U:=fun r=> .int .i64 r
def dC.o:dC.A→List (PV U):=fun r=>[]
abbrev bL.A:=Int
def bL.v:bL.A→PV U:=fun r=> .int .i64 r
def bL.o:bL.A→List (PV U):=fun r=>[]
abbrev cR.A:=Int
def cR.v:cR.A→PV U:=fun r=> .int .i64 r
def cR.o:cR.A→List (PV U):=fun r=>[]
abbrev du.A:=Int
def du.v:du.A→PV U:=fun r=> .int .i64 r
def du.o:du.A→List (PV U):=fun r=>[]
abbrev dv.A:=Int
def dv.v:dv.A→PV U:=fun r=> .int .i64 r
def dv.o:dv.A→List (PV U):=fun r=>[]
abbrev fg.A:=Int
def fg.v:fg.A→PV U:=fun r=> .int .i64 r
def fg.o:fg.A→List (PV U):=fun r=>[]
abbrev cf.A:=Int
def cf.v:cf.A→PV U:=fun r=> .int .i64 r
def cf.o:cf.A→List (PV U):=fun r=>[]
abbrev bS.A:=(List Int)×(List Int)×(List Int)×(List Int)×(List Int)×Int×Bool×(List aL)×(List Int)×(List Int)×Int×Int
def bS.v:bS.A→PV U:=fun r=> .im []
def bS.o:bS.A→List (PV U):=fun r=>[.box [.own true 3 r.1,.own true 3 r.2.1,.own true 3 r.2.2.1,.own true 3 r.2.2.2.1,.sl 3 r.2.2.2.2.1,.int .i64 r.2.2.2.2.2.1,.bool r.2.2.2.2.2.2.1,.own true 189 r.2.2.2.2.2.2.2.1,.own true 3 r.2.2.2.2.2.2.2.2.1,.own true 3 r.2.2.2.2.2.2.2.2.2.1,.int .i64 r.2.2.2.2.2.2.2.2.2.2.1,.int .i64 r.2.2.2.2.2.2.2.2.2.2.2]]
abbrev bK.A:=(List Int)×(List Int)×(List Int)×(List Int)×(List Int)×Int×Bool×(List aL)×(List Int)×(List Int)×Int×Int
def bK.v:bK.A→PV U:=fun r=> .im []
def bK.o:bK.A→List (PV U):=fun r=>[.box [.own true 3 r.1,.own true 3 r.2.1,.own true 3 r.2.2.1,.own true 3 r.2.2.2.1,.sl 3 r.2.2.2.2.1,.int .i64 r.2.2.2.2.2.1,.bool r.2.2.2.2.2.2.1,.own true 189 r.2.2.2.2.2.2.2.1,.own true 3 r.2.2.2.2.2.2.2.2.1,.own true 3 r.2.2.2.2.2.2.2.2.2.1,.int .i64 r.2.2.2.2.2.2.2.2.2.2.1,.int .i64 r.2.2.2.2.2.2.2.2.2.2.2]]
abbrev bD.A:=Int
def bD.v:bD.A→PV U:=fun r=> .int .i64 r
def bD.o:bD.A→List (PV U):=fun r=>[]
abbrev dE.A:=Int×(List Int)×(List Int)×(List Int)×(List Int)×(List Int)×Int×Bool×(List aL)×(List Int)×(List Int)×Int×Int
def dE.v:dE.A→PV U:=fun r=> .int .i64 r.1
def dE.o:dE.A→List (PV U):=fun r=>[.box [.own true 3 r.2.1,.own true 3 r.2.2.1,.own true 3 r.2.2.2.1,.own true 3 r.2.2.2.2.1,.sl 3 r.2.2.2.2.2.1,.int .i64 r.2.2.2.2.2.2.1,.bool r.2.2.2.2.2.2.2.1,.own true 189 r.2.2.2.2.2.2.2.2.1,.own true 3 r.2.2.2.2.2.2.2.2.2.1,.own true 3 r.2.2.2.2.2.2.2.2.2.2.1,.int .i64 r.2.2.2.2.2.2.2.2.2.2.2.1,.int .i64 r.2.2.2.2.2.2.2.2.2.2.2.2]]
abbrev aq.A:=(List Int)×(List Int)×(List Int)×(List Int)×(List Int)×Int×Bool×(List aL)×(List Int)×(List Int)×Int×Int
def aq.v:aq.A→PV U:=fun r=> .im []
def aq.o:aq.A→List (PV U):=fun r=>[.box [.own true 3 r.1,.own true 3 r.2.1,.own true 3 r.2.2.1,.own true 3 r.2.2.2.1,.sl 3 r.2.2.2.2.1,.int .i64 r.2.2.2.2.2.1,.bool r.2.2.2.2.2.2.1,.own true 189 r.2.2.2.2.2.2.2.1,.own true 3 r.2.2.2.2.2.2.2.2.1,.own true 3 r.2.2.2.2.2.2.2.2.2.1,.int .i64 r.2.2.2.2.2.2.2.2.2.2.1,.int .i64 r.2.2.2.2.2.2.2.2.2.2.2]]
abbrev dB.A:=Int
def dB.v:dB.A→PV U:=fun r=> .int .i64 r
def dB.o:dB.A→List (PV U):=fun r=>[]
abbrev dD.A:=(List aL)×(List Int)
def dD.v:dD.A→PV U:=fun r=> .agg [.own true 189 r.1,.own true 3 r.2]
def dD.o:dD.A→List (PV U):=fun r=>[]
abbrev b7.A:=Int
def b7.v:b7.A→PV U:=fun r=> .int .i64 r
def b7.o:b7.A→List (PV U):=fun r=>[]
abbrev cc.A:=Int
def cc.v:cc.A→PV U:=fun r=> .int .i64 r
def cc.o:cc.A→List (PV U):=fun r=>[]
abbrev bw.A:=(List Int)×Int×(List (List Int))×Int
def bw.v:bw.A→PV U:=fun r=> .agg [.own true 3 r.1,.int .i64 r.2.1,.own true 25 r.2.2.1,.int .i64 r.2.2.2]
def bw.o:bw.A→List (PV U):=fun r=>[]
abbrev dJ.A:=(List bR)×(List Int)×(List Int)×Int×Int×Int×Int×Int×Int×Int×Int×(List Int)×Int
def dJ.v:dJ.A→PV U:=fun r=> .agg [.own true 88 r.1,.own true 3 r.2.1,.own true 3 r.2.2.1,.int .i64 r.2.2.2.1,.int .i64 r.2.2.2.2.1,.int .i64 r.2.2.2.2.2.1,.int .i64 r.2.2.2.2.2.2.1,.int .i64 r.2.2.2.2.2.2.2.1,.int .i64 r.2.2.2.2.2.2.2.2.1,.int .i64 r.2.2.2.2.2.2.2.2.2.1,.int .i64 r.2.2.2.2.2.2.2.2.2.2.1,.own true 3 r.2.2.2.2.2.2.2.2.2.2.2.1,.int .i64 r.2.2.2.2.2.2.2.2.2.2.2.2]
def dJ.o:dJ.A→List (PV U):=fun r=>[]
abbrev dq.A:=(List bR)×(List Int)×(List Int)×Int×Int×Int×Int×Int×Int×Int×Int×(List Int)×Int×Bool
def dq.v:dq.A→PV U:=fun r=> .im [.agg [.own true 88 r.1,.own true 3 r.2.1,.own true 3 r.2.2.1,.int .i64 r.2.2.2.1,.int .i64 r.2.2.2.2.1,.int .i64 r.2.2.2.2.2.1,.int .i64 r.2.2.2.2.2.2.1,.int .i64 r.2.2.2.2.2.2.2.1,.int .i64 r.2.2.2.2.2.2.2.2.1,.int .i64 r.2.2.2.2.2.2.2.2.2.1,.int .i64 r.2.2.2.2.2.2.2.2.2.2.1,.own true 3 r.2.2.2.2.2.2.2.2.2.2.2.1,.int .i64 r.2.2.2.2.2.2.2.2.2.2.2.2.1],.bool r.2.2.2.2.2.2.2.2.2.2.2.2.2]
def dq.o:dq.A→List (PV U):=fun r=>[]
abbrev dh.A:=(List Bool)×(List Int)×Int×Int
def dh.v:dh.A→PV U:=fun r=> .own true 4 r.1
def dh.o:dh.A→List (PV U):=fun r=>[.box [.sl 5 r.2.1,.int .i64 r.2.2.1,.int .i64 r.2.2.2]]
abbrev cv.A:=(List iA)
def cv.v:cv.A→PV U:=fun r=> .own true 192 r
def cv.o:cv.A→List (PV U):=fun r=>[]
abbrev fc.A:=(List Int)
def fc.v:fc.A→PV U:=fun r=> .own true 3 r
def fc.o:fc.A→List (PV U):=fun r=>[]
abbrev bN.A:=(List Int)×Int
def bN.v:bN.A→PV U:=fun r=> .im [.agg [.own true 3 r.1],.int .i64 r.2]
def bN.o:bN.A→List (PV U):=fun r=>[]
abbrev dy.A:=Int×(List Int)×Bool
def dy.v:dy.A→PV U:=fun r=> .im [.agg [.int .i64 r.1,.own true 3 r.2.1],.bool r.2.2]
def dy.o:dy.A→List (PV U):=fun r=>[]
abbrev eS.A:=(List bR)×(List Int)×(List Int)×Int×Int×Int×Int×Int×Int×Int×Int×(List Int)×Int×Bool
def eS.v:eS.A→PV U:=fun r=> .im [.agg [.own true 88 r.1,.own true 3 r.2.1,.own true 3 r.2.2.1,.int .i64 r.2.2.2.1,.int .i64 r.2.2.2.2.1,.int .i64 r.2.2.2.2.2.1,.int .i64 r.2.2.2.2.2.2.1,.int .i64 r.2.2.2.2.2.2.2.1,.int .i64 r.2.2.2.2.2.2.2.2.1,.int .i64 r.2.2.2.2.2.2.2.2.2.1,.int .i64 r.2.2.2.2.2.2.2.2.2.2.1,.own true 3 r.2.2.2.2.2.2.2.2.2.2.2.1,.int .i64 r.2.2.2.2.2.2.2.2.2.2.2.2.1],.bool r.2.2.2.2.2.2.2.2.2.2.2.2.2]
def eS.o:eS.A→List (PV U):=fun r=>[]
abbrev bk.A:=(List bR)×(List Int)×(List Int)×Int×Int×Int×Int×Int×Int×Int×Int×(List Int)×Int×(List Int)×Int×Int
def bk.v:bk.A→PV U:=fun r=> .agg [.own true 88 r.1,.own true 3 r.2.1,.own true 3 r.2.2.1,.int .i64 r.2.2.2.1,.int .i64 r.2.2.2.2.1,.int .i64 r.2.2.2.2.2.1,.int .i64 r.2.2.2.2.2.2.1,.int .i64 r.2.2.2.2.2.2.2.1,.int .i64 r.2.2.2.2.2.2.2.2.1,.int .i64 r.2.2.2.2.2.2.2.2.2.1,.int .i64 r.2.2.2.2.2.2.2.2.2.2.1,.own true 3 r.2.2.2.2.2.2.2.2.2.2.2.1,.int .i64 r.2.2.2.2.2.2.2.2.2.2.2.2.1]
def bk.o:bk.A→List (PV U):=fun r=>[.box [.sl 5 r.2.2.2.2.2.2.2.2.2.2.2.2.2.1,.int .i64 r.2.2.2.2.2.2.2.2.2.2.2.2.2.2.1,.int .i64 r.2.2.2.2.2.2.2.2.2.2.2.2.2.2.2]]
abbrev dS.A:=(List bR)×(List Int)×(List Int)×Int×Int×Int×Int×Int×Int×Int×Int×(List Int)×Int
def dS.v:dS.A→PV U:=fun r=> .agg [.own true 88 r.1,.own true 3 r.2.1,.own true 3 r.2.2.1,.int .i64 r.2.2.2.1,.int .i64 r.2.2.2.2.1,.int .i64 r.2.2.2.2.2.1,.int .i64 r.2.2.2.2.2.2.1,.int .i64 r.2.2.2.2.2.2.2.1,.int .i64 r.2.2.2.2.2.2.2.2.1,.int .i64 r.2.2.2.2.2.2.2.2.2.1,.int .i64 r.2.2.2.2.2.2.2.2.2.2.1,.own true 3 r.2.2.2.2.2.2.2.2.2.2.2.1,.int .i64 r.2.2.2.2.2.2.2.2.2.2.2.2]
def dS.o:dS.A→List (PV U):=fun r=>[]
abbrev aG.A:=Bool
def aG.v:aG.A→PV U:=fun r=> .bool r
def aG.o:aG.A→List (PV U):=fun r=>[]
abbrev bU.A:=Bool
def bU.v:bU.A→PV U:=fun r=> .bool r
def bU.o:bU.A→List (PV U):=fun r=>[]
abbrev dG.A:=Bool
def dG.v:dG.A→PV U:=fun r=> .bool r
def dG.o:dG.A→List (PV U):=fun r=>[]
abbrev cK.A:=Bool
def cK.v:cK.A→PV U:=fun r=> .bool r
def cK.o:cK.A→List (PV U):=fun r=>[]
abbrev dz.A:=Bool
def dz.v:dz.A→PV U:=fun r=> .bool r
def dz.o:dz.A→List (PV U):=fun r=>[]
abbrev cH.A:=Bool
def cH.v:cH.A→PV U:=fun r=> .bool r
def cH.o:cH.A→List (PV U):=fun r=>[]
abbrev bT.A:=Bool
def bT.v:bT.A→PV U:=fun r=> .bool r
def bT.o:bT.A→List (PV U):=fun r=>[]
abbrev dm.A:=Bool
def dm.v:dm.A→PV U:=fun r=> .bool r
def dm.o:dm.A→List (PV U):=fun r=>[]
abbrev bI.A:=Bool
def bI.v:bI.A→PV U:=fun r=> .bool r
def bI.o:bI.A→List (PV U):=fun r=>[]
abbrev bQ.A:=Bool
def bQ.v:bQ.A→PV U:=fun r=> .bool r
def bQ.o:bQ.A→List (PV U):=fun r=>[]
abbrev cX.A:=Bool
def cX.v:cX.A→PV U:=fun r=> .bool r
def cX.o:cX.A→List (PV U):=fun r=>[]
abbrev cZ.A:=Bool
def cZ.v:cZ.A→PV U:=fun r=> .bool r
def cZ.o:cZ.A→List (PV U):=fun r=>[]
abbrev an.A:=Int
def an.v:an.A→PV U:=fun r=> .int .i64 r
def an.o:an.A→List (PV U):=fun r=>[]
abbrev ay.A:=Bool
def ay.v:ay.A→PV U:=fun r=> .bool r
def ay.o:ay.A→List (PV U):=fun r=>[]
abbrev cQ.A:=Bool
def cQ.v:cQ.A→PV U:=fun r=> .bool r
def cQ.o:cQ.A→List (PV U):=fun r=>[]
abbrev dK.A:=Bool
def dK.v:dK.A→PV U:=fun r=> .bool r
def dK.o:dK.A→List (PV U):=fun r=>[]
abbrev cY.A:=Bool
def cY.v:cY.A→PV U:=fun r=> .bool r
def cY.o:cY.A→List (PV U):=fun r=>[]
abbrev az.A:=Int
def az.v:az.A→PV U:=fun r=> .int .i64 r
def az.o:az.A→List (PV U):=fun r=>[]
abbrev aE.A:=Bool
def aE.v:aE.A→PV U:=fun r=> .bool r
def aE.o:aE.A→List (PV U):=fun r=>[]
abbrev cg.A:=Bool
def cg.v:cg.A→PV U:=fun r=> .bool r
def cg.o:cg.A→List (PV U):=fun r=>[]
abbrev bd.A:=Int
def bd.v:bd.A→PV U:=fun r=> .int .i64 r
def bd.o:bd.A→List (PV U):=fun r=>[]
abbrev aS.A:=Int×Int×Int
def aS.v:aS.A→PV U:=fun r=> .im [.int .i64 r.1,.int .i64 r.2.1,.int .i64 r.2.2]
def aS.o:aS.A→List (PV U):=fun r=>[]
abbrev fa.A:=Bool
def fa.v:fa.A→PV U:=fun r=> .bool r
def fa.o:fa.A→List (PV U):=fun r=>[]
abbrev ff.A:=Bool
def ff.v:ff.A→PV U:=fun r=> .bool r
def ff.o:ff.A→List (PV U):=fun r=>[]
abbrev dZ.A:=Bool
def dZ.v:dZ.A→PV U:=fun r=> .bool r
def dZ.o:dZ.A→List (PV U):=fun r=>[]
abbrev aI.A:=(List Int)
def aI.v:aI.A→PV U:=fun r=> .own true 3 r
def aI.o:aI.A→List (PV U):=fun r=>[]
abbrev di.A:=(List Int)
def di.v:di.A→PV U:=fun r=> .own true 3 r
def di.o:di.A→List (PV U):=fun r=>[]
abbrev br.A:=Bool
def br.v:br.A→PV U:=fun r=> .bool r
def br.o:br.A→List (PV U):=fun r=>[]
abbrev dc.A:=Bool
def dc.v:dc.A→PV U:=fun r=> .bool r
def dc.o:dc.A→List (PV U):=fun r=>[]
abbrev eU.A:=Bool
def eU.v:eU.A→PV U:=fun r=> .bool r
def eU.o:eU.A→List (PV U):=fun r=>[]
abbrev cy.A:=Bool
def cy.v:cy.A→PV U:=fun r=> .bool r
def cy.o:cy.A→List (PV U):=fun r=>[]
abbrev strconv_Itoa.A:=ByteArray
def strconv_Itoa.v:strconv_Itoa.A→PV U:=fun r=> .str r
def strconv_Itoa.o:strconv_Itoa.A→List (PV U):=fun r=>[]
abbrev bA.A:=ByteArray
def bA.v:bA.A→PV U:=fun r=> .str r
def bA.o:bA.A→List (PV U):=fun r=>[]
abbrev bh.A:=ByteArray
def bh.v:bh.A→PV U:=fun r=> .str r
def bh.o:bh.A→List (PV U):=fun r=>[]
abbrev eX.A:=(List Int)
def eX.v:eX.A→PV U:=fun r=> .own true 3 r
def eX.o:eX.A→List (PV U):=fun r=>[]
abbrev cB.A:=(List ByteArray)
def cB.v:cB.A→PV U:=fun r=> .own true 9 r
def cB.o:cB.A→List (PV U):=fun r=>[]
abbrev aT.A:=Bool
def aT.v:aT.A→PV U:=fun r=> .bool r
def aT.o:aT.A→List (PV U):=fun r=>[]
abbrev eO.A:=Bool
def eO.v:eO.A→PV U:=fun r=> .bool r
def eO.o:eO.A→List (PV U):=fun r=>[]
abbrev ar.A:=Bool
def ar.v:ar.A→PV U:=fun r=> .bool r
def ar.o:ar.A→List (PV U):=fun r=>[]
abbrev dR.A:=Bool
def dR.v:dR.A→PV U:=fun r=> .bool r
def dR.o:dR.A→List (PV U):=fun r=>[]
abbrev dx.A:=(List Int)
def dx.v:dx.A→PV U:=fun r=> .own true 3 r
def dx.o:dx.A→List (PV U):=fun r=>[]
abbrev db.A:=ByteArray
def db.v:db.A→PV U:=fun r=> .str r
def db.o:db.A→List (PV U):=fun r=>[]
abbrev cF.A:=Bool
def cF.v:cF.A→PV U:=fun r=> .bool r
def cF.o:cF.A→List (PV U):=fun r=>[]
def DT:List (Nat×Fh C):=[(14,⟨iJ.A,iJ.v,iJ.o⟩),(45,⟨eR.A,eR.v,eR.o⟩),(106,⟨cC.A,cC.v,cC.o⟩),(80,⟨au.A,au.v,au.o⟩),(83,⟨bx.A,bx.v,bx.o⟩),(82,⟨bW.A,bW.v,bW.o⟩),(123,⟨cl.A,cl.v,cl.o⟩),(103,⟨cD.A,cD.v,cD.o⟩),(142,⟨dj.A,dj.v,dj.o⟩),(122,⟨aV.A,aV.v,aV.o⟩),(102,⟨eu.A,eu.v,eu.o⟩),(75,⟨cn.A,cn.v,cn.o⟩),(76,⟨dU.A,dU.v,dU.o⟩),(78,⟨bE.A,bE.v,bE.o⟩),(79,⟨aD.A,aD.v,aD.o⟩),(57,⟨aC.A,aC.v,aC.o⟩),(90,⟨df.A,df.v,df.o⟩),(124,⟨ef.A,ef.v,ef.o⟩),(104,⟨fC.A,fC.v,fC.o⟩),(156,⟨dW.A,dW.v,dW.o⟩),(136,⟨dw.A,dw.v,dw.o⟩),(113,⟨cb.A,cb.v,cb.o⟩),(135,⟨fD.A,fD.v,fD.o⟩),(112,⟨bm.A,bm.v,bm.o⟩),(89,⟨cj.A,cj.v,cj.o⟩),(55,⟨dM.A,dM.v,dM.o⟩),(56,⟨bH.A,bH.v,bH.o⟩),(105,⟨bV.A,bV.v,bV.o⟩),(77,⟨aQ.A,aQ.v,aQ.o⟩),(60,⟨bn.A,bn.v,bn.o⟩),(25,⟨bc.A,bc.v,bc.o⟩),(54,⟨fb.A,fb.v,fb.o⟩),(58,⟨eY.A,eY.v,eY.o⟩),(92,⟨dI.A,dI.v,dI.o⟩),(91,⟨bM.A,bM.v,bM.o⟩),(59,⟨eZ.A,eZ.v,eZ.o⟩),(24,⟨dY.A,dY.v,dY.o⟩),(125,⟨dL.A,dL.v,dL.o⟩),(107,⟨cE.A,cE.v,cE.o⟩),(143,⟨dd.A,dd.v,dd.o⟩),(126,⟨eG.A,eG.v,eG.o⟩),(144,⟨fO.A,fO.v,fO.o⟩),(127,⟨fk.A,fk.v,fk.o⟩),(145,⟨aU.A,aU.v,aU.o⟩),(146,⟨bF.A,bF.v,bF.o⟩),(171,⟨gj.A,gj.v,gj.o⟩),(182,⟨cw.A,cw.v,cw.o⟩),(183,⟨bP.A,bP.v,bP.o⟩),(172,⟨cN.A,cN.v,cN.o⟩),(191,⟨dQ.A,dQ.v,dQ.o⟩),(180,⟨ca.A,ca.v,ca.o⟩),(173,⟨cd.A,cd.v,cd.o⟩),(192,⟨cJ.A,cJ.v,cJ.o⟩),(185,⟨b6.A,b6.v,b6.o⟩),(184,⟨bf.A,bf.v,bf.o⟩),(174,⟨cz.A,cz.v,cz.o⟩),(175,⟨cm.A,cm.v,cm.o⟩),(160,⟨cU.A,cU.v,cU.o⟩),(161,⟨eE.A,eE.v,eE.o⟩),(176,⟨eA.A,eA.v,eA.o⟩),(163,⟨dA.A,dA.v,dA.o⟩),(186,⟨dC.A,dC.v,dC.o⟩),(193,⟨bL.A,bL.v,bL.o⟩),(187,⟨cR.A,cR.v,cR.o⟩),(188,⟨du.A,du.v,du.o⟩),(189,⟨dv.A,dv.v,dv.o⟩),(181,⟨fg.A,fg.v,fg.o⟩),(178,⟨cf.A,cf.v,cf.o⟩),(164,⟨bS.A,bS.v,bS.o⟩),(177,⟨bK.A,bK.v,bK.o⟩),(190,⟨bD.A,bD.v,bD.o⟩),(179,⟨dE.A,dE.v,dE.o⟩),(162,⟨aq.A,aq.v,aq.o⟩),(165,⟨dB.A,dB.v,dB.o⟩),(147,⟨dD.A,dD.v,dD.o⟩),(148,⟨b7.A,b7.v,b7.o⟩),(149,⟨cc.A,cc.v,cc.o⟩),(128,⟨bw.A,bw.v,bw.o⟩),(108,⟨dJ.A,dJ.v,dJ.o⟩),(81,⟨dq.A,dq.v,dq.o⟩),(85,⟨dh.A,dh.v,dh.o⟩),(130,⟨cv.A,cv.v,cv.o⟩),(150,⟨fc.A,fc.v,fc.o⟩),(129,⟨bN.A,bN.v,bN.o⟩),(109,⟨dy.A,dy.v,dy.o⟩),(84,⟨eS.A,eS.v,eS.o⟩),(44,⟨bk.A,bk.v,bk.o⟩),(15,⟨dS.A,dS.v,dS.o⟩),(67,⟨aG.A,aG.v,aG.o⟩),(168,⟨bU.A,bU.v,bU.o⟩),(95,⟨dG.A,dG.v,dG.o⟩),(169,⟨cK.A,cK.v,cK.o⟩),(159,⟨dz.A,dz.v,dz.o⟩),(140,⟨cH.A,cH.v,cH.o⟩),(170,⟨bT.A,bT.v,bT.o⟩),(157,⟨dm.A,dm.v,dm.o⟩),(158,⟨bI.A,bI.v,bI.o⟩),(139,⟨bQ.A,bQ.v,bQ.o⟩),(118,⟨cX.A,cX.v,cX.o⟩),(117,⟨cZ.A,cZ.v,cZ.o⟩),(138,⟨an.A,an.v,an.o⟩),(116,⟨ay.A,ay.v,ay.o⟩),(94,⟨cQ.A,cQ.v,cQ.o⟩),(96,⟨dK.A,dK.v,dK.o⟩),(98,⟨cY.A,cY.v,cY.o⟩),(119,⟨az.A,az.v,az.o⟩),(97,⟨aE.A,aE.v,aE.o⟩),(66,⟨cg.A,cg.v,cg.o⟩),(70,⟨bd.A,bd.v,bd.o⟩),(33,⟨aS.A,aS.v,aS.o⟩),(64,⟨fa.A,fa.v,fa.o⟩),(65,⟨ff.A,ff.v,ff.o⟩),(68,⟨dZ.A,dZ.v,dZ.o⟩),(51,⟨aI.A,aI.v,aI.o⟩),(47,⟨di.A,di.v,di.o⟩),(50,⟨br.A,br.v,br.o⟩),(99,⟨dc.A,dc.v,dc.o⟩),(69,⟨eU.A,eU.v,eU.o⟩),(32,⟨cy.A,cy.v,cy.o⟩),(46,⟨strconv_Itoa.A,strconv_Itoa.v,strconv_Itoa.o⟩),(16,⟨bA.A,bA.v,bA.o⟩),(34,⟨bh.A,bh.v,bh.o⟩),(17,⟨eX.A,eX.v,eX.o⟩),(8,⟨cB.A,cB.v,cB.o⟩),(87,⟨aT.A,aT.v,aT.o⟩),(49,⟨eO.A,eO.v,eO.o⟩),(48,⟨ar.A,ar.v,ar.o⟩),(18,⟨dR.A,dR.v,dR.o⟩),(20,⟨dx.A,dx.v,dx.o⟩),(19,⟨db.A,db.v,db.o⟩),(4,⟨cF.A,cF.v,cF.o⟩)]
def EE:List (Nat×Nat):=[(14,6),(45,32),(106,58),(80,37),(83,9),(82,12),(123,11),(103,11),(142,23),(122,59),(102,7),(75,24),(76,23),(78,20),(79,20),(57,15),(90,5),(124,19),(104,14),(156,37),(136,5),(113,16),(135,43),(112,41),(89,33),(55,25),(56,16),(105,34),(77,43),(60,27),(25,30),(54,72),(58,18),(92,27),(91,27),(59,20),(24,40),(125,12),(107,22),(143,21),(126,17),(144,18),(127,18),(145,60),(146,45),(171,11),(182,11),(183,21),(172,30),(191,11),(180,32),(173,39),(192,31),(185,30),(184,83),(174,30),(175,18),(160,50),(161,11),(176,14),(163,15),(186,13),(193,5),(187,11),(188,11),(189,11),(181,4),(178,52),(164,18),(177,82),(190,29),(179,53),(162,133),(165,28),(147,71),(148,57),(149,31),(128,114),(108,53),(81,26),(85,20),(130,34),(150,21),(129,40),(109,37),(84,27),(44,48),(15,6),(67,15),(168,9),(95,5),(169,13),(159,5),(140,16),(170,5),(157,65),(158,9),(139,39),(118,11),(117,6),(138,19),(116,9),(94,13),(96,5),(98,6),(119,19),(97,9),(66,6),(70,27),(33,28),(64,72),(65,25),(68,18),(51,8),(47,24),(50,26),(99,18),(69,20),(32,40),(46,1),(16,5),(34,22),(17,9),(8,59),(87,26),(49,17),(48,32),(18,74),(20,9),(19,13),(4,47)]
def Dt:List (Nat×aa.Mode):=[(185,.edit),(184,.edit),(150,.take)]
def PL:ck C:=⟨fun f=>lookup f DT,fun f=>(lookup f EE).getD 0,fun f=>(lookup f Dt).getD aa.Mode.read,[],[],[]⟩
def aB {A:Type}:Empty→Tr Empty A:=fun _=> .fail
theorem fI {R:Type} (v:R→PV U) (o:R→List (PV U)) {Q:ck C} {f:FuncId} {fn:Func} {c:Code} (hf:Pg.funcs[f]? =some fn) (hb:fn.body=some c) (hok:CP Q fn c=true) {S0:List (PV U)} {no:Nat} (hl:S0.length=fn.ntmps+no) {X:Type} {id:X→Nat} {st:X→List (PV U)} (hno:∀r,(o r).length=no) {tr:X→Tr X R} (he:fr Pg C Q fn no id st v o tr) {bg:Tr X R} (hbg:zJ Pg C Q fn no id st v o S0 bg) {r:R} (h:bg.run (lp tr)=some r):ah Pg C f S0 no (v r) (o r):=jj G mixed Q hf hb hok hl id st v o hno tr he bg hbg h
theorem aY {R:Type} (v:R→PV U) (o:R→List (PV U)) {Q:ck C} {f:FuncId} {fn:Func} {c:Code} (hf:Pg.funcs[f]? =some fn) (hb:fn.body=some c) (hok:CP Q fn c=true) {S0:List (PV U)} {no:Nat} (hl:S0.length=fn.ntmps+no) (hno:∀r,(o r).length=no) {bg:Tr Empty R} (hbg:zJ Pg C Q fn no (fun _=>0) (fun _=>[]) v o S0 bg) {r:R} (h:bg.run (lp aB)=some r):ah Pg C f S0 no (v r) (o r):=fI v o hf hb hok hl hno (fun _ _ x=>x.elim) hbg h
end
end Go.Proofs.YtpndhhellhfegaaGreatDoor.Ev
