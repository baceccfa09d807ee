/- A pure evaluator of the model's code: what a function does to values that are told without memory. Definitions alone; no conditions. -/
import Derived.Below
import Derived.Calls
import Derived.Deep.AppendLies
import Derived.Deep.MidRow
import Derived.Laws.AppendOwn
import Derived.Laws.BytesArg
import Derived.Laws.Cells
import Derived.Laws.CopyRow
import Derived.Laws.MakeOwn
import Derived.Laws.Sem
import Derived.Laws.StructEq
import Derived.Laws.Tables
import Derived.Maps.AppendAt
import Derived.Walk
namespace Go.Proofs.YtmapddgocpkgeaaGreat.aa
structure gm where
 T:TypeId→Type
 d:∀e,T e
abbrev ao:=Nat×List Nat
inductive PV (U:gm) where
 | undef
 | void
 | int (k:IntKind) (n:Int)
 | bool (b:Bool)
 | str (s:ByteArray)
 | fn (f:FuncId) (caps:List (PV U))
 | gG (vs:List (PV U))
 | agg (ls:List (PV U))
 | sl (e:TypeId) (xs:List (U.T e))
 | own (dp:Bool) (e:TypeId) (xs:List (U.T e))
 | box (cs:List (PV U))
 | iV (r:ao)
 | ptr (t:Nat) (off:Nat)
 | nR (r:ao) (e:TypeId) (i:Int) (off:Nat)
 | vw (r:ao) (e:TypeId) (lo hi:Int)
 | kB (r:ao) (e:TypeId) (i:Int) (off:Nat)
 | rd (x:PV U) (off:Nat)
inductive Ty (U:gm) where
 | int (k:IntKind)
 | bool
 | str
 | slice (e:TypeId)
 | struct (fs:List (Nat×TypeId)) (zs:List (PV U))
 | arr (n:Nat) (e:TypeId) (zs:List (PV U))
 | ptr
structure Ctx where
 U:gm
 enc:∀e,U.T e→PV U
 dec:∀e,PV U→Option (U.T e)
 ty:TypeId→Option (Ty U)
 bytes:TypeId→Nat
 eqs:TypeId→Option Nat
 yA:List Nat
 xk:World→Prop
variable (C:Ctx)
abbrev Ctx.PV:=aa.PV C.U
abbrev St:=List C.PV
section plain
variable {U:gm}
def leaves:PV U→List (PV U)
 | .agg ls=>ls
 | v=>[v]
def Ty.size:Ty U→Nat
 | .struct _ zs=>zs.length
 | .arr _ _ zs=>zs.length
 | _=>1
def Ty.isAgg:Ty U→Bool
 | .struct .. =>true
 | .arr .. =>true
 | _=>false
def Ty.sZ:Ty U→List (PV U)
 | .int k=>[.int k 0]
 | .bool=>[.bool false]
 | .str=>[.str .empty]
 | .slice e=>[.own true e []]
 | .struct _ zs=>zs
 | .arr _ _ zs=>zs
 | .ptr=>[.undef]
def ofConst:Value→PV U
 | .int k n=> .int k n
 | .bool b=> .bool b
 | .string s=> .str s
 | _=> .undef
def get (S:List (PV U)) (t:Nat):PV U:=S.getD t .undef
def bc:List Nat→PV U→PV U
 | [],v=>v
 | i::p,.agg ls=>bc p (get ls i)
 | i::p,.box ls=>bc p (get ls i)
 | i::p,.gG ls=>bc p (get ls i)
 | _,_=> .undef
def look (S:List (PV U)) (r:ao):PV U:=bc r.2 (get S r.1)
def gN (v:PV U):List Nat→PV U→PV U
 | [],_=>v
 | i::p,.agg ls=> .agg (ls.set i (gN v p (get ls i)))
 | i::p,.box ls=> .box (ls.set i (gN v p (get ls i)))
 | i::p,.gG ls=> .gG (ls.set i (gN v p (get ls i)))
 | _,u=>u
def put (S:List (PV U)) (r:ao) (v:PV U):List (PV U):=S.set r.1 (gN v r.2 (get S r.1))
def iJ (f:PV U→PV U):PV U→PV U
 | .agg ls=> .agg (ls.map f)
 | v=>f v
def hZ (f:PV U→PV U):PV U→PV U
 | .agg ls=> .agg (ls.map f)
 | .box ls=> .box (ls.map f)
 | .gG vs=> .gG (vs.map (iJ f))
 | v=>f v
def dK (f:PV U→PV U) (S:List (PV U)):List (PV U):=S.map (hZ f)
def forget (p:ao→Bool) (q:Nat→Bool):PV U→PV U
 | .iV r=>if p r then .undef else .iV r
 | .nR r e i o=>if p r then .undef else .nR r e i o
 | .vw r e i o=>if p r then .undef else .vw r e i o
 | .kB r e i o=>if p r then .undef else .kB r e i o
 | .ptr t o=>if q t then .undef else .ptr t o
 | .fn f caps=>if caps.any (fun | .ptr t _=>q t | _=>false)then .undef else .fn f caps
 | v=>v
def rename (q r:ao):PV U→PV U
 | .iV p=>if p=q then .iV r else .iV p
 | .nR p e i o=>if p=q then .nR r e i o else .nR p e i o
 | .vw p e i o=>if p=q then .vw r e i o else .vw p e i o
 | .kB p e i o=>if p=q then .kB r e i o else .kB p e i o
 | v=>v
def clear (S:List (PV U)) (d:Nat):List (PV U):=(dK (forget (fun r=>r.1==d) (fun t=>t==d)) S).set d .undef
def drop (S:List (PV U)) (r:ao):List (PV U):=put (dK (forget (fun q=>q==r) (fun _=>false)) S) r .undef
def k9 (r:ao):PV U→PV U
 | .own .. => .iV r
 | v=>v
def gH (t:Nat) (p:List Nat):Nat→List (PV U)→List (PV U)
 | _,[]=>[]
 | i,v::vs=>k9 (t,p++[i]) v::gH t p (i+1) vs
def uo (t i:Nat):PV U→PV U
 | .agg ls=> .agg (gH t [i] 0 ls)
 | v=>k9 (t,[i]) v
def jP (t:Nat):Nat→List (PV U)→List (PV U)
 | _,[]=>[]
 | i,v::vs=>uo t i v::jP t (i+1) vs
def jl (t:Nat):PV U→PV U
 | .agg ls=> .agg (gH t [] 0 ls)
 | .gG vs=> .gG (jP t 0 vs)
 | .box _=> .ptr t 0
 | v=>k9 (t,[]) v
def zk (S:List (PV U)) (q r:ao):Option (List (PV U)):=
 match look S q with
 | .own dp e xs=>some (put (put (dK (rename q r) S) q (.iV r)) r (.own dp e xs))
 | .sl e xs=>some (put S r (.sl e xs))
 | _=>none
def bG:Operand→Option Nat
 | .tmp t=>some t
 | _=>none
def xW (S:List (PV U)) (q:ao):List (PV U):=
 match look S q with
 | .own _ e xs=>put S q (.sl e xs)
 | _=>S
end plain
variable (C:Ctx)
def elemAt (e:TypeId) (xs:List (C.U.T e)) (i:Int):C.PV:=C.enc e (xs.getD i.toNat (C.U.d e))
def fX (S:St C):C.PV→Option C.PV
 | .own _ e xs=>some (.sl e xs)
 | .iV q=>match look S q with
   | .own _ e xs=>some (.sl e xs)
   | .sl e xs=>some (.sl e xs)
   | _=>none
 | .kB q e i off=>match look S q with
   | .own true e' xs=>if e'=e then(match get (leaves (elemAt C e' xs i)) off with
     | .sl f ys=>some (.sl f ys)
     | _=>none)else none
   | _=>none
 | .int k n=>some (.int k n)
 | .bool b=>some (.bool b)
 | .str s=>some (.str s)
 | .sl e xs=>some (.sl e xs)
 | _=>none
def readAll (S:St C):List C.PV→Option (List C.PV)
 | []=>some []
 | v::vs=>match fX C S v with
   | some v'=>match readAll S vs with
     | some vs'=>some (v'::vs')
     | none=>none
   | none=>none
def read (S:St C):C.PV→Option C.PV
 | .agg ls=>match readAll C S ls with
   | some ls'=>some (.agg ls')
   | none=>none
 | v=>fX C S v
def bC (src:Option ao):C.PV→List ao
 | .own .. =>match src with
   | some q=>[q]
   | none=>[]
 | .iV q=>[q]
 | .kB q _ _ _=>[q]
 | _=>[]
def gY (src:Option Nat):Nat→List C.PV→List ao
 | _,[]=>[]
 | i,v::vs=>bC C (src.map fun q=>(q,[i])) v++gY src (i+1) vs
def aZ (src:Option Nat):C.PV→List ao
 | .agg ls=>gY C src 0 ls
 | v=>bC C (src.map fun q=>(q,[])) v
def ij (S:St C):List ao→St C
 | []=>S
 | q::qs=>ij (xW S q) qs
def gr (S:St C):List ao→St C
 | []=>S
 | q::qs=>gr (drop S q) qs
def lx (S:St C) (r:ao):Option (St C):=
 match look S r with
 | .iV q=>if q=r then none else zk S q r
 | .kB q e i off=>match fX C S (.kB q e i off)with
   | some v=>some (put (xW S q) r v)
   | none=>none
 | _=>some S
def jk (d:Nat) (p:List Nat) (i:Nat):Nat→St C→Option (St C)
 | 0,S=>some S
 | n+1,S=>match lx C S (d,p++[i])with
   | some S'=>jk d p (i+1) n S'
   | none=>none
def lq (d:Nat):Nat→List C.PV→St C→Option (St C)
 | _,[],S=>some S
 | i,v::vs,S=>match(match v with
  | .agg ls=>jk C d [i] 0 ls.length S
  | _=>lx C S (d,[i]))with
   | some S'=>lq d (i+1) vs S'
   | none=>none
def gF (S:St C) (d:Nat):Option (St C):=
 match get S d with
 | .agg ls=>jk C d [] 0 ls.length S
 | .box ls=>jk C d [] 0 ls.length S
 | .gG vs=>lq C d 0 vs S
 | _=>lx C S (d,[])
structure Row where
 root:Option (Bool×Option ao)
 e:TypeId
 xs:List (C.U.T e)
def rowOf (S:St C) (src:Option Nat):C.PV→Option (Row C)
 | .sl e xs=>some ⟨none,e,xs⟩
 | .own dp e xs=>some ⟨some (dp,src.map fun t=>(t,[])),e,xs⟩
 | .iV q=>match look S q with
   | .own dp e xs=>some ⟨some (dp,some q),e,xs⟩
   | .sl e xs=>some ⟨none,e,xs⟩
   | _=>none
 | _=>none
def jt (t:TypeId):Value→C.PV
 | .slice none 0 0=>match C.ty t with
   | some (.slice e)=> .own true e []
   | _=> .undef
 | v=>ofConst v
def ev (S:St C) (t:TypeId):Operand→C.PV
 | .tmp t=>get S t
 | .const v=>jt C t v
 | .func f=> .fn f []
 | .global _=> .undef
def part (T:Ty C.U) (ls:List C.PV) (p:Nat):C.PV:=if T.isAgg then .agg ((ls.drop p).take T.size)else get ls p
def fits (T:Ty C.U) (ls:List C.PV) (p:Nat):Bool:=decide (p+T.size≤ls.length)
def iK (t e:TypeId):Bool:=match C.ty t with | some (.slice e')=>decide (e'=e) | _=>false
def zx (t:TypeId):Bool:=match C.ty t with | some .str=>true | _=>false
def AD (t:TypeId):Bool:=match C.ty t with | some (.int _)=>true | _=>false
def kQ (S:St C):C.PV→Bool
 | .undef=>false
 | .void=>false
 | .agg _=>false
 | .box _=>false
 | .gG _=>false
 | .iV q=>(fX C S (.iV q)).isSome
 | .kB q e i off=>(fX C S (.kB q e i off)).isSome
 | .vw .. =>false
 | _=>true
def known (S:St C) (v:C.PV):Bool:=(leaves v).all (kQ C S)
def room:Int:=140737488355328
def jH (k:IntKind) (a b:Int):Int:=k.wrap ((BitVec.ofInt k.bits a&&& BitVec.ofInt k.bits b).toNat:Int)
def DL (k:IntKind) (a b:Int):Int:=k.wrap ((BitVec.ofInt k.bits a ||| BitVec.ofInt k.bits b).toNat:Int)
def z7 (k:IntKind) (a b:Int):Int:=k.wrap ((BitVec.ofInt k.bits a ^^^ BitVec.ofInt k.bits b).toNat:Int)
def shiftUp (k:IntKind) (a b:Int):Int:=k.wrap (a*2 ^ (min b.toNat k.bits))
def shiftDown (k:IntKind) (a b:Int):Int:=a.fdiv (2 ^ (min b.toNat k.bits))
def AR (op:BinOp) (k:IntKind) (a b:Int):Option (Option Prop×C.PV):=
 match op with
 | .shl=>some (some (0≤b),.int k (shiftUp k a b))
 | .shr=>some (some (0≤b),.int k (shiftDown k a b))
 | _=>none
def CY (op:BinOp) (k:IntKind) (a b:Int):Option (Option Prop×C.PV):=
 match op with
 | .and=>some (none,.int k (jH k a b))
 | .or=>some (none,.int k (DL k a b))
 | .xor=>some (none,.int k (z7 k a b))
 | .add=>some (none,.int k (k.wrap (a+b)))
 | .sub=>some (none,.int k (k.wrap (a-b)))
 | .mul=>some (none,.int k (k.wrap (a*b)))
 | .quo=>some (some (b≠0),.int k (k.wrap (a.tdiv b)))
 | .rem=>some (some (b≠0),.int k (a.tmod b))
 | .eql=>some (none,.bool (decide (a=b)))
 | .neq=>some (none,.bool (!decide (a=b)))
 | .lss=>some (none,.bool (decide (a<b)))
 | .leq=>some (none,.bool (decide (a≤b)))
 | .gtr=>some (none,.bool (decide (a>b)))
 | .geq=>some (none,.bool (decide (a≥b)))
 | _=>none
def zM (t:TypeId):Bool:=match C.ty t with | some .bool=>true | _=>false
def jd {U:gm}:List (PV U)→List (PV U)→Option Bool
 | [],[]=>some true
 | .int k a::ls,.int k' b::ms=>if k=k' then(match jd ls ms with
   | some r=>some (decide (a=b)&&r)
   | none=>none)else none
 | _,_=>none
def Ag (op:BinOp) (t:TypeId) (x y:C.PV):Option (Option Prop×C.PV):=
 match x,y with
 | .int k a,.int k' b=>match AR C op k a b with
   | some r=>some r
   | none=>if k=k' then CY C op k a b else none
 | .bool a,.bool b=>if zM C t=true then(match op with
   | .eql=>some (none,.bool (a==b))
   | .neq=>some (none,.bool (a !=b))
   | _=>none)else none
 | .str a,.str b=>match op with
   | .add=>some (some ((a.size:Int)+b.size≤room),.str (a++b))
   | .eql=>some (none,.bool (a==b))
   | .neq=>some (none,.bool (a !=b))
   | _=>none
 | .agg ls,.agg ms=>if C.eqs t=some ls.length then(match jd ls ms with
   | some r=>(match op with
     | .eql=>some (none,.bool r)
     | .neq=>some (none,.bool (!r))
     | _=>none)
   | none=>none)else none
 | _,_=>none
abbrev rj:=Option (Option Prop×St C)
def to (S:St C) (d:Nat) (v:C.PV):rj C:=some (none,S.set d v)
def yL (S:St C) (d:Nat) (p:Prop) (v:C.PV):rj C:=some (some p,S.set d v)
def bA (S:St C) (t:TypeId):Operand→C.PV
 | .tmp q=>jl q (get S q)
 | x=>ev C S t x
def mb (S:St C) (d:Nat) (t:TypeId) (x:Operand):rj C:=to C S d (bA C S t x)
def nr (S:St C) (d:Nat):rj C:=
 match gF C S d with
 | some S'=>some (none,S')
 | none=>none
def za (S:St C) (d:Nat) (t:TypeId) (x:Operand):rj C:=nr C (S.set d (bA C S t x)) d
def Ch (S:St C) (d:Nat) (t:TypeId) (x:Operand):rj C:=
 match read C S (ev C S t x)with
 | some (.str s)=>if zx C t then to C S d (.int .i64 s.size)else none
 | some (.sl e xs)=>if iK C t e then to C S d (.int .i64 xs.length)else none
 | _=>none
def oo (S:St C) (d:Nat) (t:TypeId) (x i:Operand):rj C:=
 match rowOf C S (bG x) (ev C S t x),ev C S t i with
 | some ⟨none,e,xs⟩,.int _ n=>if iK C t e then yL C S d (0≤n∧n<(xs.length:Int)) (.rd (elemAt C e xs n) 0)else none
 | some ⟨some (_,some r),e,xs⟩,.int _ n=>if iK C t e then yL C S d (0≤n∧n<(xs.length:Int)) (.nR r e n 0)else none
 | _,_=>none
def Ez (S:St C) (t:TypeId) (x:Operand):Option (Nat×Nat):=
 match bA C S t x with
 | .ptr q p=>some (q,p)
 | _=>none
def lZ (S:St C) (d:Nat) (t:TypeId) (x:Operand) (f:Nat):rj C:=
 match C.ty t with
 | some (.struct fs _)=>match fs[f]? with
   | some (off,ft)=>match C.ty ft with
     | some T=>if T.size=0 then none else match bA C S t x with
       | .ptr q p=>to C S d (.ptr q (p+off))
       | .rd v p=>to C S d (.rd v (p+off))
       | .nR r e i p=>to C S d (.nR r e i (p+off))
       | _=>none
     | none=>none
   | none=>none
 | _=>none
def B4 (r:ao) (e:TypeId) (i:Int) (off:Nat):C.PV→C.PV
 | .sl _ _=> .kB r e i off
 | v=>v
def kH (r:ao) (e:TypeId) (i:Int):Nat→List C.PV→List C.PV
 | _,[]=>[]
 | k,v::vs=>B4 C r e i k v::kH r e i (k+1) vs
def vj (S:St C) (d:Nat) (t:TypeId) (x:Operand):rj C:=
 match C.ty t with
 | some T=>match bA C S t x with
   | .rd v p=>if fits C T (leaves v) p then to C S d (part C T (leaves v) p)else none
   | .ptr q p=>match get S q with
     | .box cs=>if fits C T cs p then to C S d (part C T (gH q [] 0 cs) p)else none
     | _=>none
   | .nR r e i p=>match look S r with
     | .own dp e' xs=>if e'=e∧fits C T (leaves (elemAt C e' xs i)) p=true
       then to C S d (part C T (if dp then kH C r e i 0 (leaves (elemAt C e' xs i))else leaves (elemAt C e' xs i)) p)else none
     | _=>none
   | _=>none
 | none=>none
def xZ (S:St C) (d:Nat) (t:TypeId) (x:Operand) (f:Nat):rj C:=
 match C.ty t with
 | some (.struct fs _)=>match fs[f]? with
   | some (off,ft)=>match C.ty ft,bA C S t x with
     | some T,.agg ls=>if fits C T ls off then to C S d (part C T ls off)else none
     | _,_=>none
   | none=>none
 | _=>none
def rR (S:St C) (d:Nat) (i:Nat) (x:Operand):rj C:=
 match bA C S 0 x with
 | .gG vs=>match vs[i]? with
   | some v=>nr C (S.set d v) d
   | none=>none
 | _=>none
def BR (S:St C) (d:Nat) (t:TypeId) (x:Operand):rj C:=if known C S (bA C S t x)then nr C (S.set d (.box (leaves (bA C S t x)))) d else none
def kK (ls:List C.PV) (off:Nat) (vs:List C.PV):List C.PV:=ls.take off++vs++ls.drop (off+vs.length)
def nf (fs:List (Nat×TypeId)) (S:St C):List (Nat×Operand)→List C.PV→Option (List C.PV)
 | [],ls=>some ls
 | (f,x)::ps,ls=>match fs[f]? with
   | some (off,ft)=>match C.ty ft with
     | some T=>if known C S (bA C S ft x)&&fits C T ls off&&decide ((leaves (bA C S ft x)).length=T.size)then nf fs S ps (kK C ls off (leaves (bA C S ft x)))else none
     | none=>none
   | none=>none
def yk (S:St C) (d:Nat) (t:TypeId) (ps:List (Nat×Operand)):rj C:=
 match C.ty t with
 | some (.struct fs zs)=>match nf C fs S ps zs with
   | some ls=>nr C (S.set d (.agg ls)) d
   | none=>none
 | _=>none
def gp (e:TypeId):Bool:=(leaves (C.enc e (C.U.d e))).any (fun | .sl .. =>true | _=>false)
def mm (S:St C):C.PV→Bool
 | .own _ e _=> !gp C e
 | .iV q=>match look S q with
   | .own _ e _=> !gp C e
   | _=>false
 | .int .. =>true
 | .bool _=>true
 | .str _=>true
 | _=>false
def owned (S:St C) (v:C.PV):Bool:=(leaves v).all (mm C S)
def Eb (dp:Bool) (S:St C) (rs:List ao):St C:=if dp then gr C S rs else ij C S rs
def mJ (e:TypeId) (S:St C):List (Nat×Operand)→List (C.U.T e)→Option (List (C.U.T e))
 | [],xs=>some xs
 | (i,x)::ps,xs=>match read C S (ev C S e x)with
   | some v=>match C.dec e v with
     | some y=>if i<xs.length then mJ e S ps (xs.set i y)else none
     | none=>none
   | none=>none
def r8 (e:TypeId) (S:St C) (ps:List (Nat×Operand)):List ao:=ps.flatMap fun p=>aZ C (bG p.2) (ev C S e p.2)
def Ad (e:TypeId) (S:St C) (n:Nat):List (Nat×Operand)→Option Operand
 | [(0,x)]=>if n=1∧owned C S (ev C S e x)=true∧(aZ C (bG x) (ev C S e x)).Nodup then some x else none
 | _=>none
def nh (S:St C) (d:Nat) (t:TypeId) (n:Nat) (ps:List (Nat×Operand)):rj C:=
 match C.ty t with
 | some (.slice e)=>if n=0 then(if ps.length=0 then to C S d (.own true e [])else none)else
   if n*(leaves (C.enc e (C.U.d e))).length≤16777216 then(match mJ C e S ps (List.replicate n (C.U.d e))with
    | some xs=>if gp C e=true
      then(match Ad C e S n ps with
       | some x=>to C (gr C S (aZ C (bG x) (ev C S e x))) d (.own true e xs)
       | none=>to C (ij C S (r8 C e S ps)) d (.own false e xs))
      else to C S d (.own true e xs)
    | none=>none)else none
 | _=>none
def oa (S:St C) (d:Nat) (t:TypeId) (l c:Operand):rj C:=
 match C.ty t,ev C S t l,ev C S t c with
 | some (.slice e),.int _ n,.int _ m=>yL C S d (0≤n∧n≤m∧m*C.bytes e≤room) (.own true e (List.replicate n.toNat (C.U.d e)))
 | _,_,_=>none
def bound (S:St C):Option Operand→Option (Option Int)
 | none=>some none
 | some x=>match ev C S 0 x with
   | .int _ n=>some (some n)
   | _=>none
def xC {α:Type} (l h:Option Int) (xs:List α):List α:=
 match h with
 | some n=>(match l with
   | some m=>(xs.take n.toNat).drop m.toNat
   | none=>xs.take n.toNat)
 | none=>(match l with
   | some m=>xs.drop m.toNat
   | none=>xs)
def Ck (S:St C) (d:Nat) (t:TypeId) (x:Operand) (lo hi:Option Operand):rj C:=
 match bound C S lo,bound C S hi,read C S (ev C S t x)with
 | some l,some h,some (.str s)=>if zx C t=false then none else
   yL C S d (0≤l.getD 0∧l.getD 0≤h.getD s.size∧h.getD s.size≤(s.size:Int)) (.str (s.extract (l.getD 0).toNat (h.getD s.size).toNat))
 | some l,some h,some (.sl e xs)=>if iK C t e=false then none else
   some (some (0≤l.getD 0∧l.getD 0≤h.getD xs.length∧h.getD xs.length≤(xs.length:Int)),(ij C S (aZ C (bG x) (ev C S t x))).set d (.sl e (xC l h xs)))
 | _,_,_=>none
def Dw (e:TypeId):Bool:=match C.ty e with | some .bool=>true | _=>false
def zK (S:St C) (d:Nat) (t:TypeId) (x:Operand) (lo hi:Option Operand):rj C:=
 match rowOf C S (bG x) (ev C S t x),bound C S lo,bound C S hi with
 | some ⟨some (_,some r),e,xs⟩,some l,some h=>if Dw C e=true∧iK C t e=true
   then yL C S d (0≤l.getD 0∧l.getD 0<h.getD xs.length∧h.getD xs.length≤(xs.length:Int)) (.vw r e (l.getD 0) (h.getD xs.length))else none
 | _,_,_=>none
def xH (S:St C) (d:Nat) (t:TypeId) (x:Operand) (lo hi:Option Operand):rj C:=
 match zK C S d t x lo hi with
 | some r=>some r
 | none=>Ck C S d t x lo hi
def ra {U:gm}:List (PV U)→Option (List Bool)
 | []=>some []
 | .bool b::vs=>match ra vs with
   | some bs=>some (b::bs)
   | none=>none
 | _=>none
def xt (S:St C) (d:Nat) (t:TypeId) (x i:Operand):rj C:=
 match ev C S t x,ev C S t i with
 | .agg ls,.int _ n=>match C.ty t,ra ls with
   | some (.arr m _ _),some bs=>if bs.length=m then yL C S d (0≤n∧n<(m:Int)) (.bool (bs.getD n.toNat false))else none
   | _,_=>none
 | .str s,.int _ n=>if zx C t then yL C S d (0≤n∧n<(s.size:Int)) (.int .u8 (s.data.toList.getD n.toNat 0).toNat)else none
 | _,_=>none
def byteOf {U:gm}:PV U→UInt8
 | .int _ n=>UInt8.ofNat n.toNat
 | _=>0
def isByte {U:gm} (v:PV U):Prop:=∃n,v= .int .u8 n
noncomputable instance {U:gm} (v:PV U):Decidable (isByte v):=Classical.propDecidable _
def xV (e:TypeId) (xs:List (C.U.T e)):ByteArray:=⟨(xs.map fun x=>byteOf (C.enc e x)).toArray⟩
def Aa (S:St C) (d:Nat) (e:TypeId) (v:C.PV):rj C:=
 match read C S v,C.ty e with
 | some (.sl e' xs),some (.int .u8)=>if e'=e then yL C S d (∀x,x∈xs→isByte (C.enc e' x)) (.str (xV C e' xs))else none
 | _,_=>none
def rL (S:St C) (d:Nat) (src t:TypeId) (x:Operand):rj C:=
 match C.ty src,C.ty t,ev C S t x with
 | some _,some (.int k),.int _ n=>to C S d (.int k (k.wrap n))
 | some _,some .str,.str s=>to C S d (.str s)
 | some (.slice e),some .str,v=>Aa C S d e v
 | _,_,_=>none
def rF (e e':TypeId) (xs:List (C.U.T e')):Option (List (C.U.T e)):=if h:e'=e then some (h▸xs)else none
def iD {U:gm} (S:List (PV U)):Option ao→List (PV U)
 | some q=>drop S q
 | none=>S
def AN (r:Option ao) (rs:List ao):Bool:=match r with | some q=>rs.contains q | none=>false
def BU:C.PV→Bool
 | .own true _ _=>true
 | _=>false
def sd (S:St C) (d:Nat) (dp:Bool) (r:Option ao) (e:TypeId) (xs:List (C.U.T e)) (t t':TypeId) (src:Option Nat) (v:C.PV):rj C:=
 match read C S v with
 | some (.sl e' zs)=>if t'≠t then none else match rF C e e' zs with
   | some ys=>if gp C e=true
     then(if AN r (aZ C src v)=true then none
      else if(dp&&BU C v)=true then some (some (((xs.length:Int)+ys.length)*C.bytes e≤room),(gr C (iD S r) (aZ C src v)).set d (.own true e (xs++ys)))
      else some (some (((xs.length:Int)+ys.length)*C.bytes e≤room),(ij C (iD S r) (aZ C src v)).set d (.own false e (xs++ys))))
     else some (some (((xs.length:Int)+ys.length)*C.bytes e≤room),(iD S r).set d (.own true e (xs++ys)))
   | none=>none
 | _=>none
def yD (S:St C) (d:Nat) (s x:Operand) (t t':TypeId):rj C:=
 match rowOf C S (bG s) (ev C S t s)with
 | some ⟨some (dp,r),e,xs⟩=>if iK C t e=false then none else
   match ev C S t x with
   | .int _ n=>if AD C t'=false then none else some (some (0≤n∧((xs.length:Int)+n)*C.bytes e≤room),(iD S r).set d (.own dp e (xs++List.replicate n.toNat (C.U.d e))))
   | v=>sd C S d dp r e xs t t' (bG x) v
 | _=>none
def Dk (S:St C) (t:TypeId):List Operand→Option (List Int)
 | []=>some []
 | x::xs=>match ev C S t x,Dk S t xs with
   | .int _ n,some l=>some (n::l)
   | _,_=>none
def jK {U:gm} (r:ao) (e:TypeId) (lo hi:Nat):PV U→PV U
 | .kB q e' i o=>if q=r∧(e'≠e∨(lo≤o∧o<hi))then .undef else .kB q e' i o
 | v=>v
def pn (S:St C) (r:ao) (dp:Bool) (e:TypeId) (xs:List (C.U.T e)):St C:=put (dK (jK r e 0 1) (put S r .undef)) r (.own dp e xs)
def Aq (S:St C) (d:Nat) (s x:Operand) (t t':TypeId):rj C:=
 match rowOf C S (bG s) (ev C S t s),read C S (ev C S t' x)with
 | some ⟨some (dp,some r),e,xs⟩,some (.sl e' zs)=>
   if t'=t∧iK C t e=true∧gp C e=false∧(leaves (C.enc e (C.U.d e))).length=1∧(aZ C (bG x) (ev C S t' x)).contains r=false then(match rF C e e' zs with
    | some ys=>some (some ((0:Int)<(xs.length:Int)∧(0:Int)<(ys.length:Int)),(pn C S r dp e (ys.take xs.length++xs.drop ys.length)).set d (.int .i64 (if(ys.length:Int)<(xs.length:Int)then(ys.length:Int)else(xs.length:Int))))
    | none=>none)else none
 | _,_=>none
def yc (S:St C) (d:Nat) (s x:Operand) (t t':TypeId):rj C:=
 match ev C S t s,ev C S t' x with
 | .vw r e lo hi,.vw r' e' lo' hi'=>match look S r with
   | .own dp e2 xs=>
     if r'=r∧e'=e∧e2=e∧r.1≠d∧t'=t∧iK C t e=true∧gp C e=false∧(leaves (C.enc e (C.U.d e))).length=1
      then some (none,(pn C S r dp e2 (xs.take lo.toNat++(((xs.take hi'.toNat).drop lo'.toNat).take (hi.toNat-lo.toNat)++xs.drop (lo.toNat+(if hi'-lo'<hi-lo then hi'-lo' else hi-lo).toNat)))).set d (.int .i64 (if hi'-lo'<hi-lo then hi'-lo' else hi-lo)))else none
   | _=>none
 | _,_=>none
def Ah (S:St C) (d:Nat) (s x:Operand) (t t':TypeId):rj C:=
 match yc C S d s x t t' with
 | some r=>some r
 | none=>Aq C S d s x t t'
def so (S:St C) (d:Nat) (ts:List TypeId) (t:TypeId) (b:Builtin) (xs:List Operand):rj C:=
 match b,xs with
 | .len,[x]=>match ts with
   | t1::_=>Ch C S d t1 x
   | []=>none
 | .append,[s,x]=>match ts with
   | [t1,t2]=>yD C S d s x t1 t2
   | _=>none
 | .copy,[s,x]=>match ts with
   | [t1,t2]=>Ah C S d s x t1 t2
   | _=>none
 | .min,[x,y]=>match ev C S t x,ev C S t y with
   | .int k m,.int _ n=>to C S d (.int k (if n<m then n else m))
   | _,_=>none
 | .max,[x,y]=>match ev C S t x,ev C S t y with
   | .int k m,.int _ n=>to C S d (.int k (if n>m then n else m))
   | _,_=>none
 | _,_=>none
def rZ (S:St C):List Operand→Option (List C.PV)
 | []=>some []
 | x::xs=>match ev C S 0 x,x,rZ S xs with
   | .box _,.tmp q,some l=>some (.ptr q 0::l)
   | .ptr q o,_,some l=>some (.ptr q o::l)
   | _,_,_=>none
def nS (S:St C) (d:Nat) (o:Oper):rj C:=
 match o.op with
 | .move x=>mb C S d o.type x
 | .assign x=>za C S d o.type x
 | .nilCheck x=>match bA C S o.type x with
   | .ptr .. =>mb C S d o.type x
   | .nR .. =>mb C S d o.type x
   | .rd .. =>mb C S d o.type x
   | _=>none
 | .binOp op t x y u=>match Ag C op t (ev C S t x) (ev C S u y)with
   | some (p,v)=>some (p,S.set d v)
   | none=>none
 | .unOp op _ x=>match op,ev C S o.type x with
   | .not,.bool b=>to C S d (.bool !b)
   | .neg,.int k n=>to C S d (.int k (k.wrap (-n)))
   | _,_=>none
 | .convert src t x=>rL C S d src t x
 | .indexAddr t x i=>oo C S d t x i
 | .fieldAddr t x f=>lZ C S d t x f
 | .load t x=>vj C S d t x
 | .field t x f=>xZ C S d t x f
 | .extract x i=>rR C S d i x
 | .alloc t=>match C.ty t with
   | some T=>to C S d (.box T.sZ)
   | none=>none
 | .box _ x=>BR C S d o.type x
 | .build t ps=>yk C S d t ps.toList
 | .buildSlice t n ps=>nh C S d t n ps.toList
 | .makeSlice t l c=>oa C S d t l c
 | .slice t x lo hi none=>xH C S d t x lo hi
 | .index t x i=>xt C S d t x i
 | .makeFunc (.func f) first caps=>if first.size=0 then(match rZ C S caps.toList with
   | some l=>to C S d (.fn f l)
   | none=>none)else none
 | .call c=>match c.callee with
   | .builtin b=>so C S d c.argTypes.toList o.type b c.args.toList
   | _=>none
 | _=>none
def rl (q off:Nat) (t:TypeId) (x:Operand) (i:Nat):Nat→St C→Option (St C)
 | 0,S=>some S
 | m+1,S=>match get S q,get (drop S (q,[off+i])) q with
   | .box ls0,.box ls=>if off+i<ls0.length∧off+i<ls.length∧kQ C (drop S (q,[off+i])) (get (leaves (bA C (drop S (q,[off+i])) t x)) i)=true
     then(match lx C ((drop S (q,[off+i])).set q (.box (ls.set (off+i) (get (leaves (bA C (drop S (q,[off+i])) t x)) i)))) (q,[off+i])with
      | some S'=>rl q off t x (i+1) m S'
      | none=>none)
     else none
   | _,_=>none
def rB (S:St C) (r:ao) (e:TypeId) (lo hi:Nat) (v:C.PV):St C:=put (dK (jK r e lo hi) (put S r .undef)) r v
def tV (e:TypeId) (xs:List (C.U.T e)) (i:Int) (off:Nat) (v:C.PV):C.PV:=
 match elemAt C e xs i with
 | .agg ls=> .agg (kK C ls off (leaves v))
 | _=>v
def zD (S:St C) (r:ao) (dp:Bool) (e:TypeId) (xs:List (C.U.T e)) (i:Int) (lo hi:Nat) (y:C.U.T e) (rs:List ao) (gift:Bool):Option (St C):=
 if gp C e=true
 then(if rs.contains r=true then none
  else if(dp&&gift)=true then some (rB C (gr C S rs) r e lo hi (.own true e (xs.set i.toNat y)))
  else some (rB C (ij C S rs) r e lo hi (.own false e (xs.set i.toNat y))))
 else some (rB C S r e lo hi (.own true e (xs.set i.toNat y)))
def tX (S:St C) (t:TypeId) (a x:Operand):Option (St C):=
 match C.ty t with
 | none=>none
 | some T=>match bA C S t a with
 | .ptr q off=>if known C S (bA C S t x)=true∧(leaves (bA C S t x)).length=T.size then rl C q off t x 0 T.size S else none
 | .nR r e i off=>match look S r,read C S (ev C S t x)with
   | .own dp e' xs,some v=>if e'=e∧(leaves v).length=T.size∧fits C T (leaves (elemAt C e' xs i)) off=true then
    (match C.dec e' (tV C e' xs i off v)with
    | some y=>zD C S r dp e' xs i off (off+T.size) y (aZ C (bG x) (ev C S t x)) (owned C S (ev C S t x)&&decide (aZ C (bG x) (ev C S t x)).Nodup)
    | none=>none)
     else none
   | _,_=>none
 | _=>none
structure Ef where
 A:Type
 v:A→C.PV
 rh:A→List C.PV
abbrev iR:=FuncId→St C→Nat→C.PV→List C.PV→Prop
inductive Mode where
 | read
 | edit
 | take
 deriving DecidableEq
inductive Ord where
 | done
 | nil
 | take (i:Nat) (T:List Nat) (t:Ord)
 | alt (i:Nat) (t o:Ord)
 | batch (is:List Nat) (t:Ord)
structure bE where
 ret:FuncId→Option (Ef C)
 nt:FuncId→Nat
 mode:FuncId→Mode
 fM:List (Nat×List Nat)
 iH:List (Nat×(List Nat×Ord))
 xR:List (Nat×List ao)
inductive Ex where
 | normal
 | exit (id:Nat)
 | ret
def lookup {α:Type _} (k:Nat):List (Nat×α)→Option α
 | []=>none
 | (i,v)::l=>if i=k then some v else lookup k l
def qZ {U:gm} (live:List Nat) (i:Nat):Nat→List (PV U)→List (PV U)
 | 0,S=>S
 | m+1,S=>qZ live (i+1) m (if live.contains i then S else clear S i)
inductive Obj where
 | box (q:Nat)
 | row (r:ao)
 | nest (r:ao) (e:TypeId) (i:Int) (off:Nat)
 deriving DecidableEq
def Obj.at (os:List Obj) (o:Obj):Nat×List Obj:=
 match os.idxOf? o with
 | some i=>(i,os)
 | none=>(os.length,os++[o])
def rX (n:Nat) (os:List Obj):List C.PV→Option (List C.PV×List Obj)
 | []=>some ([],os)
 | .ptr q o::vs=>match rX n (Obj.at os (.box q)).2 vs with
   | some (vs',os')=>some (.ptr (n+(Obj.at os (.box q)).1) o::vs',os')
   | none=>none
 | _::_=>none
def ib (n:Nat) (m:Mode) (S:St C) (src:Option ao) (os:List Obj) (v:C.PV):Option (C.PV×List Obj):=
 match v with
 | .ptr q o=>some (.ptr (n+(Obj.at os (.box q)).1) o,(Obj.at os (.box q)).2)
 | .fn f caps=>match rX C n os caps with
   | some (caps',os')=>some (.fn f caps',os')
   | none=>none
 | v=>match m,v with
   | .edit,.iV q=>match look S q with
     | .own .. =>some (.iV (n+(Obj.at os (.row q)).1,[]),(Obj.at os (.row q)).2)
     | _=>(fX C S v).map (·,os)
   | .edit,.own .. =>match src with
     | some q=>some (.iV (n+(Obj.at os (.row q)).1,[]),(Obj.at os (.row q)).2)
     | none=>(fX C S v).map (·,os)
   | .edit,.kB q e i off=>some (.iV (n+(Obj.at os (.nest q e i off)).1,[]),(Obj.at os (.nest q e i off)).2)
   | .take,.iV q=>match look S q with
     | .own dp e xs=>some (.own dp e xs,os)
     | _=>(fX C S v).map (·,os)
   | .take,.own dp e xs=>some (.own dp e xs,os)
   | .take,.kB .. =>none
   | _,v=>(fX C S v).map (·,os)
def mM (n:Nat) (m:Mode) (S:St C) (src:Option Nat):Nat→List Obj→List C.PV→Option (List C.PV×List Obj)
 | _,os,[]=>some ([],os)
 | i,os,v::vs=>match ib C n m S (src.map fun q=>(q,[i])) os v with
   | some (v',os')=>match mM n m S src (i+1) os' vs with
     | some (vs',os'')=>some (v'::vs',os'')
     | none=>none
   | none=>none
def scalar:C.PV→Bool
 | .int .. =>true
 | .bool _=>true
 | .str _=>true
 | _=>false
def qC (n:Nat) (m:Mode) (S:St C) (src:Option Nat) (os:List Obj):C.PV→Option (C.PV×List Obj)
 | .agg ls=>match mM C n m S src 0 os ls with
   | some (ls',os')=>some (.agg ls',os')
   | none=>none
 | .box _=>match src with
   | some q=>some (.ptr (n+(Obj.at os (.box q)).1) 0,(Obj.at os (.box q)).2)
   | none=>none
 | v=>ib C n m S (src.map fun q=>(q,[])) os v
def ow (n:Nat) (m:Mode) (S:St C):List Obj→List (Option Nat×C.PV)→Option (List C.PV×List Obj)
 | os,[]=>some ([],os)
 | os,(src,v)::vs=>match qC C n m S src os v with
   | some (v',os')=>match ow n m S os' vs with
     | some (vs',os'')=>some (v'::vs',os'')
     | none=>none
   | none=>none
def um (n:Nat) (os:List Obj):List C.PV→Option (List C.PV×List Obj)
 | []=>some ([],os)
 | v::vs=>
   match(match v with
    | .ptr q o=>some ((.ptr (n+(Obj.at os (.box q)).1) o:C.PV),(Obj.at os (.box q)).2)
    | .int .. =>some (v,os)
    | .bool _=>some (v,os)
    | .str _=>some (v,os)
    | .sl .. =>some (v,os)
    | .own .. =>some (v,os)
    | .undef=>some (v,os)
    | _=>none)with
   | some (v',os')=>match um n os' vs with
     | some (vs',os'')=>some (v'::vs',os'')
     | none=>none
   | none=>none
def lO (n:Nat) (S:St C):Nat→Nat→List Obj→Option (List C.PV×List Obj)
 | 0,_,_=>none
 | k+1,i,os=>match os[i]? with
   | none=>some ([],os)
   | some (.box q)=>match get S q with
     | .box cs=>match um C n os cs with
       | some (cs',os')=>match lO n S k (i+1) os' with
         | some (vs,os'')=>some (.box cs'::vs,os'')
         | none=>none
       | none=>none
     | _=>none
   | some (.row r)=>match look S r with
     | .own dp e xs=>match lO n S k (i+1) os with
       | some (vs,os')=>some (.own dp e xs::vs,os')
       | none=>none
     | _=>none
   | some (.nest q e i' off)=>match fX C S (.kB q e i' off)with
     | some (.sl f ys)=>if gp C f=true then none else match lO n S k (i+1) os with
       | some (vs,os')=>some (.own true f ys::vs,os')
       | none=>none
     | _=>none
def mu:C.PV→Bool
 | .sl .. =>true
 | .own dp e _=> !dp&&gp C e
 | .rd .. =>true
 | _=>false
def oD:C.PV→Bool
 | .agg ls=>ls.any (mu C)
 | .box ls=>ls.any (mu C)
 | .gG vs=>vs.any (fun v=>(leaves v).any (mu C))
 | v=>mu C v
def wO {U:gm}:PV U→Bool
 | .int .. =>true
 | .bool _=>true
 | .str _=>true
 | .sl .. =>true
 | .own .. =>true
 | .undef=>true
 | _=>false
def uz (n:Nat) (os:List Obj):List C.PV→Option (List C.PV)
 | []=>some []
 | v::vs=>match(match v with
    | .ptr t o=>(match(if n≤t then os[t-n]? else none)with
      | some (.box q)=>some (.ptr q o)
      | _=>none)
    | v=>if wO v=true then some v else none)with
   | some v'=>match uz n os vs with
     | some vs'=>some (v'::vs')
     | none=>none
   | none=>none
def mj (n:Nat) (os:List Obj) (S:St C):Obj→C.PV→Option C.PV
 | .box _,.box cs=>match uz C n os cs with
   | some cs'=>some (.box cs')
   | none=>none
 | .row r,.own dp e xs=>match look S r with
   | .own _ e' _=>if e'=e then some (.own dp e xs)else none
   | _=>none
 | .nest r e i off,.own true f ys=>match look S r with
   | .own true e' xs=>if e'=e∧gp C f=false then(match C.dec e' (match elemAt C e' xs i with | .agg ls=> .agg (ls.set off (.sl f ys)) | _=> .sl f ys)with
     | some y=>some (.own true e' (xs.set i.toNat y))
     | none=>none)else none
   | _=>none
 | _,_=>none
def tO (n:Nat) (all:List Obj) (S:St C):List Obj→List C.PV→Option (List C.PV)
 | [],[]=>some []
 | o::os,v::vs=>match mj C n all S o v with
   | some u=>match tO n all S os vs with
     | some us=>some (u::us)
     | none=>none
   | none=>none
 | _,_=>none
def Obj.root:Obj→ao
 | .box q=>(q,[])
 | .row r=>r
 | .nest r _ _ _=>r
def hP {U:gm} (S:List (PV U)):Obj→PV U→List (PV U)
 | .box q,v=>S.set q v
 | .row r,v=>put S r v
 | .nest r _ _ _,v=>put S r v
def fZ {U:gm} (S:List (PV U)):List Obj→List (PV U)→List (PV U)
 | o::os,v::vs=>fZ (hP S o v) os vs
 | _,_=>S
def nj (os:List Obj) (r:ao):Bool:=os.any fun | .box q=>r.1==q | _=>false
def uS (os:List Obj) (r:ao):Bool:=os.any fun | .row q=>r==q | _=>false
def gg {U:gm} (os:List Obj):PV U→PV U
 | .iV r=>if nj os r=true then .undef else .iV r
 | .nR r e i o=>if nj os r=true then .undef else .nR r e i o
 | .vw r e i o=>if nj os r=true then .undef else .vw r e i o
 | .kB r e i o=>if(nj os r || uS os r)=true then .undef else .kB r e i o
 | v=>v
def xM (n:Nat) (os:List Obj) (vs:List C.PV) (S:St C):Option (St C):=
 match tO C n os S os vs with
 | some us=>some (fZ (dK (gg os) (fZ S os (List.replicate os.length .undef))) os us)
 | none=>none
def Obj.apart:Obj→Obj→Bool
 | .box q,.box q'=> !(q==q')
 | .box q,o=> !(o.root.1==q)
 | o,.box q=> !(o.root.1==q)
 | o,o'=> !(o.root==o'.root)
def dC:List Obj→Bool
 | []=>true
 | o::os=>os.all (Obj.apart o)&&dC os
def AP:List ao→Bool
 | []=>true
 | q::qs=> !(qs.any fun r=>decide (r=q))&&AP qs
def iW (m:Mode) (os:List Obj) (rs:List ao):Bool:=
 dC os&&(match m with
  | .edit=>true
  | .read=>rs.all fun q=>os.all (Obj.apart (.row q))
  | .take=>AP rs&&rs.all fun q=>os.all (Obj.apart (.row q)))
def start (n:Nat) (vs os:List C.PV):St C:=vs++List.replicate (n-vs.length) .undef++os
def ug:Op→Option (Operand×Operand×Operand)
 | .pick c a b=>some (c,a,b)
 | _=>none
def gx:Op→Option (Operand×List Operand)
 | .call c=>match c.callee with
   | .value f=>some (f,c.args.toList)
   | _=>none
 | _=>none
def C2 (p:Option Prop) (q:Prop):Prop:=
 match p with
 | none=>q
 | some p=>p∧q
def kG (S:St C) (d:Option Nat):St C:=match d with | some d=>clear S d | none=>S
def sg {U:gm} (S:List (PV U)) (d:Option Nat) (v:PV U):List (PV U):=match d with | some d=>S.set d v | none=>S
def tR (S:St C) (o:Oper) (d:Nat):Bool:=
 match o.op with
 | .assign (.tmp t)=>match get S t with
   | .iV r=>r==(d,[])
   | _=>false
 | _=>false
def pB (r:rj C) (k:St C→Prop):Prop:=
 match r with
 | some (p,S')=>C2 p (k S')
 | none=>False
def gn {U:gm} (lo hi:Nat):PV U→Bool
 | .iV _=>false
 | .nR .. =>false
 | .vw .. =>false
 | .kB .. =>false
 | .rd .. =>false
 | .agg _=>false
 | .box _=>false
 | .gG _=>false
 | .fn _ caps=>caps.isEmpty
 | .ptr t _=>decide (lo≤t)&&decide (t<hi)
 | _=>true
def lh {U:gm} (lo hi:Nat):PV U→Bool
 | .agg ls=>ls.all (gn lo hi)
 | v=>gn lo hi v
def plain {U:gm} (lo hi:Nat):PV U→Bool
 | .agg ls=>ls.all (gn lo hi)
 | .box ls=>ls.all (gn lo hi)
 | .gG vs=>vs.all (lh lo hi)
 | v=>gn lo hi v
def oS (Q:bE C) (g:FuncId) (rs:List ao) (vs:List C.PV) (r:C.PV) (S:St C):St C:=
 if Q.mode g= .take then gr C S rs
 else if(Q.mode g= .read∧(oD C r || vs.any (oD C))=true)then ij C S rs else S
def xE (Q:bE C) (g:FuncId) (rs:List ao) (os:List Obj) (dst:Option Nat) (r:C.PV) (vs:List C.PV) (S:St C) (k:St C→Prop):Prop:=
 if plain 1 0 r=true then(match xM C (Q.nt g) os vs (oS C Q g rs vs r S)with
  | some S2=>k (sg (kG C S2 dst) dst r)
  | none=>False)else False
def oU (Q:bE C) (K:iR C) (g:FuncId) (vs:List (Option Nat×C.PV)) (dst:Option Nat) (S:St C) (k:St C→Prop):Prop:=
 match ow C (Q.nt g) (Q.mode g) S [] vs,Q.ret g with
 | some (av,os0),some R=>match lO C (Q.nt g) S 64 0 os0 with
   | some (bs,os)=>if(decide (av.length≤Q.nt g)&&iW (Q.mode g) os (vs.flatMap fun p=>aZ C p.1 p.2))=true
     then∃a:R.A,K g (start C (Q.nt g) av bs) bs.length (R.v a) (R.rh a)∧xE C Q g (vs.flatMap fun p=>aZ C p.1 p.2) os dst (R.v a) (R.rh a) S k
     else False
   | none=>False
 | _,_=>False
def AX (t:TypeId):Bool:=match C.ty t with | some (.slice _)=>true | _=>false
def oT:Op→Option (Bool×TypeId×Operand)
 | .binOp .eql t x (.const (.slice none 0 0)) _=>some (false,t,x)
 | .binOp .neq t x (.const (.slice none 0 0)) _=>some (true,t,x)
 | _=>none
def pZ (Q:bE C) (K:iR C) (o:Oper) (S:St C) (k:St C→Prop):Prop:=
 match ug o.op,gx o.op,o.dst with
 | some (c,a,b),_,some d=>match ev C S 4 c with
   | .bool t=>if t=true
     then pB C (mb C (clear S d) d o.type a) k
     else pB C (mb C (clear S d) d o.type b) k
   | _=>False
 | none,some (f,xs),dst=>
   match ev C S 0 f with
   | .fn g caps=>oU C Q K g (xs.map (fun x=>(bG x,ev C S 0 x))++caps.map (fun v=>(none,v))) dst S k
   | _=>False
 | none,none,some d=>if tR C S o d=true then k S else pB C (nS C (clear S d) d o) k
 | none,none,none=>match o.op with
   | .store t a x=>match tX C S t a x with
     | some S'=>k S'
     | none=>False
   | _=>False
 | _,_,_=>False
def pg (S:St C) (o:Op):Option (Nat×Nat×Nat×Int):=
 match o with
 | .indexAddr t x i=>match C.ty t with
   | some (.arr n _ _)=>match bA C S t x,ev C S t i with
     | .ptr q p,.int _ m=>some (q,p,n,m)
     | _,_=>none
   | _=>none
 | _=>none
def qX (m:Int) (f:Nat→Prop) (i:Nat):Nat→Prop
 | 0=>False
 | n+1=>if decide (m=(i:Int))=true then f i else qX m f (i+1) n
def AY (Q:bE C) (K:iR C) (o:Oper) (S:St C) (k:St C→Prop):Prop:=
 match o.dst with
 | some d=>match pg C (clear S d) o.op with
   | some (q,p,n,m)=>qX m (fun j=>k ((clear S d).set d (.ptr q (p+j)))) 0 n
   | none=>pZ C Q K o S k
 | none=>pZ C Q K o S k
def pU (Q:bE C) (K:iR C) (o:Oper) (S:St C) (k:St C→Prop):Prop:=
 match oT o.op,o.dst with
 | some (neg,t,x),some d=>(match AX C t,read C S (ev C S t x)with
   | true,some (.sl _ xs)=>(xs=[]→k ((clear S d).set d (.bool (!neg))))∧k ((clear S d).set d (.bool neg))
   | _,_=>False)
 | _,_=>AY C Q K o S k
def sj (S:St C) (o:Oper):Option (Σ e,List (C.U.T e)):=
 match o.op with
 | .call c=>match c.callee,c.args.toList,c.argTypes.toList with
   | .builtin .copy,[s,x],[t,t']=>match read C S (ev C S t s),read C S (ev C S t' x)with
     | some (.sl e xs),some (.sl _ _)=>if t'=t∧iK C t e=true then some ⟨e,xs⟩else none
     | _,_=>none
   | _,_,_=>none
 | _=>none
def mO (Q:bE C) (K:iR C) (o:Oper) (S:St C) (k:St C→Prop):Prop:=
 match o.dst,sj C S o with
 | some d,some ⟨_,xs⟩=>if xs.isEmpty=true then k ((clear S d).set d (.int .i64 0))else pU C Q K o S k
 | _,_=>pU C Q K o S k
def ky (Q:bE C) (K:iR C) (chk:St C→Bool) (o:Oper) (all:Array Oper) (S:St C) (k:St C→Prop):Prop:=
 match o.guard with
 | none=>if chk S=true then mO C Q K o S k else False
 | some (j,w)=>
   match(all[j]?).bind (·.dst)with
   | some t=>match get S t with
     | .bool b=>if b=true
       then(if w=true then(if chk (S.set t (.bool true))=true then mO C Q K o (S.set t (.bool true)) k else False)
        else k (sg (kG C (S.set t (.bool true)) o.dst) o.dst .void))
       else(if w=false then(if chk (S.set t (.bool false))=true then mO C Q K o (S.set t (.bool false)) k else False)
        else k (sg (kG C (S.set t (.bool false)) o.dst) o.dst .void))
     | .void=>k (sg (kG C S o.dst) o.dst .void)
     | _=>False
   | none=>False
def Ak (o o2:Oper):Option (TypeId×Operand×Operand×Nat):=
 match o.op,o.dst,o.guard with
 | .slice t x (some lo) none none,some d,none=>match o2.op,o2.dst,o2.guard with
   | .call c,none,none=>match c.callee,c.args.toList,c.argTypes.toList with
     | .builtin .clear,[.tmp d'],[t']=>if d'=d∧t'=t then some (t,x,lo,d)else none
     | _,_,_=>none
   | _,_,_=>none
 | _,_,_=>none
def Ac (S:St C) (o o2:Oper):Option (Prop×St C):=
 match Ak o o2 with
 | some (t,x,lo,d)=>match rowOf C (clear S d) (bG x) (ev C (clear S d) t x),ev C (clear S d) 0 lo with
   | some ⟨some (dp,some r),e,xs⟩,.int _ n=>if iK C t e=true∧gp C e=false∧(leaves (C.enc e (C.U.d e))).length=1
     then some ((0:Int)≤n∧n<(xs.length:Int),pn C (clear S d) r dp e (xs.take n.toNat++List.replicate (xs.length-n.toNat) (C.U.d e)))else none
   | _,_=>none
 | none=>none
def wN (Q:bE C) (K:iR C):List Oper→Array Oper→St C→(St C→Prop)→Prop
 | [],_,S,k=>k S
 | [o],all,S,k=>ky C Q K (fun _=>true) o all S k
 | o::o2::os,all,S,k=>match Ac C S o o2 with
   | some (p,S')=>p∧wN Q K os all S' k
   | none=>ky C Q K (fun _=>true) o all S (fun S'=>wN Q K (o2::os) all S' k)
def gw (S:St C) (o:Oper):Bool:=
 match o.op with
 | .move _=>true
 | .assign _=>true
 | .pick .. =>true
 | .field .. =>true
 | .extract .. =>true
 | .index .. =>true
 | .indexAddr .. =>true
 | .fieldAddr .. =>true
 | .load .. =>true
 | .nilCheck x=>match bA C S o.type x with
   | .ptr .. =>true
   | .nR .. =>true
   | .rd .. =>true
   | _=>false
 | .binOp op t x y u=>match ev C S t x,ev C S u y with
   | .int ..,.int .. =>(match op with
     | .shl=>false
     | .shr=>false
     | _=>true)
   | .str _,.str _=>true
   | _,_=>false
 | .unOp _ _ x=>match ev C S o.type x with
   | .int .. =>true
   | .bool _=>true
   | _=>false
 | .call c=>match c.callee,c.args.toList,c.argTypes.toList with
   | .builtin .len,[x],t::_=>(match ev C S t x with
     | .str _=>true
     | .own .. =>true
     | .sl .. =>true
     | .iV _=>true
     | _=>false)
   | _,_,_=>false
 | _=>false
def qE:C.PV→C.PV
 | .own .. => .undef
 | .iV _=> .undef
 | .ptr .. => .undef
 | .nR .. => .undef
 | .vw .. => .undef
 | .kB .. => .undef
 | .fn .. => .undef
 | v=>v
def calm (S:St C):St C:=S.map fun
 | .box _=> .undef
 | v=>hZ (qE C) v
def jR (Q:bE C) (S:St C) (o:Oper):Bool:=
 gw C (kG C S o.dst) o || (match gx o.op with
  | some (f,xs)=>(match ev C S 0 f with
    | .fn g caps=>decide (Q.mode g= .read)&&(match ow C (Q.nt g) (Q.mode g) S [] (xs.map (fun x=>(bG x,ev C S 0 x))++caps.map (fun v=>(none,v)))with
      | some (_,[])=>true
      | _=>false)
    | _=>false)
  | none=>match o.dst with
    | some d=>(match nS C (clear (calm C S) d) d o with
      | some (none,_)=>true
      | _=>false)
    | none=>false)
def Cj (t:Nat):Operand→Bool
 | .tmp q=>q==t
 | _=>false
def ly (S:St C) (o:Oper):St C:=(List.range S.length).map fun t=>if o.op.operands.toList.any (Cj t)=true then(read C S (get S t)).getD .undef else .undef
def mB:C.PV→Bool
 | .int .. =>true
 | .bool _=>true
 | .str _=>true
 | .own true e _=> !gp C e
 | _=>false
def lay:St C→List (Nat×C.PV)→St C
 | S,[]=>S
 | S,(d,v)::vs=>lay ((clear S d).set d v) vs
def pP (Q:bE C) (K:iR C) (o:Oper) (S:St C) (k:St C→Prop):Prop:=
 match gx o.op,o.dst with
 | some (f,xs),some d=>match ev C S 0 f with
   | .fn g []=>oU C Q K g (xs.map fun x=>(bG x,ev C S 0 x)) (some d) S k
   | _=>False
 | none,some d=>pB C (nS C (clear S d) d o) k
 | _,_=>False
def q9 (Q:bE C) (K:iR C) (all:Array Oper) (S0:St C):List Nat→List (Nat×C.PV)→(St C→Prop)→Prop
 | [],vals,k=>k (lay C S0 vals)
 | i::is,vals,k=>match all[i]? with
   | some o=>match o.dst with
     | some d=>pP C Q K o (ly C (lay C S0 vals) o) (fun S'=>mB C (get S' d)=true∧q9 Q K all S0 is (vals++[(d,get S' d)]) k)
     | none=>False
   | none=>False
def ou (ds:List Nat):C.PV→Bool
 | .iV r=>ds.contains r.1
 | .nR r _ _ _=>ds.contains r.1
 | .vw r _ _ _=>ds.contains r.1
 | .kB r _ _ _=>ds.contains r.1
 | .ptr t _=>ds.contains t
 | .fn _ caps=>caps.any fun | .ptr t _=>ds.contains t | _=>false
 | _=>false
def names (ds:List Nat):C.PV→Bool
 | .agg ls=>ls.any (ou C ds)
 | .box ls=>ls.any (ou C ds)
 | .gG vs=>vs.any fun | .agg ls=>ls.any (ou C ds) | v=>ou C ds v
 | v=>ou C ds v
def Ct (all:Array Oper) (is:List Nat):List Nat:=is.filterMap fun i=>(all[i]?).bind (·.dst)
def kN (Q:bE C) (K:iR C) (all:Array Oper) (brk:List Nat):Ord→St C→(St C→Prop)→Prop
 | .done,S,k=>k S
 | .nil,_,_=>True
 | .take i _ t,S,k=>(match all[i]? with
   | some o=>ky C Q K (fun S=>gw C (kG C S o.dst) o) o all S (fun S'=>kN Q K all brk t S' k)
   | none=>False)
 | .alt i t o',S,k=>(match all[i]? with
   | some o=>ky C Q K (fun S=>brk.contains i || jR C Q S o) o all S (fun S'=>kN Q K all brk t S' k)
   | none=>False)∧kN Q K all brk o' S k
 | .batch is t,S,k=>if(S.any (names C (Ct all is)))=true then False else q9 C Q K all S is [] (fun S'=>kN Q K all brk t S' k)
def rC (Q:bE C) (K:iR C) (id:Nat) (ops:Array Oper) (dr:Bool) (S:St C) (k:St C→Prop):Prop:=
 match dr with
 | false=>wN C Q K ops.toList ops S k
 | true=>match lookup id Q.iH with
   | some (brk,t)=>kN C Q K ops brk t S k
   | none=>False
def first:Code→Option Nat
 | .region i _ _=>some i
 | .seq a _=>first a
 | .block _ c=>first c
 | _=>none
abbrev Kc (C:Ctx):=Ex→St C→Prop
def andThen {C:Ctx} (n:St C→Prop) (K:Kc C):Kc C
 | .normal,S=>n S
 | e,S=>K e S
def inBlock {C:Ctx} (id:Nat) (K:Kc C):Kc C
 | .exit i,S=>if i=id then K .normal S else K (.exit i) S
 | e,S=>K e S
def soft (S:St C) (q:ao):St C:=
 match look S q with
 | .own true e xs=>put S q (.own false e xs)
 | _=>S
def pd (S:St C):List ao→St C
 | []=>S
 | q::qs=>pd (soft C S q) qs
def ml {C:Ctx} (Q:bE C) (i:Nat) (S:St C):St C:=pd C (ij C S ((lookup i Q.xR).getD [])) ((lookup (i+2000000) Q.xR).getD [])
def jump {C:Ctx} (Q:bE C) (J:Nat→St C→Prop) (id:Option Nat) (S:St C):Prop:=
 match id with
 | some i=>match lookup i Q.fM with
   | some live=>J i (qZ live 0 S.length (ml Q i S))
   | none=>False
 | none=>False
def ko (Q:bE C) (K:iR C) (J:Nat→St C→Prop):Code→Kc C→St C→Prop
 | .skip,k,S=>k .normal S
 | .region id ops dr,k,S=>match lookup id Q.fM with
   | some live=>J id (qZ live 0 S.length (ml Q id S))
   | none=>rC C Q K id ops dr S (k .normal)
 | .seq a b,k,S=>ko Q K J a (andThen (ko Q K J b k) k) S
 | .cond c a b,k,S=>match ev C S 4 c with
   | .bool t=>if t=true then ko Q K J a k S else ko Q K J b k S
   | _=>False
 | .block id c,k,S=>ko Q K J c (inBlock id k) S
 | .loop c,_,S=>jump Q J (first c) S
 | .exit id,k,S=>k (.exit id) S
 | .ret,k,S=>k .ret S
 | _,_,_=>False
def kU (Q:bE C) (K:iR C) (J:Nat→St C→Prop) (id:Nat):Code→Kc C→Option (Array Oper×Bool×Kc C)
 | .region i ops dr,k=>if i=id then some (ops,dr,k)else none
 | .seq a b,k=>match kU Q K J id a (andThen (ko C Q K J b k) k)with
   | some r=>some r
   | none=>kU Q K J id b k
 | .cond _ a b,k=>match kU Q K J id a k with
   | some r=>some r
   | none=>kU Q K J id b k
 | .block i c,k=>kU Q K J id c (inBlock i k)
 | .loop c,k=>kU Q K J id c (andThen (jump Q J (first c)) k)
 | _,_=>none
def uc (n:Nat) (S:St C):ResultVar→Option (St C×Nat×Option (Ty C.U))
 | .tmp t=>(match get S t with
   | .ptr q 0=>if q<n then(match gF C S q with
     | some S'=>some (S',q,none)
     | none=>none)else none
   | _=>match gF C S t with
     | some S'=>some (S',t,none)
     | none=>none)
 | .cell t ty=>match C.ty ty,gF C S t with
   | some T,some S'=>some (S',t,some T)
   | _,_=>none
def nU (n:Nat):St C→List ResultVar→Option (St C×List (Nat×Option (Ty C.U)))
 | S,[]=>some (S,[])
 | S,r::rs=>match uc C n S r with
   | some (S1,q)=>match nU n S1 rs with
     | some (S2,qs)=>some (S2,q::qs)
     | none=>none
   | none=>none
def kf (S:St C) (q:Nat×Option (Ty C.U)):C.PV:=
 match q.2 with
 | none=>get S q.1
 | some T=>match get S q.1 with
   | .box ls=>part C T ls 0
   | _=> .undef
def oN (S:St C) (q:Nat×Option (Ty C.U)):Bool:=
 match q.2 with
 | none=>true
 | some T=>match get S q.1 with
   | .box ls=>decide (ls.length=T.size)&&decide (0<T.size)
   | _=>false
def om (S:St C) (n:Nat):Nat→Option (St C)
 | 0=>some S
 | m+1=>match gF C S n with
   | some S'=>om S' (n+1) m
   | none=>none
def distinct:List Nat→Bool
 | []=>true
 | q::qs=> !qs.contains q&&distinct qs
def AG {U:gm}:List (PV U)→PV U
 | [v]=>v
 | vs=> .gG vs
def lA {U:gm} (S:List (PV U)) (n:Nat):Nat→List (PV U)
 | 0=>[]
 | m+1=>get S n::lA S (n+1) m
def atEnd (Q:bE C) (fn:Func) (no:Nat) (R:C.PV→List C.PV→Prop):Kc C
 | .exit _,_=>False
 | _,S=>match nU C fn.ntmps S fn.results.toList with
   | some (S1,qs)=>match om C S1 fn.ntmps no with
     | some S3=>let S2:=ml Q 1000000 S3
       if(distinct (qs.map (·.1))&&qs.all (fun q=>decide (q.1<fn.ntmps)&&oN C S2 q)&&plain 1 0 (AG (qs.map (kf C S2)))&&(lA S2 fn.ntmps no).all (plain fn.ntmps (fn.ntmps+no)))=true
       then R (AG (qs.map (kf C S2))) (lA S2 fn.ntmps no)else False
     | none=>False
   | none=>False
def CS (Q:bE C) (K:iR C) (J:Nat→St C→Prop) (fn:Func) (S:St C) (no:Nat) (R:C.PV→List C.PV→Prop):Prop:=
 match fn.body with
 | some c=>ko C Q K J c (atEnd C Q fn no R) S
 | none=>False
def yW (Q:bE C) (K:iR C) (J:Nat→St C→Prop) (fn:Func) (no:Nat) (id:Nat) (S:St C) (R:C.PV→List C.PV→Prop):Prop:=
 match fn.body with
 | some c=>match kU C Q K J id c (atEnd C Q fn no R)with
   | some (ops,dr,k)=>rC C Q K id ops dr S (k .normal)
   | none=>False
 | none=>False
def BK {U:gm} (l:List (Nat×PV U)) (i:Nat):Nat→List (PV U)
 | 0=>[]
 | m+1=>((lookup i l).getD .undef)::BK l (i+1) m
def eA {U:gm} (n:Nat) (l:List (Nat×PV U)):List (PV U):=BK l 0 n
end Go.Proofs.YtmapddgocpkgeaaGreat.aa
namespace Go.Proofs.YtmapddgocpkgeaaGreat.aa
open Go.RowKit
section
variable (C:Ctx)
def Ctx.sz (e:TypeId):Nat:=(leaves (C.enc e (C.U.d e))).length
inductive gC (w:World) (N:Nat→Prop):C.PV→Value→Prop
 | int (k:IntKind) (n:Int):gC w N (.int k n) (.int k n)
 | bool (b:Bool):gC w N (.bool b) (.bool b)
 | str (s:ByteArray):gC w N (.str s) (.string s)
 | nil (e:TypeId) (A:Option Addr) (c:Nat):gC w N (.sl e []) (.slice A 0 c)
 | sl (e:TypeId) (xs:List (C.U.T e)) (b o c:Nat) (u:Nat→Nat→Value) (hN:N b) (hc:xs.length≤c)
  (hu:∀j x,xs[j]? =some x→∀i v,(leaves (C.enc e x))[i]? =some v→w.cell? ⟨b,o+(j*C.sz e+i),none⟩=some (u j i))
  (hv:∀j x,xs[j]? =some x→∀i v,(leaves (C.enc e x))[i]? =some v→gC w N v (u j i)):gC w N (.sl e xs) (.slice (some ⟨b,o,none⟩) xs.length c)
end
variable {C:Ctx}
theorem cell_of_heap {w w':World} {a:Addr} (h:w'.heap[a.block]? =w.heap[a.block]?):w'.cell? a=w.cell? a:=World.cell?_of_block (w:=w) h
theorem gC.mono {w w':World} {N N':Nat→Prop} {v:C.PV} {c:Value} (h:gC C w N v c) (hw:∀b,N b→w'.heap[b]? =w.heap[b]?) (hN:∀b,N b→N' b):gC C w' N' v c:=by
 induction h with
 | int k n=>exact .int k n
 | bool b=>exact .bool b
 | str s=>exact .str s
 | nil e A c=>exact .nil e A c
 | sl e xs b o c u hb hc hu hv ih=>exact .sl e xs b o c u (hN b hb) hc (fun j x hx i v hi=>by rw[cell_of_heap (w:=w) (hw b hb)];exact hu j x hx i v hi) ih
def walk (w:World):List Nat→Value→Option Value
 | [],v=>some v
 | i::p,.agg cs=>(cs[i]?).bind (walk w p)
 | i::p,.tuple cs=>(cs[i]?).bind (walk w p)
 | i::p,.pointer (some a)=>(w.cell? ⟨a.block,i,none⟩).bind (walk w p)
 | _,_=>none
def jf (V:Nat→Value) (w:World) (r:ao):Option Value:=walk w r.2 (V r.1)
def isRow {U:gm}:PV U→Bool
 | .own .. =>true
 | .sl .. =>true
 | _=>false
section
variable (C)
def kj (w:World) (B:Nat→Prop) (e:TypeId) (xs:List (C.U.T e)) (c:Value):Prop:=
 (c= .slice none 0 0∧xs=[])∨
 ∃b cap cur,c= .slice (some ⟨b,0,none⟩) xs.length cap∧B b∧w.heap[b]? =some (.cells cur e (0,0))∧xs.length≤cap∧cap≤maxLen∧cur.size=cap*C.sz e∧
  ∀j x,xs[j]? =some x→∀i v,(leaves (C.enc e x))[i]? =some v→∃u,cur[j*C.sz e+i]? =some u∧gC C w (fun _=>False) v u
def nI (w:World) (N B:Nat→Prop):Bool→C.PV→Value→Prop
 | true,.sl e xs,c=>kj C w B e xs c
 | _,v,c=>gC C w N v c
def fk (w:World) (N B:Nat→Prop) (dp:Bool) (e:TypeId) (xs:List (C.U.T e)) (c:Value):Prop:=
 (c= .slice none 0 0∧xs=[])∨
 ∃b cap cur,∃lab:Nat→Option (Nat×Nat),c= .slice (some ⟨b,0,none⟩) xs.length cap∧B b∧lab b=none∧w.heap[b]? =some (.cells cur e (0,0))∧xs.length≤cap∧cap≤maxLen∧cur.size=cap*C.sz e∧
  ∀j x,xs[j]? =some x→∀i v,(leaves (C.enc e x))[i]? =some v→∃u,cur[j*C.sz e+i]? =some u∧nI C w N (fun b'=>B b'∧lab b'=some (j,i)) dp v u
def aJ (A:ao→Value→Prop) (X:Nat→Nat→Prop) (w:World) (N B:Nat→Prop):C.PV→Value→Prop
 | .undef,_=>True
 | .void,c=>c=undef
 | .own dp e xs,c=>fk C w N B dp e xs c
 | .iV q,c=>A q c
 | .ptr t off,c=>∃b,X t b∧c= .pointer (some ⟨b,off,none⟩)
 | .nR q e i off,c=>∃b n cap,A q (.slice (some ⟨b,0,none⟩) n cap)∧(0≤i∧i.toNat<n)∧c= .pointer (some ⟨b,i.toNat*C.sz e+off,none⟩)
 | .vw q e lo hi,c=>∃b n cap,A q (.slice (some ⟨b,0,none⟩) n cap)∧(0≤lo∧lo<hi∧hi.toNat≤n∧n≤cap)∧c= .slice (some ⟨b,lo.toNat*C.sz e,none⟩) (hi.toNat-lo.toNat) (cap-lo.toNat)
 | .kB q e i off,c=>∃b n cap,A q (.slice (some ⟨b,0,none⟩) n cap)∧(0≤i∧i.toNat<n∧off<C.sz e)∧w.cell? ⟨b,i.toNat*C.sz e+off,none⟩=some c
 | .rd x off,c=>∃b o,N b∧c= .pointer (some ⟨b,o+off,none⟩)∧∀i v,(leaves x)[i]? =some v→∃u,w.cell? ⟨b,o+i,none⟩=some u∧gC C w N v u
 | .fn f caps,c=>∃cs:Array Value,c= .func (.func f) #[] cs∧cs.size=caps.length∧∀(i:Nat) (v:C.PV),caps[i]? =some v→∃t off b:Nat,v= .ptr t off∧X t b∧cs[i]? =some (Value.pointer (some ⟨b,off,none⟩))
 | .agg _,_=>False
 | .box _,_=>False
 | .gG _,_=>False
 | .int k n,c=>c= .int k n
 | .bool b,c=>c= .bool b
 | .str s,c=>c= .string s
 | .sl e xs,c=>gC C w N (.sl e xs) c
def fe (A:ao→Value→Prop) (X:Nat→Nat→Prop) (w:World) (N:Nat→Prop) (Bs:Nat→Nat→Prop) (ls:List C.PV) (cs:Array Value):Prop:=
 cs.size=ls.length∧∀(i:Nat) (v:C.PV),ls[i]? =some v→∃u,cs[i]? =some u∧aJ C A X w N (Bs i) v u
def ga (A:ao→Value→Prop) (X:Nat→Nat→Prop) (w:World) (N:Nat→Prop) (bs:List Nat→Nat→Prop):C.PV→Value→Prop
 | .agg ls,c=>∃cs,c= .agg cs∧fe C A X w N (fun j=>bs [j]) ls cs
 | v,c=>aJ C A X w N (bs []) v c
def aR (A:ao→Value→Prop) (X:Nat→Nat→Prop) (w:World) (N:Nat→Prop) (bs:List Nat→Nat→Prop):C.PV→Value→Prop
 | .agg ls,c=>∃cs,c= .agg cs∧fe C A X w N (fun i=>bs [i]) ls cs
 | .box ls,c=>∃b cs ty,c= .pointer (some ⟨b,0,none⟩)∧bs [] b∧w.heap[b]? =some (.cells cs ty (0,0))∧fe C A X w N (fun i=>bs [i]) ls cs
 | .gG vs,c=>∃cs,c= .tuple cs∧cs.size=vs.length∧∀(i:Nat) (v:C.PV),vs[i]? =some v→∃u,cs[i]? =some u∧ga C A X w N (fun p=>bs (i::p)) v u
 | v,c=>aJ C A X w N (bs []) v c
end
variable (C)in
def bL (S:St C) (V:Nat→Value) (w:World) (q:ao) (c:Value):Prop:=isRow (look S q)=true∧jf V w q=some c
variable (C)in
def cL (S:St C) (V:Nat→Value) (t b:Nat):Prop:=(∃ls,get S t= .box ls)∧V t= .pointer (some ⟨b,0,none⟩)
structure fK where
 w:World
 M:Nat→Prop
 N:Nat→Prop
structure Kept (B:fK) (w:World):Prop where
 os:w.os=B.w.os
 tape:w.tape=B.w.tape
 output:w.output=B.w.output
 size:B.w.heap.size≤w.heap.size
 block:∀b,b<B.w.heap.size→¬B.M b→w.heap[b]? =B.w.heap[b]?
variable (C)in
structure eH (A:ao→Value→Prop) (X:Nat→Nat→Prop) (B:fK) (S:St C) (V:Nat→Value) (w:World) (N:Nat→Prop) (bs:ao→Nat→Prop):Prop where
 fo:∀t v,S[t]? =some v→aR C A X w N (fun p=>bs (t,p)) v (V t)
 km:∀r r' b,bs r b→bs r' b→r=r'
 own:∀r b,bs r b→¬N b∧b<w.heap.size∧(B.M b∨B.w.heap.size≤b)
 kd:∀b,N b→b<w.heap.size∧(B.N b∨B.M b∨B.w.heap.size≤b)
 kept:Kept B w
variable (C)in
def Rel (B:fK) (S:St C) (V:Nat→Value) (w:World) (N:Nat→Prop) (bs:ao→Nat→Prop):Prop:=eH C (bL C S V w) (cL C S V) B S V w N bs
theorem kj.move {w w':World} {B B':Nat→Prop} {e:TypeId} {xs:List (C.U.T e)} {c:Value} (h:kj C w B e xs c) (hw:∀b,B b→w'.heap[b]? =w.heap[b]?) (hB:∀b,B b→B' b):kj C w' B' e xs c:=by
 rcases h with h | ⟨b,cap,cur,hc,hb,hh,h1,h2,h3,h4⟩
 ·exact .inl h
 ·exact .inr ⟨b,cap,cur,hc,hB b hb,(hw b hb).trans hh,h1,h2,h3,fun j x hx i v hi=>let⟨u,h5,h6⟩:=h4 j x hx i v hi;⟨u,h5,h6.mono (fun _ h=>h.elim) (fun _ h=>h)⟩⟩
theorem nI.move {w w':World} {N N' B B':Nat→Prop} {dp:Bool} {v:C.PV} {c:Value} (h:nI C w N B dp v c) (hw:∀b,N b∨B b→w'.heap[b]? =w.heap[b]?) (hN:∀b,N b→N' b) (hB:∀b,B b→B' b):nI C w' N' B' dp v c:=by
 cases dp with
 | false=>exact gC.mono h (fun b hb=>hw b (.inl hb)) hN
 | true=>
   cases v with
   | sl e xs=>exact kj.move h (fun b hb=>hw b (.inr hb)) hB
   | _=>exact gC.mono h (fun b hb=>hw b (.inl hb)) hN
theorem fk.move {w w':World} {N N' B B':Nat→Prop} {dp:Bool} {e:TypeId} {xs:List (C.U.T e)} {c:Value} (h:fk C w N B dp e xs c) (hw:∀b,N b∨B b→w'.heap[b]? =w.heap[b]?) (hN:∀b,N b→N' b) (hB:∀b,B b→B' b):fk C w' N' B' dp e xs c:=by
 rcases h with h | ⟨b,cap,cur,lab,hc,hb,hl,hh,h1,h2,h3,h4⟩
 ·exact .inl h
 ·exact .inr ⟨b,cap,cur,lab,hc,hB b hb,hl,(hw b (.inr hb)).trans hh,h1,h2,h3,fun j x hx i v hi=>let⟨u,h5,h6⟩:=h4 j x hx i v hi
   ⟨u,h5,h6.move (fun b hb=>hw b (hb.imp id (·.1))) hN (fun b hb=>⟨hB b hb.1,hb.2⟩)⟩⟩
theorem aJ.move {A A':ao→Value→Prop} {X X':Nat→Nat→Prop} {w w':World} {N N' B B':Nat→Prop} {v:C.PV} {c:Value} (h:aJ C A X w N B v c)
 (hA:∀q c,A q c→A' q c) (hX:∀t b,X t b→X' t b) (hw:∀b,N b∨B b→w'.heap[b]? =w.heap[b]?) (hq:∀q b n cap,0<n→A q (.slice (some ⟨b,0,none⟩) n cap)→w'.heap[b]? =w.heap[b]?) (hN:∀b,N b→N' b) (hB:∀b,B b→B' b):aJ C A' X' w' N' B' v c:=by
 cases v with
 | undef=>trivial
 | void=>exact h
 | int k n=>exact h
 | bool b=>exact h
 | str s=>exact h
 | agg ls=>exact h
 | box ls=>exact h
 | gG ls=>exact h
 | own dp e xs=>exact fk.move h hw hN hB
 | sl e xs=>exact gC.mono h (fun b hb=>hw b (.inl hb)) hN
 | iV q=>exact hA _ _ h
 | ptr t off=>obtain⟨b,hx,hc⟩:=h;exact⟨b,hX _ _ hx,hc⟩
 | nR q e i off=>obtain⟨b,n,cap,ha,hi,hc⟩:=h;exact⟨b,n,cap,hA _ _ ha,hi,hc⟩
 | vw q e i off=>obtain⟨b,n,cap,ha,hi,hc⟩:=h;exact⟨b,n,cap,hA _ _ ha,hi,hc⟩
 | kB q e i off=>obtain⟨b,n,cap,ha,hi,hc⟩:=h;exact⟨b,n,cap,hA _ _ ha,hi,by rw[cell_of_heap (w:=w) (hq _ _ _ _ (Nat.lt_of_le_of_lt (Nat.zero_le _) hi.2.1) ha)];exact hc⟩
 | rd x off=>
   obtain⟨b,o,hb,hc,hl⟩:=h;exact⟨b,o,hN b hb,hc,fun i v hi=>let⟨u,h1,h2⟩:=hl i v hi;⟨u,by rw[cell_of_heap (w:=w) (hw b (.inl hb))];exact h1,h2.mono (fun b hb=>hw b (.inl hb)) hN⟩⟩
 | fn f caps=>
   obtain⟨cs,hc,hs,hl⟩:=h;exact⟨cs,hc,hs,fun i v hi=>let⟨t,off,b,h1,h2,h3⟩:=hl i v hi;⟨t,off,b,h1,hX _ _ h2,h3⟩⟩
theorem aJ.forget {A:ao→Value→Prop} {X:Nat→Nat→Prop} {w:World} {N B:Nat→Prop} {v:C.PV} {c:Value} (p:ao→Bool) (q:Nat→Bool) (h:aJ C A X w N B v c):
 aJ C (fun r c=>A r c∧p r=false) (fun t b=>X t b∧q t=false) w N B (forget p q v) c:=by
 cases v with
 | iV r=>
   unfold aa.forget
   by_cases hp:p r=true
   ·simp only[hp,if_true];trivial
   ·simp only[hp,Bool.false_eq_true,if_false];exact⟨h,by simpa using hp⟩
 | nR r e i o=>
   unfold aa.forget
   by_cases hp:p r=true
   ·simp only[hp,if_true];trivial
   ·simp only[hp,Bool.false_eq_true,if_false];obtain⟨b,n,cap,ha,hi,hc⟩:=h;exact⟨b,n,cap,⟨ha,by simpa using hp⟩,hi,hc⟩
 | vw r e i o=>
   unfold aa.forget
   by_cases hp:p r=true
   ·simp only[hp,if_true];trivial
   ·simp only[hp,Bool.false_eq_true,if_false];obtain⟨b,n,cap,ha,hi,hc⟩:=h;exact⟨b,n,cap,⟨ha,by simpa using hp⟩,hi,hc⟩
 | kB r e i o=>
   unfold aa.forget
   by_cases hp:p r=true
   ·simp only[hp,if_true];trivial
   ·simp only[hp,Bool.false_eq_true,if_false];obtain⟨b,n,cap,ha,hi,hc⟩:=h;exact⟨b,n,cap,⟨ha,by simpa using hp⟩,hi,hc⟩
 | ptr t o=>
   unfold aa.forget
   by_cases hp:q t=true
   ·simp only[hp,if_true];trivial
   ·simp only[hp,Bool.false_eq_true,if_false];obtain⟨b,hx,hc⟩:=h;exact⟨b,⟨hx,by simpa using hp⟩,hc⟩
 | fn f caps=>
   unfold aa.forget;simp only;split
   ·trivial
   ·rename_i hp;obtain⟨cs,hc,hs,hl⟩:=h;refine⟨cs,hc,hs,fun i v hi=> ?_⟩;obtain⟨t,off,b,h1,h2,h3⟩:=hl i v hi;refine⟨t,off,b,h1,⟨h2,?_⟩,h3⟩;cases hq:q t with
    | false=>rfl
    | true=>
      refine absurd (List.any_eq_true.2 ⟨v,List.mem_of_getElem? hi,?_⟩) hp;subst h1;exact hq
 | undef=>trivial
 | void=>exact h
 | int k n=>exact h
 | bool b=>exact h
 | str s=>exact h
 | agg ls=>exact h
 | box ls=>exact h
 | gG ls=>exact h
 | own dp e xs=>exact h
 | sl e xs=>exact h
 | rd x off=>exact h
theorem aJ.rename {A:ao→Value→Prop} {X:Nat→Nat→Prop} {w:World} {N B:Nat→Prop} {v:C.PV} {c:Value} (q r:ao) (h:aJ C A X w N B v c):
 aJ C (fun p c=>(p≠q∧A p c)∨(p=r∧A q c)) X w N B (rename q r v) c:=by
 cases v with
 | iV p=>
   unfold aa.rename
   by_cases hp:p=q
   ·subst hp;simp only[if_true];exact .inr ⟨rfl,h⟩
   ·simp only[hp,if_false];exact .inl ⟨hp,h⟩
 | nR p e i o=>
   unfold aa.rename;obtain⟨b,n,cap,ha,hi,hc⟩:=h
   by_cases hp:p=q
   ·subst hp;simp only[if_true];exact⟨b,n,cap,.inr ⟨rfl,ha⟩,hi,hc⟩
   ·simp only[hp,if_false];exact⟨b,n,cap,.inl ⟨hp,ha⟩,hi,hc⟩
 | vw p e i o=>
   unfold aa.rename;obtain⟨b,n,cap,ha,hi,hc⟩:=h
   by_cases hp:p=q
   ·subst hp;simp only[if_true];exact⟨b,n,cap,.inr ⟨rfl,ha⟩,hi,hc⟩
   ·simp only[hp,if_false];exact⟨b,n,cap,.inl ⟨hp,ha⟩,hi,hc⟩
 | kB p e i o=>
   unfold aa.rename;obtain⟨b,n,cap,ha,hi,hc⟩:=h
   by_cases hp:p=q
   ·subst hp;simp only[if_true];exact⟨b,n,cap,.inr ⟨rfl,ha⟩,hi,hc⟩
   ·simp only[hp,if_false];exact⟨b,n,cap,.inl ⟨hp,ha⟩,hi,hc⟩
 | ptr t o=>exact h
 | fn f caps=>exact h
 | undef=>trivial
 | void=>exact h
 | int k n=>exact h
 | bool b=>exact h
 | str s=>exact h
 | agg ls=>exact h
 | box ls=>exact h
 | gG ls=>exact h
 | own dp e xs=>exact h
 | sl e xs=>exact h
 | rd x off=>exact h
theorem aR.gJ {A:ao→Value→Prop} {X:Nat→Nat→Prop} {w:World} {N:Nat→Prop} {bs:List Nat→Nat→Prop} {v:C.PV} {c:Value} (h:aJ C A X w N (bs []) v c):aR C A X w N bs v c:=by
 cases v with
 | agg ls=>exact h.elim
 | box ls=>exact h.elim
 | gG ls=>exact h.elim
 | _=>exact h
theorem ga.gJ {A:ao→Value→Prop} {X:Nat→Nat→Prop} {w:World} {N:Nat→Prop} {bs:List Nat→Nat→Prop} {v:C.PV} {c:Value} (h:aJ C A X w N (bs []) v c):ga C A X w N bs v c:=by
 cases v with
 | agg ls=>exact h.elim
 | _=>exact h
theorem fe.map {A A':ao→Value→Prop} {X X':Nat→Nat→Prop} {w w':World} {N N':Nat→Prop} {Bs Bs':Nat→Nat→Prop} {f:C.PV→C.PV} {ls:List C.PV} {cs:Array Value}
 (hf:∀i v c,ls[i]? =some v→aJ C A X w N (Bs i) v c→aJ C A' X' w' N' (Bs' i) (f v) c) (h:fe C A X w N Bs ls cs):fe C A' X' w' N' Bs' (ls.map f) cs:=by
 refine⟨by rw[List.length_map];exact h.1,fun i v hi=> ?_⟩;rw[List.getElem?_map]at hi;cases hl:ls[i]? with
 | none=>rw[hl]at hi;cases hi
 | some v0=>
   rw[hl]at hi;obtain rfl:=Option.some.inj hi;obtain⟨u,h1,h2⟩:=h.2 i v0 hl;exact⟨u,h1,hf i v0 u hl h2⟩
theorem get_at {U:gm} {ls:List (PV U)} {i:Nat} {v:PV U} (h:ls[i]? =some v):get ls i=v:=by
 unfold get;rw[List.getD_eq_getElem?_getD,h];rfl
theorem ga.map {A A':ao→Value→Prop} {X X':Nat→Nat→Prop} {w w':World} {N N':Nat→Prop} {bs bs':List Nat→Nat→Prop} {f:C.PV→C.PV} {v:C.PV} {c:Value}
 (hf:∀p x c,bc p v=x→aJ C A X w N (bs p) x c→aJ C A' X' w' N' (bs' p) (f x) c) (h:ga C A X w N bs v c):ga C A' X' w' N' bs' (iJ f v) c:=by
 cases v with
 | agg ls=>obtain⟨cs,hc,ha⟩:=h;exact⟨cs,hc,ha.map (fun i v c hi hl=>hf [i] v c (get_at hi) hl)⟩
 | _=>exact ga.gJ (hf [] _ _ rfl h)
theorem aR.map {A A':ao→Value→Prop} {X X':Nat→Nat→Prop} {w w':World} {N N':Nat→Prop} {bs bs':List Nat→Nat→Prop} {f:C.PV→C.PV} {v:C.PV} {c:Value}
 (hf:∀p x c,bc p v=x→aJ C A X w N (bs p) x c→aJ C A' X' w' N' (bs' p) (f x) c) (hb:∀b,(∃ls,v= .box ls)→bs [] b→bs' [] b∧w'.heap[b]? =w.heap[b]?) (h:aR C A X w N bs v c):aR C A' X' w' N' bs' (hZ f v) c:=by
 cases v with
 | agg ls=>obtain⟨cs,hc,ha⟩:=h;exact⟨cs,hc,ha.map (fun i v c hi hl=>hf [i] v c (get_at hi) hl)⟩
 | box ls=>obtain⟨b,cs,ty,hc,h0,hh,ha⟩:=h;exact⟨b,cs,ty,hc,(hb b ⟨_,rfl⟩ h0).1,(hb b ⟨_,rfl⟩ h0).2.trans hh,ha.map (fun i v c hi hl=>hf [i] v c (get_at hi) hl)⟩
 | gG vs=>
   obtain⟨cs,hc,hs,ha⟩:=h;refine⟨cs,hc,by rw[List.length_map];exact hs,fun i v hi=> ?_⟩;rw[List.getElem?_map]at hi;cases hl:vs[i]? with
   | none=>rw[hl]at hi;cases hi
   | some v0=>
     rw[hl]at hi;obtain rfl:=Option.some.inj hi;obtain⟨u,h1,h2⟩:=ha i v0 hl;exact⟨u,h1,h2.map (fun p x c hx hr=>hf (i::p) x c (by simp only[bc];rw[get_at hl];exact hx) hr)⟩
 | _=>exact aR.gJ (hf [] _ _ rfl h)
theorem Ar {U:gm} (v:PV U):iJ (fun x=>x) v=v:=by
 cases v<;>simp[iJ]
theorem Af {U:gm} (v:PV U):hZ (fun x=>x) v=v:=by
 have h:(iJ (fun x:PV U=>x))=fun v=>v:=funext Ar;cases v<;>simp[hZ,h]
theorem aR.move {A A':ao→Value→Prop} {X X':Nat→Nat→Prop} {w w':World} {N N':Nat→Prop} {bs bs':List Nat→Nat→Prop} {v:C.PV} {c:Value}
 (hf:∀p x c,bc p v=x→aJ C A X w N (bs p) x c→aJ C A' X' w' N' (bs' p) x c) (hb:∀b,(∃ls,v= .box ls)→bs [] b→bs' [] b∧w'.heap[b]? =w.heap[b]?) (h:aR C A X w N bs v c):aR C A' X' w' N' bs' v c:=by
 have:=h.map (f:=fun x=>x) hf hb
 rwa [Af]at this
def stays {U:gm}:PV U→Bool
 | .iV _=>false
 | .nR .. =>false
 | .vw .. =>false
 | .kB .. =>false
 | .ptr .. =>false
 | .fn .. =>false
 | _=>true
theorem yU {U:gm} {v:PV U} (h:isRow v=true):stays v=true:=by cases v<;>first | rfl | simp[isRow]at h
theorem gO {U:gm} (p:ao→Bool) (q:Nat→Bool) {v:PV U} (h:stays v=true):forget p q v=v:=by cases v<;>first | rfl | simp[stays]at h
theorem ye {U:gm} (p r:ao) {v:PV U} (h:stays v=true):rename p r v=v:=by cases v<;>first | rfl | simp[stays]at h
theorem gf {U:gm} (p:List Nat):bc (U:=U) p .undef= .undef:=by cases p<;>rfl
theorem get_map {U:gm} (f:PV U→PV U) (ls:List (PV U)) (i:Nat) (hf:f .undef= .undef):get (ls.map f) i=f (get ls i):=by
 unfold get;rw[List.getD_eq_getElem?_getD,List.getD_eq_getElem?_getD,List.getElem?_map];cases ls[i]? with
 | none=>exact hf.symm
 | some v=>rfl
theorem oY {U:gm} {f:PV U→PV U} (hf:∀v,stays v=true→f v=v) (p:List Nat) (v:PV U) (h:isRow (bc p v)=true):bc p (f v)=bc p v:=by
 have hs:stays v=true:=by
  cases p with
  | nil=>exact yU h
  | cons i p=>cases v<;>first | rfl | simp[bc,isRow]at h
 rw[hf v hs]
theorem uG {U:gm} {f:PV U→PV U} (hf:∀v,stays v=true→f v=v) (p:List Nat) (v:PV U) (h:isRow (bc p v)=true):bc p (iJ f v)=bc p v:=by
 have hu:f .undef= .undef:=hf _ rfl;cases v with
 | agg ls=>cases p with
   | nil=>simp[bc,isRow]at h
   | cons i p=>simp only[iJ,bc]at h⊢;rw[get_map f ls i hu];exact oY hf p _ h
 | _=>exact oY hf p _ h
theorem uF {U:gm} {f:PV U→PV U} (hf:∀v,stays v=true→f v=v) (p:List Nat) (v:PV U) (h:isRow (bc p v)=true):bc p (hZ f v)=bc p v:=by
 have hu:f .undef= .undef:=hf _ rfl;cases v with
 | agg ls=>cases p with
   | nil=>simp[bc,isRow]at h
   | cons i p=>simp only[hZ,bc]at h⊢;rw[get_map f ls i hu];exact oY hf p _ h
 | box ls=>cases p with
   | nil=>simp[bc,isRow]at h
   | cons i p=>simp only[hZ,bc]at h⊢;rw[get_map f ls i hu];exact oY hf p _ h
 | gG vs=>cases p with
   | nil=>simp[bc,isRow]at h
   | cons i p=>simp only[hZ,bc]at h⊢;rw[get_map (iJ f) vs i (by simp[iJ,hu])];exact uG hf p _ h
 | _=>exact oY hf p _ h
theorem kA {U:gm} {f:PV U→PV U} (hf:f .undef= .undef):hZ f (.undef:PV U)= .undef:=hf
theorem gU {U:gm} {f:PV U→PV U} (hf:∀v,stays v=true→f v=v) (S:List (PV U)) (q:ao) (h:isRow (look S q)=true):look (dK f S) q=look S q:=by
 unfold look dK at*;rw[get_map (hZ f) S q.1 (kA (hf _ rfl))];exact uF hf q.2 _ h
theorem fj {U:gm} (S:List (PV U)) (d:Nat) (v:PV U) (t:Nat):get (S.set d v) t=if d=t∧d<S.length then v else get S t:=by
 unfold get;rw[List.getD_eq_getElem?_getD,List.getD_eq_getElem?_getD,List.getElem?_set]
 by_cases h:d=t
 ·subst h
  by_cases hl:d<S.length
  ·simp[hl]
  ·simp[hl]
 ·simp[h]
theorem kI {U:gm} (S:List (PV U)) (d:Nat) (v:PV U) (q:ao) (h:q.1≠d):look (S.set d v) q=look S q:=by
 unfold look;rw[fj,if_neg (fun e=>h e.1.symm)]
theorem get_some {U:gm} {S:List (PV U)} {t:Nat} {v:PV U} (h:S[t]? =some v):get S t=v:=by
 unfold get;rw[List.getD_eq_getElem?_getD,h];rfl
theorem some_get {U:gm} {S:List (PV U)} {t:Nat} (h:get S t≠ .undef):S[t]? =some (get S t):=by
 unfold get at*;rw[List.getD_eq_getElem?_getD]at*;cases hs:S[t]? with
 | none=>rw[hs]at h;exact absurd rfl h
 | some v=>rfl
end Go.Proofs.YtmapddgocpkgeaaGreat.aa
namespace Go.Proofs.YtmapddgocpkgeaaGreat.aa
open Go.RowKit
set_option linter.unusedVariables false
variable {C:Ctx}
def aQ {U:gm}:PV U→Bool
 | .agg _=>false
 | .box _=>false
 | .gG _=>false
 | _=>true
theorem vG {U:gm} {v:PV U} (h:isRow v=true):aQ v=true:=by cases v<;>first | rfl | simp[isRow]at h
theorem sJ {U:gm} {v:PV U} (h:aQ v=true) (i:Nat) (p:List Nat):bc (i::p) v= .undef:=by cases v<;>first | rfl | simp[aQ]at h
def ig {U:gm}:List Nat→PV U→Prop
 | [],s=>aQ s=true
 | i::p,.agg ls=>∃x,ls[i]? =some x∧ig p x
 | i::p,.box ls=>∃x,ls[i]? =some x∧ig p x
 | i::p,.gG ls=>∃x,ls[i]? =some x∧ig p x
 | _,_=>False
def fN {U:gm} (S:List (PV U)) (q:ao):Prop:=∃s,S[q.1]? =some s∧ig q.2 s
theorem CB {U:gm}:∀(p:List Nat) (s:PV U),aQ (bc p s)=true→bc p s≠ .undef→ig p s:=by
 intro p
 induction p with
 | nil=>intro s hl _;exact hl
 | cons i p ih=>
   intro s hl hu
   have key:∀ls:List (PV U),aQ (bc p (get ls i))=true→bc p (get ls i)≠ .undef→∃x,ls[i]? =some x∧ig p x:=fun ls h1 h2=>
    have hi:get ls i≠ .undef:=fun e=>h2 (by rw[e];exact gf p)
    ⟨_,some_get hi,ih _ h1 h2⟩
   cases s with
   | agg ls=>exact key ls hl hu
   | box ls=>exact key ls hl hu
   | gG ls=>exact key ls hl hu
   | _=>exact absurd rfl hu
theorem tW {U:gm} {S:List (PV U)} {q:ao} (hl:aQ (look S q)=true) (hu:look S q≠ .undef):fN S q:=
 have hi:get S q.1≠ .undef:=fun e=>hu (by unfold look;rw[e];exact gf _)
 ⟨_,some_get hi,CB _ _ hl hu⟩
theorem cc {U:gm} {S:List (PV U)} {q:ao} (h:isRow (look S q)=true):fN S q:=tW (vG h) (fun e=>by rw[e]at h;simp[isRow]at h)
theorem BC {U:gm}:∀(p:List Nat) (s:PV U),ig p s→aQ (bc p s)=true:=by
 intro p
 induction p with
 | nil=>intro s h;exact h
 | cons i p ih=>
   intro s h;cases s with
   | agg ls=>obtain⟨x,hx,h⟩:=h;simp only[bc];rw[get_at hx];exact ih x h
   | box ls=>obtain⟨x,hx,h⟩:=h;simp only[bc];rw[get_at hx];exact ih x h
   | gG ls=>obtain⟨x,hx,h⟩:=h;simp only[bc];rw[get_at hx];exact ih x h
   | _=>exact h.elim
theorem fN.leaf {U:gm} {S:List (PV U)} {q:ao} (h:fN S q):aQ (look S q)=true:=by
 obtain⟨s,hs,h⟩:=h;unfold look;rw[get_some hs];exact BC _ _ h
theorem Ae {U:gm} (v:PV U) (hv:aQ v=true) (p:List Nat):∀(p':List Nat) (s:PV U),ig p s→ig p' s→ig p' (gN v p s):=by
 induction p with
 | nil=>
   intro p' s h h';cases p' with
   | nil=>exact hv
   | cons i p'=>cases s<;>first | exact h'.elim | simp[ig,aQ]at h
 | cons i p ih=>
   intro p' s h h'
   have key:∀(ls:List (PV U)) (i':Nat) (p'':List Nat),(∃x,ls[i]? =some x∧ig p x)→(∃x,ls[i']? =some x∧ig p'' x)→∃x,(ls.set i (gN v p (get ls i)))[i']? =some x∧ig p'' x:=by
    rintro ls i' p'' ⟨x,hx,ho⟩ ⟨y,hy,ho'⟩
    rw[List.getElem?_set]
    by_cases e:i=i'
    ·subst e;rw[hx]at hy;obtain rfl:=Option.some.inj hy;have hlt:i<ls.length:=(List.getElem?_eq_some_iff.1 hx).1;exact⟨_,by rw[if_pos rfl,if_pos hlt,get_at hx],ih p'' x ho ho'⟩
    ·exact⟨y,by rw[if_neg e];exact hy,ho'⟩
   cases p' with
   | nil=>cases s<;>first | exact h.elim | simp[ig,aQ]at h'
   | cons i' p''=>
     cases s with
     | agg ls=>exact key ls i' p'' h h'
     | box ls=>exact key ls i' p'' h h'
     | gG ls=>exact key ls i' p'' h h'
     | _=>exact h.elim
theorem fN.put {U:gm} {S:List (PV U)} {q q':ao} (v:PV U) (hv:aQ v=true) (h:fN S q) (h':fN S q'):fN (put S q v) q':=by
 obtain⟨s,hs,h⟩:=h;obtain⟨s',hs',h'⟩:=h';unfold aa.put;have hlt:q.1<S.length:=(List.getElem?_eq_some_iff.1 hs).1
 by_cases e:q.1=q'.1
 ·rw[←e,hs]at hs';obtain rfl:=Option.some.inj hs';exact⟨_,by rw[←e,List.getElem?_set,if_pos rfl,if_pos hlt,get_some hs],Ae v hv q.2 q'.2 s h h'⟩
 ·exact⟨s',by rw[List.getElem?_set,if_neg e];exact hs',h'⟩
theorem s6 {A:ao→Value→Prop} {X:Nat→Nat→Prop} {w:World} {N B:Nat→Prop} {v:C.PV} {c:Value} (h:aJ C A X w N B v c):aQ v=true:=by cases v<;>first | rfl | exact h.elim
theorem mR {U:gm} {s:PV U} {p:List Nat} (h:aQ s=true) (ho:ig p s):p=[]:=by
 cases p with
 | nil=>rfl
 | cons i p=>cases s<;>first | exact ho.elim | simp[aQ]at h
theorem fe.put {A:ao→Value→Prop} {X:Nat→Nat→Prop} {w:World} {N:Nat→Prop} {Bs:Nat→Nat→Prop} {ls:List C.PV} {cs:Array Value} (h:fe C A X w N Bs ls cs) (i:Nat) (v:C.PV) (hv:∀c',cs[i]? =some c'→aJ C A X w N (Bs i) v c'):
 fe C A X w N Bs (ls.set i v) cs:=by
 refine⟨by rw[List.length_set];exact h.1,fun j x hj=> ?_⟩;rw[List.getElem?_set]at hj
 by_cases e:i=j
 ·subst e;rw[if_pos rfl]at hj;split at hj
  ·rename_i hlt;obtain rfl:=Option.some.inj hj;have hc:i<cs.size:=by rw[h.1];exact hlt
   exact⟨cs[i],Array.getElem?_eq_getElem hc,hv _ (Array.getElem?_eq_getElem hc)⟩
  ·cases hj
 ·rw[if_neg e]at hj;exact h.2 j x hj
theorem fe.look {A:ao→Value→Prop} {X:Nat→Nat→Prop} {w:World} {N:Nat→Prop} {Bs:Nat→Nat→Prop} {ls:List C.PV} {cs:Array Value} (h:fe C A X w N Bs ls cs) {i:Nat} {p:List Nat} (ho:∃x,ls[i]? =some x∧ig p x):
 p=[]∧∃u,cs[i]? =some u∧aJ C A X w N (Bs i) (get ls i) u:=by
 obtain⟨x,hx,ho⟩:=ho;obtain⟨u,h1,h2⟩:=h.2 i x hx;exact⟨mR (s6 h2) ho,u,h1,by rw[get_at hx];exact h2⟩
theorem ga.look {A:ao→Value→Prop} {X:Nat→Nat→Prop} {w:World} {N:Nat→Prop} {bs:List Nat→Nat→Prop} {s:C.PV} {c:Value} (h:ga C A X w N bs s c) (p:List Nat) (ho:ig p s):
 ∃c',walk w p c=some c'∧aJ C A X w N (bs p) (bc p s) c':=by
 cases p with
 | nil=>cases s<;>first | exact⟨c,rfl,h⟩ | simp[ig,aQ]at ho
 | cons i p=>
   cases s with
   | agg ls=>
     obtain⟨cs,rfl,ha⟩:=h;obtain⟨rfl,u,h1,h2⟩:=ha.look ho;exact⟨u,by simp[walk,h1],h2⟩
   | box ls=>exact h.elim
   | gG ls=>exact h.elim
   | _=>exact ho.elim
theorem aR.look {A:ao→Value→Prop} {X:Nat→Nat→Prop} {w:World} {N:Nat→Prop} {bs:List Nat→Nat→Prop} {s:C.PV} {c:Value} (h:aR C A X w N bs s c) (p:List Nat) (ho:ig p s):
 ∃c',walk w p c=some c'∧aJ C A X w N (bs p) (bc p s) c':=by
 cases p with
 | nil=>cases s<;>first | exact⟨c,rfl,h⟩ | simp[ig,aQ]at ho
 | cons i p=>
   cases s with
   | agg ls=>
     obtain⟨cs,rfl,ha⟩:=h;obtain⟨rfl,u,h1,h2⟩:=ha.look ho;exact⟨u,by simp[walk,h1],h2⟩
   | box ls=>
     obtain⟨b,cs,ty,rfl,hb,hh,ha⟩:=h;obtain⟨rfl,u,h1,h2⟩:=ha.look ho;exact⟨u,by simp[walk,World.cell?,hh,h1],h2⟩
   | gG vs=>
     obtain⟨cs,rfl,hs,ha⟩:=h;obtain⟨x,hx,ho⟩:=ho;obtain⟨u,h1,h2⟩:=ha i x hx;obtain⟨c',h3,h4⟩:=h2.look p ho;exact⟨c',by simp[walk,h1,h3],by simp only[bc];rw[get_at hx];exact h4⟩
   | _=>exact ho.elim
theorem ga.put {A:ao→Value→Prop} {X:Nat→Nat→Prop} {w:World} {N:Nat→Prop} {bs:List Nat→Nat→Prop} {s:C.PV} {c:Value} (h:ga C A X w N bs s c) (p:List Nat) (v:C.PV) (ho:ig p s)
 (hv:∀c',walk w p c=some c'→aJ C A X w N (bs p) v c'):ga C A X w N bs (gN v p s) c:=by
 cases p with
 | nil=>exact ga.gJ (hv c rfl)
 | cons i p=>
   cases s with
   | agg ls=>
     obtain⟨cs,rfl,ha⟩:=h;obtain⟨rfl,u,h1,h2⟩:=ha.look ho;exact⟨cs,rfl,ha.put i v (fun c' hc=>hv c' (by simp[walk,hc]))⟩
   | box ls=>exact h.elim
   | gG ls=>exact h.elim
   | _=>exact ho.elim
theorem aR.put {A:ao→Value→Prop} {X:Nat→Nat→Prop} {w:World} {N:Nat→Prop} {bs:List Nat→Nat→Prop} {s:C.PV} {c:Value} (h:aR C A X w N bs s c) (p:List Nat) (v:C.PV) (ho:ig p s)
 (hv:∀c',walk w p c=some c'→aJ C A X w N (bs p) v c'):aR C A X w N bs (gN v p s) c:=by
 cases p with
 | nil=>exact aR.gJ (hv c rfl)
 | cons i p=>
   cases s with
   | agg ls=>
     obtain⟨cs,rfl,ha⟩:=h;obtain⟨rfl,u,h1,h2⟩:=ha.look ho;exact⟨cs,rfl,ha.put i v (fun c' hc=>hv c' (by simp[walk,hc]))⟩
   | box ls=>
     obtain⟨b,cs,ty,rfl,hb,hh,ha⟩:=h;obtain⟨rfl,u,h1,h2⟩:=ha.look ho;exact⟨b,cs,ty,rfl,hb,hh,ha.put i v (fun c' hc=>hv c' (by simp[walk,World.cell?,hh,hc]))⟩
   | gG vs=>
     obtain⟨cs,rfl,hs,ha⟩:=h;obtain⟨x,hx,ho⟩:=ho;have hlt:i<vs.length:=(List.getElem?_eq_some_iff.1 hx).1;refine⟨cs,rfl,by rw[List.length_set];exact hs,fun j y hj=> ?_⟩;rw[List.getElem?_set]at hj
     by_cases e:i=j
     ·subst e;rw[if_pos rfl,if_pos hlt,get_at hx]at hj;obtain rfl:=Option.some.inj hj;obtain⟨u,h1,h2⟩:=ha i x hx;exact⟨u,h1,h2.put p v ho (fun c' hc=>hv c' (by simp[walk,h1,hc]))⟩
     ·rw[if_neg e]at hj;exact ha j y hj
   | _=>exact ho.elim
theorem vT {U:gm} (v:PV U):∀(p p':List Nat) (s:PV U),aQ (bc p s)=true→isRow (bc p' s)=true→p'≠p→bc p' (gN v p s)=bc p' s:=by
 intro p
 induction p with
 | nil=>
   intro p' s hl hr hne;cases p' with
   | nil=>exact absurd rfl hne
   | cons i p'=>rw[sJ (v:=s) hl]at hr;simp[isRow]at hr
 | cons i p ih=>
   intro p' s hl hr hne;cases p' with
   | nil=>cases s<;>first | rfl | simp[bc,isRow]at hr
   | cons i' p'=>
     have key:∀ls:List (PV U),aQ (bc p (get ls i))=true→isRow (bc p' (get ls i'))=true→bc p' (get (ls.set i (gN v p (get ls i))) i')=bc p' (get ls i'):=by
      intro ls h1 h2;rw[fj]
      by_cases e:i=i'
      ·subst e
       by_cases hlt:i<ls.length
       ·rw[if_pos ⟨rfl,hlt⟩];exact ih p' _ h1 h2 (fun e=>hne (by rw[e]))
       ·rw[if_neg (fun h=>hlt h.2)]
      ·rw[if_neg (fun h=>e h.1)]
     cases s with
     | agg ls=>exact key ls hl hr
     | box ls=>exact key ls hl hr
     | gG ls=>exact key ls hl hr
     | _=>simp[bc,isRow]at hr
theorem tp {U:gm} (v:PV U):∀(p:List Nat) (s:PV U),ig p s→bc p (gN v p s)=v:=by
 intro p
 induction p with
 | nil=>intro s _;rfl
 | cons i p ih=>
   intro s hu
   have key:∀ls:List (PV U),(∃x,ls[i]? =some x∧ig p x)→bc p (get (ls.set i (gN v p (get ls i))) i)=v:=by
    rintro ls ⟨x,hx,h1⟩
    rw[fj,if_pos ⟨rfl,(List.getElem?_eq_some_iff.1 hx).1⟩,get_at hx];exact ih _ h1
   cases s with
   | agg ls=>exact key ls hu
   | box ls=>exact key ls hu
   | gG ls=>exact key ls hu
   | _=>exact hu.elim
theorem jQ {U:gm} (S:List (PV U)) (q q':ao) (v:PV U) (hl:aQ (look S q)=true) (hr:isRow (look S q')=true) (hne:q'≠q):look (put S q v) q'=look S q':=by
 unfold look put at*;rw[fj]
 by_cases e:q.1=q'.1
 ·by_cases hlt:q.1<S.length
  ·rw[if_pos ⟨e,hlt⟩];rw[←e]at hr⊢;refine vT v q.2 q'.2 _ hl hr (fun h=>hne (Prod.ext e.symm h))
  ·rw[if_neg (fun h=>hlt h.2)]
 ·rw[if_neg (fun h=>e h.1)]
theorem fr {U:gm} (S:List (PV U)) (q:ao) (v:PV U) (ho:fN S q):look (put S q v) q=v:=by
 obtain⟨s,hs,ho⟩:=ho;unfold look put;rw[fj,if_pos ⟨rfl,(List.getElem?_eq_some_iff.1 hs).1⟩,get_some hs];exact tp v q.2 _ ho
theorem wY {U:gm} (v:PV U) (p:List Nat) (s:PV U) (ho:ig p s) (ls:List (PV U)) (h:s= .box ls):∃ls',gN v p s= .box ls':=by
 subst h;cases p with
 | nil=>simp[ig,aQ]at ho
 | cons i p=>exact⟨_,rfl⟩
theorem eH.dK {A A':ao→Value→Prop} {X X':Nat→Nat→Prop} {B:fK} {S:St C} {V:Nat→Value} {w:World} {N:Nat→Prop} {bs:ao→Nat→Prop} (h:eH C A X B S V w N bs) (f:C.PV→C.PV)
 (hf:∀(B:Nat→Prop) x c,aJ C A X w N B x c→aJ C A' X' w N B (f x) c):eH C A' X' B (dK f S) V w N bs where
 fo t v hv:=by
  unfold aa.dK at hv;rw[List.getElem?_map]at hv;cases hs:S[t]? with
  | none=>rw[hs]at hv;cases hv
  | some s=>
    rw[hs]at hv;obtain rfl:=Option.some.inj hv;exact(h.fo t s hs).map (fun p x c _ hr=>hf _ x c hr) (fun b _ hb=>⟨hb,rfl⟩)
 km:=h.km
 own:=h.own
 kd:=h.kd
 kept:=h.kept
theorem eH.mono {A A':ao→Value→Prop} {X X':Nat→Nat→Prop} {B:fK} {S:St C} {V:Nat→Value} {w:World} {N:Nat→Prop} {bs:ao→Nat→Prop} (h:eH C A X B S V w N bs) (hA:∀q c,A q c→A' q c) (hX:∀t b,X t b→X' t b):eH C A' X' B S V w N bs where
 fo t v hv:=(h.fo t v hv).move (fun p x c _ hr=>hr.move hA hX (fun _ _=>rfl) (fun _ _ _ _ _ _=>rfl) (fun _ h=>h) (fun _ h=>h)) (fun b _ hb=>⟨hb,rfl⟩)
 km:=h.km
 own:=h.own
 kd:=h.kd
 kept:=h.kept
theorem eH.set {A:ao→Value→Prop} {X:Nat→Nat→Prop} {B:fK} {S:St C} {V V':Nat→Value} {w:World} {N:Nat→Prop} {bs:ao→Nat→Prop} (h:eH C A X B S V w N bs) (d:Nat) (v:C.PV) (hV:∀t,t≠d→V' t=V t) (hv:aR C A X w N (fun p=>bs (d,p)) v (V' d)):eH C A X B (S.set d v) V' w N bs where
 fo t x hx:=by
  rw[List.getElem?_set]at hx
  by_cases e:d=t
  ·subst e;rw[if_pos rfl]at hx;split at hx
   ·obtain rfl:=Option.some.inj hx;exact hv
   ·cases hx
  ·rw[if_neg e]at hx;rw[hV t (fun h=>e h.symm)];exact h.fo t x hx
 km:=h.km
 own:=h.own
 kd:=h.kd
 kept:=h.kept
theorem eH.look {A:ao→Value→Prop} {X:Nat→Nat→Prop} {B:fK} {S:St C} {V:Nat→Value} {w:World} {N:Nat→Prop} {bs:ao→Nat→Prop} (h:eH C A X B S V w N bs) (q:ao) (ho:fN S q):
 ∃c,jf V w q=some c∧aJ C A X w N (bs q) (aa.look S q) c:=by
 obtain⟨s,hs,ho⟩:=ho;have:=(h.fo q.1 s hs).look q.2 ho;unfold aa.look;rw[get_some hs];exact this
theorem eH.put {A:ao→Value→Prop} {X:Nat→Nat→Prop} {B:fK} {S:St C} {V:Nat→Value} {w:World} {N:Nat→Prop} {bs:ao→Nat→Prop} (h:eH C A X B S V w N bs) (q:ao) (v:C.PV) (ho:fN S q)
 (hv:∀c,jf V w q=some c→aJ C A X w N (bs q) v c):eH C A X B (aa.put S q v) V w N bs:=by
 obtain⟨s,hs,ho⟩:=ho;refine h.set q.1 _ (fun _ _=>rfl) ?_;rw[get_some hs];exact(h.fo q.1 s hs).put q.2 v ho hv
theorem eH.zJ {A:ao→Value→Prop} {X:Nat→Nat→Prop} {B:fK} {S:St C} {V:Nat→Value} {w:World} {N N':Nat→Prop} {bs bs':ao→Nat→Prop} (h:eH C A X B S V w N bs)
 (hb:∀q,bs' q=bs q∨(aQ (aa.look S q)=true∧∀dp e xs,aa.look S q≠ .own dp e xs)) (hN:∀b,N b→N' b) (km:∀r r' b,bs' r b→bs' r' b→r=r') (own:∀r b,bs' r b→¬N' b∧b<w.heap.size∧(B.M b∨B.w.heap.size≤b)) (kd:∀b,N' b→b<w.heap.size∧(B.N b∨B.M b∨B.w.heap.size≤b)):eH C A X B S V w N' bs' where
 fo t v hv:=by
  have hg:=get_some hv;refine(h.fo t v hv).move (fun p x c hx hr=> ?_) (fun b hbx h0=> ?_)
  ·rcases hb (t,p)with e | ⟨_,e⟩
   ·rw[e];exact hr.move (fun _ _ h=>h) (fun _ _ h=>h) (fun _ _=>rfl) (fun _ _ _ _ _ _=>rfl) hN (fun _ h=>h)
   ·have hr':∀(B':Nat→Prop),(∀dp ty xs,x≠ .own dp ty xs)→aJ C A X w N B' x c:=fun B' hne=>by
     cases x with
     | own dp ty xs=>exact absurd rfl (hne dp ty xs)
     | _=>exact hr
    have hx':aa.look S (t,p)=x:=by unfold aa.look;simp only[hg];exact hx
    exact(hr' (bs' (t,p)) (fun dp ty xs e'=>e dp ty xs (hx'.trans e'))).move (fun _ _ h=>h) (fun _ _ h=>h) (fun _ _=>rfl) (fun _ _ _ _ _ _=>rfl) hN (fun _ h=>h)
  ·rcases hb (t,[])with e | ⟨e,_⟩
   ·exact⟨by rw[e];exact h0,rfl⟩
   ·obtain⟨ls,rfl⟩:=hbx;unfold aa.look at e;simp only[hg,bc,aQ]at e;cases e
 km:=km
 own:=own
 kd:=kd
 kept:=h.kept
theorem Cb {V V':Nat→Value} {d:Nat} (hV:∀t,t≠d→V' t=V t) (w:World) (q:ao) (h:q.1≠d):jf V' w q=jf V w q:=by unfold jf;rw[hV _ h]
theorem gX {U:gm} {f:PV U→PV U} (hf:∀v,stays v=true→f v=v) {S:List (PV U)} {t:Nat} {ls:List (PV U)} (h:get S t= .box ls):get (dK f S) t= .box (ls.map f):=by
 unfold dK;rw[get_map _ _ _ (kA (hf _ rfl)),h];rfl
theorem Rel.clear {B:fK} {S:St C} {V V':Nat→Value} {w:World} {N:Nat→Prop} {bs:ao→Nat→Prop} (h:Rel C B S V w N bs) (d:Nat) (hV:∀t,t≠d→V' t=V t):Rel C B (aa.clear S d) V' w N bs:=by
 have h1:=eH.dK h (forget (fun r=>r.1==d) (fun t=>t==d)) (fun B x c hr=>hr.forget _ _);have h2:=h1.set d .undef hV trivial;refine h2.mono (fun q c hq=> ?_) (fun t b ht=> ?_)
 ·obtain⟨⟨hr,hc⟩,hd⟩:=hq;have hne:q.1≠d:=by simpa using hd
  refine⟨?_,by rw[Cb hV w q hne];exact hc⟩;unfold aa.clear;rw[kI _ _ _ _ hne,gU (fun v hv=>gO _ _ hv) S q hr];exact hr
 ·obtain⟨⟨⟨ls,hg⟩,hv⟩,hd⟩:=ht;have hne:t≠d:=by simpa using hd
  refine⟨⟨ls.map (forget (fun r=>r.1==d) (fun t=>t==d)),?_⟩,by rw[hV t hne];exact hv⟩;unfold aa.clear;rw[fj,if_neg (fun e=>hne e.1.symm)];exact gX (fun v hv=>gO _ _ hv) hg
theorem bL.yr {S:St C} {V:Nat→Value} {w:World} {q:ao} {c:Value} {d:Nat} (h:bL C S V w q c) (hd:get S d= .undef):q.1≠d:=by
 rintro rfl
 obtain⟨hr,_⟩:=h;unfold look at hr;rw[hd,gf]at hr;simp[isRow]at hr
theorem Rel.fill {B:fK} {S:St C} {V:Nat→Value} {w:World} {N:Nat→Prop} {bs:ao→Nat→Prop} (h:Rel C B S V w N bs) (d:Nat) (v:C.PV) (hd:get S d= .undef) (hv:aR C (bL C S V w) (cL C S V) w N (fun p=>bs (d,p)) v (V d)):Rel C B (S.set d v) V w N bs:=by
 have h2:=eH.set h d v (fun _ _=>rfl) hv;refine h2.mono (fun q c hq=> ?_) (fun t b ht=> ?_)
 ·refine⟨?_,hq.2⟩;rw[kI _ _ _ _ (hq.yr hd)];exact hq.1
 ·obtain⟨⟨ls,hg⟩,hv⟩:=ht;refine⟨⟨ls,?_⟩,hv⟩;rw[fj,if_neg (fun e=>by rw[←e.1,hd]at hg;cases hg)];exact hg
theorem bL.put {S:St C} {V:Nat→Value} {w:World} {q p:ao} {c:Value} {v:C.PV} (h:bL C S V w p c) (ho:fN S q) (hv:p=q→isRow v=true):bL C (aa.put S q v) V w p c:=by
 refine⟨?_,h.2⟩
 by_cases e:p=q
 ·subst e;rw[fr S p v ho];exact hv rfl
 ·rw[jQ S q p v ho.leaf h.1 e];exact h.1
theorem cL.put {S:St C} {V:Nat→Value} {t b:Nat} {q:ao} (v:C.PV) (h:cL C S V t b) (ho:fN S q):cL C (aa.put S q v) V t b:=by
 obtain⟨⟨ls,hg⟩,hv⟩:=h;refine⟨?_,hv⟩;unfold aa.put;rw[fj];split
 ·rename_i e;obtain⟨s,hs,ho⟩:=ho;rw[e.1]at hs⊢;rw[get_some hs]at hg⊢;exact wY v q.2 s ho ls hg
 ·exact⟨ls,hg⟩
theorem kj.Co {w:World} {B N:Nat→Prop} {e:TypeId} {xs:List (C.U.T e)} {c:Value} (h:kj C w B e xs c) (hB:∀b,B b→N b):gC C w N (.sl e xs) c:=by
 rcases h with⟨rfl,rfl⟩ | ⟨b,cap,cur,rfl,hb,hh,h1,h2,h3,h4⟩
 ·exact .nil e none 0
 ·refine .sl e xs b 0 cap (fun j i=>cur.getD (j*C.sz e+i) undef) (hB b hb) h1 (fun j x hx i v hi=> ?_) (fun j x hx i v hi=> ?_)
  ·obtain⟨u,hu,_⟩:=h4 j x hx i v hi;simp[World.cell?,hh,hu,Array.getD_eq_getD_getElem?]
  ·obtain⟨u,hu,hv⟩:=h4 j x hx i v hi;have:cur.getD (j*C.sz e+i) undef=u:=by simp[Array.getD_eq_getD_getElem?,hu]
   rw[this];exact hv.mono (fun _ h=>h.elim) (fun _ h=>h.elim)
theorem nI.Co {w:World} {N N' B:Nat→Prop} {dp:Bool} {v:C.PV} {c:Value} (h:nI C w N B dp v c) (hN:∀b,N b→N' b) (hB:∀b,B b→N' b):gC C w N' v c:=by
 cases dp with
 | false=>exact gC.mono h (fun _ _=>rfl) hN
 | true=>cases v with
   | sl e xs=>exact kj.Co h hB
   | _=>exact gC.mono h (fun _ _=>rfl) hN
theorem fk.Co {w:World} {N N' B:Nat→Prop} {dp:Bool} {e:TypeId} {xs:List (C.U.T e)} {c:Value} (h:fk C w N B dp e xs c) (hN:∀b,N b→N' b) (hB:∀b,B b→N' b):gC C w N' (.sl e xs) c:=by
 rcases h with⟨rfl,rfl⟩ | ⟨b,cap,cur,lab,rfl,hb,hl,hh,h1,h2,h3,h4⟩
 ·exact .nil e none 0
 ·refine .sl e xs b 0 cap (fun j i=>cur.getD (j*C.sz e+i) undef) (hB b hb) h1 (fun j x hx i v hi=> ?_) (fun j x hx i v hi=> ?_)
  ·obtain⟨u,hu,_⟩:=h4 j x hx i v hi;simp[World.cell?,hh,hu,Array.getD_eq_getD_getElem?]
  ·obtain⟨u,hu,hv⟩:=h4 j x hx i v hi;have:cur.getD (j*C.sz e+i) undef=u:=by simp[Array.getD_eq_getD_getElem?,hu]
   rw[this];exact hv.Co hN (fun b hb=>hB b hb.1)
theorem ik {U:gm} {S:List (PV U)} {q:ao} {dp:Bool} {e:TypeId} {xs:List (U.T e)} (h:look S q= .own dp e xs):isRow (look S q)=true:=by rw[h];rfl
theorem AI {U:gm} (S:List (PV U)) (q:ao) (u v:PV U) (ho:fN S q):put (put S q u) q v=put S q v:=by
 obtain⟨s,hs,ho⟩:=ho;have hlt:q.1<S.length:=(List.getElem?_eq_some_iff.1 hs).1
 have key:∀(p:List Nat) (s:PV U),ig p s→gN v p (gN u p s)=gN v p s:=by
  intro p
  induction p with
  | nil=>intro s _;rfl
  | cons i p ih=>
    intro s ho
    have k2:∀ls:List (PV U),(∃x,ls[i]? =some x∧ig p x)→(ls.set i (gN u p (get ls i))).set i (gN v p (get (ls.set i (gN u p (get ls i))) i))=ls.set i (gN v p (get ls i)):=by
     rintro ls ⟨x,hx,h1⟩
     rw[fj,if_pos ⟨rfl,(List.getElem?_eq_some_iff.1 hx).1⟩,List.set_set,get_at hx,ih x h1]
    cases s with
    | agg ls=>simp only[gN];rw[k2 ls ho]
    | box ls=>simp only[gN];rw[k2 ls ho]
    | gG ls=>simp only[gN];rw[k2 ls ho]
    | _=>exact ho.elim
 unfold aa.put;rw[fj,if_pos ⟨rfl,hlt⟩,List.set_set,get_some hs,key q.2 s ho]
theorem Rel.xW {B:fK} {S:St C} {V:Nat→Value} {w:World} {N:Nat→Prop} {bs:ao→Nat→Prop} (h:Rel C B S V w N bs) (q:ao):
 ∃N' bs',Rel C B (aa.xW S q) V w N' bs'∧(∀b,N b→N' b)∧(∀r b,bs' r b→bs r b)∧(∀b,N' b→N b∨bs q b)∧(∀b,(∃dp e xs,look S q= .own dp e xs)→bs q b→N' b)∧∀r b,r≠q→bs r b→bs' r b:=by
 unfold aa.xW;split
 ·rename_i dp e xs hq;have hr:=ik hq;have ho:=cc hr;obtain⟨c,hc,hrep⟩:=eH.look h q ho;rw[hq]at hrep;have hrep:fk C w N (bs q) dp e xs c:=hrep
  let N':Nat→Prop:=fun b=>N b∨bs q b
  let bs':ao→Nat→Prop:=fun r b=>bs r b∧r≠q
  have h1:=eH.put h q .undef ho (fun _ _=>trivial);have ho1:fN (aa.put S q .undef) q:=ho.put .undef rfl ho
  have h2:eH C (bL C S V w) (cL C S V) B (aa.put S q .undef) V w N' bs':=by
   refine h1.zJ (fun r=> ?_) (fun _ h=> .inl h) (fun r r' b hb hb'=>h.km r r' b hb.1 hb'.1) (fun r b hb=> ?_) (fun b hb=> ?_)
   ·by_cases e:r=q
    ·right
     subst e;rw[fr S r .undef ho];exact⟨rfl,fun _ _ _ h=>by cases h⟩
    ·left
     funext b;simp[bs',e]
   ·obtain⟨a1,a2,a3⟩:=h.own r b hb.1;exact⟨fun hn=>hn.elim a1 (fun hn=>hb.2 (h.km r q b hb.1 hn)),a2,a3⟩
   ·rcases hb with hb | hb
    ·exact h.kd b hb
    ·obtain⟨a1,a2,a3⟩:=h.own q b hb;exact⟨a2,.inr a3⟩
  have h3:=h2.put q (.sl e xs) ho1 (fun c' hc'=>by
   rw[hc]at hc';obtain rfl:=Option.some.inj hc';exact hrep.Co (fun _ h=> .inl h) (fun _ h=> .inr h))
  rw[AI S q _ _ ho]at h3;refine⟨N',bs',h3.mono (fun p c hp=>hp.put ho (fun _=>rfl)) (fun t b ht=>ht.put _ ho),fun _ h=> .inl h,fun _ _ h=>h.1,fun _ h=>h,fun b _ hb=> .inr hb,fun r b hr hb=>⟨hb,hr⟩⟩
 ·rename_i hne;exact⟨N,bs,h,fun _ h=>h,fun _ _ h=>h,fun _ h=> .inl h,fun b ⟨dp,e,xs,hl⟩ _=>absurd hl (hne dp e xs),fun _ _ _ h=>h⟩
end Go.Proofs.YtmapddgocpkgeaaGreat.aa
namespace Go.Proofs.YtmapddgocpkgeaaGreat.aa
open Go.RowKit
set_option linter.unusedVariables false
variable {C:Ctx}
theorem zm {U:gm} (q r:ao) (v:PV U):aQ (rename q r v)=aQ v:=by
 cases v<;>first | rfl | (simp only[rename];split<;>rfl)
theorem l8 {U:gm} (p:ao→Bool) (q:Nat→Bool) (v:PV U):aQ (forget p q v)=aQ v:=by
 cases v<;>first | rfl | (simp only[forget];split<;>rfl)
theorem Rel.drop {B:fK} {S:St C} {V:Nat→Value} {w:World} {N:Nat→Prop} {bs:ao→Nat→Prop} (h:Rel C B S V w N bs) (q:ao) (hr:isRow (look S q)=true):
 Rel C B (aa.drop S q) V w N bs:=by
 have h1:=eH.dK h (forget (fun r=>r==q) (fun _=>false)) (fun B x c hr=>hr.forget _ _);have hf:∀v:C.PV,stays v=true→forget (fun r=>r==q) (fun _=>false) v=v:=fun v hv=>gO _ _ hv;have hl:=gU hf S q hr;have ho1:fN (dK (forget (fun r=>r==q) (fun _=>false)) S) q:=cc (by rw[hl];exact hr);have h2:=h1.put q .undef ho1 (fun _ _=>trivial);refine h2.mono (fun p c hp=> ?_) (fun t b ht=> ?_)
 ·obtain⟨⟨hpr,hpc⟩,hne⟩:=hp;have hne:p≠q:=by simpa using hne
  refine bL.put ⟨?_,hpc⟩ ho1 (fun e=>absurd e hne);rw[gU hf S p hpr];exact hpr
 ·obtain⟨⟨⟨ls,hg⟩,hv⟩,_⟩:=ht;exact cL.put _ ⟨⟨_,gX hf hg⟩,hv⟩ ho1
theorem tA {U:gm} (v:PV U):∀(p p':List Nat) (s:PV U),ig p s→isRow (bc p' (gN v p s))=true→p'≠p→aQ v=true→bc p' s=bc p' (gN v p s):=by
 intro p
 induction p with
 | nil=>
   intro p' s ho hr hne hv;cases p' with
   | nil=>exact absurd rfl hne
   | cons i p'=>simp only[gN]at hr;rw[sJ hv]at hr;simp[isRow]at hr
 | cons i p ih=>
   intro p' s ho hr hne hv;cases p' with
   | nil=>cases s<;>first | rfl | exact ho.elim | simp[gN,bc,isRow]at hr
   | cons i' p'=>
     have key:∀ls:List (PV U),(∃x,ls[i]? =some x∧ig p x)→isRow (bc p' (get (ls.set i (gN v p (get ls i))) i'))=true→bc p' (get ls i')=bc p' (get (ls.set i (gN v p (get ls i))) i'):=by
      rintro ls ⟨x,hx,h1⟩ h2
      rw[fj]at h2⊢
      by_cases e:i=i'
      ·subst e;have hlt:i<ls.length:=(List.getElem?_eq_some_iff.1 hx).1;rw[if_pos ⟨rfl,hlt⟩]at h2⊢;rw[get_at hx]at h2⊢;exact ih p' x h1 h2 (fun e=>hne (by rw[e])) hv
      ·rw[if_neg (fun h=>e h.1)]
     cases s with
     | agg ls=>exact key ls ho hr
     | box ls=>exact key ls ho hr
     | gG ls=>exact key ls ho hr
     | _=>exact ho.elim
theorem me {U:gm} (S:List (PV U)) (q q':ao) (v:PV U) (ho:fN S q) (hr:isRow (look (put S q v) q')=true) (hne:q'≠q) (hv:aQ v=true:=by rfl):look S q'=look (put S q v) q':=by
 obtain⟨s,hs,ho⟩:=ho;unfold look put at*;rw[fj]at hr⊢
 by_cases e:q.1=q'.1
 ·have hlt:q.1<S.length:=(List.getElem?_eq_some_iff.1 hs).1;rw[if_pos ⟨e,hlt⟩]at hr⊢;rw[get_some hs]at hr⊢;rw[←e,get_some hs];exact tA v q.2 q'.2 s ho hr (fun h=>hne (Prod.ext e.symm h)) hv
 ·rw[if_neg (fun h=>e h.1)]
theorem Rel.world {B:fK} {S:St C} {V:Nat→Value} {w w':World} {N:Nat→Prop} {bs:ao→Nat→Prop} (h:Rel C B S V w N bs) (hw:∀b,b<w.heap.size→w'.heap[b]? =w.heap[b]?) (hs:w.heap.size≤w'.heap.size) (hk:Kept B w'):Rel C B S V w' N bs:=by
 have hb:∀b,N b∨(∃r,bs r b)→w'.heap[b]? =w.heap[b]? :=fun b hb=>hw b (hb.elim (fun hn=>(h.kd b hn).1) (fun⟨r,hr⟩=>(h.own r b hr).2.1))
 have hcell:∀a v,w.cell? a=some v→w'.cell? a=some v:=fun a v ha=>by
  rw[cell_of_heap (w:=w) (hw a.block (World.block_lt_of_cell? w a ha))];exact ha
 have hwalk:∀(p:List Nat) (v c:Value),walk w p v=some c→walk w' p v=some c:=by
  intro p
  induction p with
  | nil=>intro v c h;exact h
  | cons i p ih=>
    intro v c hv;cases v with
    | agg cs=>
      simp only[walk]at hv⊢;cases hc:cs[i]? with
      | none=>rw[hc]at hv;cases hv
      | some u=>rw[hc]at hv;exact ih u c hv
    | tuple cs=>
      simp only[walk]at hv⊢;cases hc:cs[i]? with
      | none=>rw[hc]at hv;cases hv
      | some u=>rw[hc]at hv;exact ih u c hv
    | pointer a=>
      cases a with
      | none=>simp[walk]at hv
      | some a=>
        simp only[walk]at hv⊢;cases hc:w.cell? ⟨a.block,i,none⟩with
        | none=>rw[hc]at hv;cases hv
        | some u=>rw[hc]at hv;rw[hcell _ _ hc];exact ih u c hv
    | _=>simp[walk]at hv
 have hlt:∀q b n cap,bL C S V w q (.slice (some ⟨b,0,none⟩) n cap)→w'.heap[b]? =w.heap[b]? ∨w.heap[b]? =none:=fun q b n cap _=>by
  rcases Nat.lt_or_ge b w.heap.size with hl | hl
  ·exact .inl (hw b hl)
  ·exact .inr (Array.getElem?_eq_none hl)
 refine⟨fun t v hv=>(h.fo t v hv).move (fun p x c _ hr=> ?_) (fun b _ hb0=>⟨hb0,hb b (.inr ⟨_,hb0⟩)⟩),h.km,fun r b hb0=> ?_,fun b hn=> ?_,hk⟩
 ·
   have hA:∀q c,bL C S V w q c→bL C S V w' q c:=fun q c hq=>⟨hq.1,hwalk _ _ _ hq.2⟩;cases x with
   | kB q e i off=>
     obtain⟨b,n,cap,ha,hi,hc⟩:=hr;exact⟨b,n,cap,hA _ _ ha,hi,hcell _ _ hc⟩
   | undef=>trivial
   | void=>exact hr
   | int k n=>exact hr
   | bool b=>exact hr
   | str s=>exact hr
   | agg ls=>exact hr
   | box ls=>exact hr
   | gG ls=>exact hr
   | own dp e xs=>exact fk.move hr (fun b hb'=>hb b (hb'.imp id (fun h=>⟨_,h⟩))) (fun _ h=>h) (fun _ h=>h)
   | sl e xs=>exact gC.mono hr (fun b hb'=>hb b (.inl hb')) (fun _ h=>h)
   | iV q=>exact hA _ _ hr
   | ptr t off=>exact hr
   | nR q e i off=>obtain⟨b,n,cap,ha,hi,hc⟩:=hr;exact⟨b,n,cap,hA _ _ ha,hi,hc⟩
   | vw q e i off=>obtain⟨b,n,cap,ha,hi,hc⟩:=hr;exact⟨b,n,cap,hA _ _ ha,hi,hc⟩
   | rd x off=>
     obtain⟨b,o,hb0,hc,hl⟩:=hr;exact⟨b,o,hb0,hc,fun i v hi=>let⟨u,h1,h2⟩:=hl i v hi;⟨u,hcell _ _ h1,h2.mono (fun b hb'=>hb b (.inl hb')) (fun _ h=>h)⟩⟩
   | fn f caps=>exact hr
 ·obtain⟨a1,a2,a3⟩:=h.own r b hb0;exact⟨a1,Nat.lt_of_lt_of_le a2 hs,a3⟩
 ·obtain⟨a1,a2⟩:=h.kd b hn;exact⟨Nat.lt_of_lt_of_le a1 hs,a2⟩
theorem tG {A:ao→Value→Prop} {X:Nat→Nat→Prop} {w:World} {N:Nat→Prop} {bs:List Nat→Nat→Prop} {f:C.PV→C.PV} (hf:∀v,stays v=true→f v=v) (hl:∀v,aQ (f v)=aQ v) {s:C.PV} {c:Value} (h:ga C A X w N bs s c) (p:List Nat) (ho:ig p s):
 bc p (iJ f s)=f (bc p s)∧ig p (iJ f s):=by
 cases p with
 | nil=>cases s<;>first | exact⟨rfl,(hl _).trans ho⟩ | simp[ig,aQ]at ho
 | cons i p=>
   cases s with
   | agg ls=>
     obtain⟨cs,rfl,ha⟩:=h;obtain⟨rfl,u,h1,h2⟩:=ha.look ho;obtain⟨x,hx,hox⟩:=ho;exact⟨by simp only[iJ,bc];exact get_map f ls i (hf _ rfl),f x,by rw[List.getElem?_map,hx];rfl,(hl x).trans hox⟩
   | box ls=>exact h.elim
   | gG ls=>exact h.elim
   | _=>exact ho.elim
theorem tn {A:ao→Value→Prop} {X:Nat→Nat→Prop} {w:World} {N:Nat→Prop} {bs:List Nat→Nat→Prop} {f:C.PV→C.PV} (hf:∀v,stays v=true→f v=v) (hl:∀v,aQ (f v)=aQ v) {s:C.PV} {c:Value} (h:aR C A X w N bs s c) (p:List Nat) (ho:ig p s):
 bc p (hZ f s)=f (bc p s)∧ig p (hZ f s):=by
 cases p with
 | nil=>cases s<;>first | exact⟨rfl,(hl _).trans ho⟩ | simp[ig,aQ]at ho
 | cons i p=>
   cases s with
   | agg ls=>
     obtain⟨cs,rfl,ha⟩:=h;obtain⟨rfl,u,h1,h2⟩:=ha.look ho;obtain⟨x,hx,hox⟩:=ho;exact⟨by simp only[hZ,bc];exact get_map f ls i (hf _ rfl),f x,by rw[List.getElem?_map,hx];rfl,(hl x).trans hox⟩
   | box ls=>
     obtain⟨b,cs,ty,rfl,hb,hh,ha⟩:=h;obtain⟨rfl,u,h1,h2⟩:=ha.look ho;obtain⟨x,hx,hox⟩:=ho;exact⟨by simp only[hZ,bc];exact get_map f ls i (hf _ rfl),f x,by rw[List.getElem?_map,hx];rfl,(hl x).trans hox⟩
   | gG vs=>
     obtain⟨cs,rfl,hs,ha⟩:=h;obtain⟨x,hx,hox⟩:=ho;obtain⟨u,h1,h2⟩:=ha i x hx;obtain⟨h3,h4⟩:=tG hf hl h2 p hox;exact⟨by simp only[hZ,bc];rw[get_map (iJ f) vs i (by simp[iJ,hf _ (show stays (PV.undef:C.PV)=true from rfl)]),get_at hx];exact h3,iJ f x,by rw[List.getElem?_map,hx];rfl,h4⟩
   | _=>exact ho.elim
theorem eH.kF {A:ao→Value→Prop} {X:Nat→Nat→Prop} {B:fK} {S:St C} {V:Nat→Value} {w:World} {N:Nat→Prop} {bs:ao→Nat→Prop} (h:eH C A X B S V w N bs) {f:C.PV→C.PV} (hf:∀v,stays v=true→f v=v) (hl:∀v,aQ (f v)=aQ v) (q:ao) (ho:fN S q):
 aa.look (aa.dK f S) q=f (aa.look S q)∧fN (aa.dK f S) q:=by
 obtain⟨s,hs,ho⟩:=ho;obtain⟨h1,h2⟩:=tn hf hl (h.fo q.1 s hs) q.2 ho;refine⟨?_,hZ f s,by unfold aa.dK;rw[List.getElem?_map,hs];rfl,h2⟩;unfold aa.look aa.dK;rw[get_map _ _ _ (kA (hf _ rfl)),get_some hs];exact h1
theorem Rel.zk {B:fK} {S S':St C} {V:Nat→Value} {w:World} {N:Nat→Prop} {bs:ao→Nat→Prop} (h:Rel C B S V w N bs) (q r:ao) (hne:q≠r) (ho:fN S r) (hr:look S r= .iV q) (hc:aa.zk S q r=some S'):
 ∃bs',Rel C B S' V w N bs'∧(∀z b,bs' z b→∃z',bs z' b):=by
 obtain⟨c,hcr,hrep⟩:=eH.look h r ho;rw[hr]at hrep;obtain⟨hqr,hcq⟩:bL C S V w q c:=hrep;unfold aa.zk at hc;split at hc
 ·rename_i dp e xs hq;obtain rfl:=Option.some.inj hc;have hoq:=cc hqr;have hf:∀v:C.PV,stays v=true→rename q r v=v:=fun v hv=>ye _ _ hv;have h1:=eH.dK h (rename q r) (fun B x c hr=>hr.rename q r);have hlq:look (dK (rename q r) S) q= .own dp e xs:=by rw[gU hf S q hqr];exact hq
  have hoq1:fN (dK (rename q r) S) q:=cc (by rw[hlq];rfl)
  have h2:=h1.put q (.iV r) hoq1 (fun c' hc'=>by
   rw[hcq]at hc';obtain rfl:=Option.some.inj hc';exact .inr ⟨rfl,hqr,hcq⟩)
  obtain⟨hlr1,hor1⟩:=eH.kF h hf (fun v=>zm q r v) r ho;have hlr2:look (dK (rename q r) S) r= .iV r:=by rw[hlr1,hr];simp[rename]
  have hor2:fN (aa.put (dK (rename q r) S) q (.iV r)) r:=fN.put _ rfl hoq1 hor1;have hlq3:look (aa.put (dK (rename q r) S) q (.iV r)) q= .iV r:=fr _ _ _ hoq1
  have hlr3:∃x,look (aa.put (dK (rename q r) S) q (.iV r)) r=x∧aQ x=true∧∀dp e xs,x≠ .own dp e xs:=by
   refine⟨_,rfl,hor2.leaf,fun dp e xs hx=> ?_⟩;have:=me (dK (rename q r) S) q r (.iV r) hoq1 (by rw[hx];rfl) hne.symm;rw[hlr2,hx]at this;cases this
  let bs':ao→Nat→Prop:=fun z=>if z=r then bs q else if z=q then bs r else bs z
  have hsub:∀z b,bs' z b→∃z',bs z' b∧(z=r→z'=q)∧(z=q→z'=r)∧(z≠r→z≠q→z'=z):=fun z b hb=>by
   by_cases e1:z=r
   ·simp only[bs',e1,if_true]at hb;exact⟨q,hb,fun _=>rfl,fun e2=>absurd (e2.symm.trans e1) hne,fun h=>absurd e1 h⟩
   ·by_cases e2:z=q
    ·simp only[bs',e2,if_neg hne,if_true]at hb;exact⟨r,hb,fun e=>absurd e e1,fun _=>rfl,fun _ h=>absurd e2 h⟩
    ·simp only[bs',if_neg e1,if_neg e2]at hb;exact⟨z,hb,fun e=>absurd e e1,fun e=>absurd e e2,fun _ _=>rfl⟩
  have h3:=h2.zJ (N':=N) (bs':=bs') (fun z=>by
   by_cases e1:z=r
   ·right;subst e1;obtain⟨x,hx,hx1,hx2⟩:=hlr3;rw[hx];exact⟨hx1,hx2⟩
   ·by_cases e2:z=q
    ·right;subst e2;rw[hlq3];exact⟨rfl,fun _ _ _ h=>by cases h⟩
    ·left;simp only[bs',if_neg e1,if_neg e2]) (fun _ h=>h) (fun z z' b hb hb'=>by
   obtain⟨y,hy,y1,y2,y3⟩:=hsub z b hb;obtain⟨y',hy',y1',y2',y3'⟩:=hsub z' b hb';have e:=h.km y y' b hy hy'
   by_cases a1:z=r
   ·by_cases a2:z'=r
    ·rw[a1,a2]
    ·have:=y1 a1
     by_cases a3:z'=q
     ·exact absurd (e.symm.trans this) (by rw[y2' a3];exact fun h=>hne h.symm)
     ·exact absurd (e.symm.trans this) (by rw[y3' a2 a3];exact a3)
   ·by_cases a2:z'=r
    ·have:=y1' a2
     by_cases a3:z=q
     ·exact absurd (e.trans this) (by rw[y2 a3];exact fun h=>hne h.symm)
     ·exact absurd (e.trans this) (by rw[y3 a1 a3];exact a3)
    ·by_cases a3:z=q
     ·by_cases a4:z'=q
      ·rw[a3,a4]
      ·exact absurd (e.symm.trans (y2 a3)) (by rw[y3' a2 a4];exact a2)
     ·by_cases a4:z'=q
      ·exact absurd (e.trans (y2' a4)) (by rw[y3 a1 a3];exact a1)
      ·rw[←y3 a1 a3,←y3' a2 a4];exact e) (fun z b hb=>let⟨y,hy,_⟩:=hsub z b hb;h.own y b hy) h.kd
  obtain⟨c',hc',hrep'⟩:=eH.look h q hoq;rw[hcq]at hc';obtain rfl:=Option.some.inj hc';rw[hq]at hrep'
  have h4:=h3.put r (.own dp e xs) hor2 (fun c' hc'=>by
   rw[hcr]at hc';obtain rfl:=Option.some.inj hc';have eb:bs' r=bs q:=by simp[bs']
   rw[eb];exact hrep')
  refine⟨bs',h4.mono (fun p c' hp=> ?_) (fun t b ht=> ?_),fun z b hb=>let⟨y,hy,_⟩:=hsub z b hb;⟨y,hy⟩⟩
  ·rcases hp with⟨hpq,hpr,hpc⟩ | ⟨rfl,_,hpc⟩
   ·have hpr':p≠r:=fun e=>by rw[e,hr]at hpr;simp[isRow]at hpr
    have r1:bL C (dK (rename q r) S) V w p c':=⟨by rw[gU hf S p hpr];exact hpr,hpc⟩;exact(r1.put hoq1 (fun e=>absurd e hpq)).put hor2 (fun _=>rfl)
   ·refine⟨by rw[fr _ _ _ hor2];rfl,?_⟩;rw[hcq]at hpc;obtain rfl:=Option.some.inj hpc;exact hcr
  ·obtain⟨⟨ls,hg⟩,hv⟩:=ht;exact cL.put _ (cL.put _ ⟨⟨_,gX hf hg⟩,hv⟩ hoq1) hor2
 ·rename_i e xs hq;obtain rfl:=Option.some.inj hc;refine⟨bs,?_,fun z b hb=>⟨z,hb⟩⟩;obtain⟨c',hc',hrep'⟩:=eH.look h q (cc hqr);rw[hcq]at hc';obtain rfl:=Option.some.inj hc';rw[hq]at hrep'
  have h1:=eH.put h r (.sl e xs) ho (fun c' hc'=>by
   rw[hcr]at hc';obtain rfl:=Option.some.inj hc';exact hrep')
  exact h1.mono (fun p c hp=>hp.put ho (fun _=>rfl)) (fun t b ht=>ht.put _ ho)
 ·cases hc
end Go.Proofs.YtmapddgocpkgeaaGreat.aa
namespace Go.Proofs.YtmapddgocpkgeaaGreat.aa
open Go.RowKit
set_option linter.unusedVariables false
set_option linter.unusedSimpArgs false
variable {C:Ctx}
def behind (S:St C) (N:Nat→Prop) (bs:ao→Nat→Prop) (rs:List ao) (b:Nat):Prop:=N b∨∃r,r∈rs∧(∃dp e xs,look S r= .own dp e xs)∧bs r b
theorem iz {U:gm} {S:List (PV U)} {t:Nat} {v:PV U} (h:get S t=v) (hv:v≠ .undef):S[t]? =some v:=by
 unfold get at h;rw[List.getD_eq_getElem?_getD]at h;cases hs:S[t]? with
 | none=>rw[hs]at h;exact absurd h.symm hv
 | some u=>rw[hs]at h;exact congrArg some h
theorem fk.slot {w:World} {N B:Nat→Prop} {dp:Bool} {e:TypeId} {xs:List (C.U.T e)} {b n cap:Nat} (h:fk C w N B dp e xs (.slice (some ⟨b,0,none⟩) n cap)):
 ∃cur,∃lab:Nat→Option (Nat×Nat),n=xs.length∧B b∧lab b=none∧w.heap[b]? =some (.cells cur e (0,0))∧xs.length≤cap∧cap≤maxLen∧cur.size=cap*C.sz e∧
  ∀j x,xs[j]? =some x→∀i v,(leaves (C.enc e x))[i]? =some v→∃u,cur[j*C.sz e+i]? =some u∧nI C w N (fun b'=>B b'∧lab b'=some (j,i)) dp v u:=by
 rcases h with⟨h,_⟩ | ⟨b',cap',cur,lab,hc,hb,hl,hh,h1,h2,h3,h4⟩
 ·cases h
 ·simp only[Value.slice.injEq,Option.some.injEq,Addr.mk.injEq,and_true]at hc;obtain⟨rfl,rfl,rfl⟩:=hc;exact⟨cur,lab,rfl,hb,hl,hh,h1,h2,h3,h4⟩
theorem mI {B:fK} {S:St C} {V:Nat→Value} {w:World} {N:Nat→Prop} {bs:ao→Nat→Prop} (h:Rel C B S V w N bs) {Bo:Nat→Prop} (src:Option ao) (v v':C.PV) (c:Value)
 (hv:aJ C (bL C S V w) (cL C S V) w N Bo v c) (hs:∀dp e xs,v= .own dp e xs→∀b,Bo b→∃q,src=some q∧(∃dp e xs,look S q= .own dp e xs)∧bs q b) (hr:fX C S v=some v'):gC C w (behind S N bs (bC C src v)) v' c:=by
 cases v with
 | own dp e xs=>
   obtain rfl:=Option.some.inj hr
   exact fk.Co hv (fun _ h=> .inl h) (fun b hb=>by
    obtain⟨q,hq,hb⟩:=hs dp e xs rfl b hb;exact .inr ⟨q,by simp[bC,hq],hb⟩)
 | iV q=>
   obtain⟨hq,hc⟩:bL C S V w q c:=hv;obtain⟨c',hc',hrep⟩:=eH.look h q (cc hq);rw[hc]at hc';obtain rfl:=Option.some.inj hc';simp only[fX]at hr;split at hr
   ·rename_i dp e xs hl;obtain rfl:=Option.some.inj hr;rw[hl]at hrep;exact fk.Co hrep (fun _ h=> .inl h) (fun b hb=> .inr ⟨q,by simp[bC],⟨_,_,_,hl⟩,hb⟩)
   ·rename_i e xs hl;obtain rfl:=Option.some.inj hr;rw[hl]at hrep;exact gC.mono hrep (fun _ _=>rfl) (fun _ h=> .inl h)
   ·cases hr
 | kB q e i off=>
   obtain⟨b,n,cap,⟨hq,hc⟩,hi,hcell⟩:=hv;obtain⟨c',hc',hrep⟩:=eH.look h q (cc hq);rw[hc]at hc';obtain rfl:=Option.some.inj hc';simp only[fX]at hr;split at hr
   ·rename_i e' xs hl;split at hr
    ·rename_i hee;obtain rfl:=hee;split at hr
     ·rename_i f ys hg;obtain rfl:=Option.some.inj hr;rw[hl]at hrep;obtain⟨cur,lab,hn,hb,_,hh,_,_,_,h4⟩:=fk.slot hrep;have hlt:i.toNat<xs.length:=hn▸hi.2.1;have hx:xs[i.toNat]? =some (xs[i.toNat]'hlt):=List.getElem?_eq_getElem hlt
      have hg':(leaves (C.enc e' (xs[i.toNat]'hlt)))[off]? =some (.sl f ys):=by
       have:=iz hg (by simp);unfold elemAt at this;rw[List.getD_eq_getElem?_getD,hx]at this;exact this
      obtain⟨u,hu,hrow⟩:=h4 _ _ hx _ _ hg'
      have:c=u:=by
       simp only[World.cell?,hh,hu]at hcell
       simpa using hcell.symm
      subst this;exact kj.Co hrow (fun b hb=> .inr ⟨q,by simp[bC],⟨_,_,_,hl⟩,hb.1⟩)
     ·cases hr
    ·cases hr
   ·cases hr
 | int k n=>obtain rfl:=Option.some.inj hr;obtain rfl:c=_:=hv;exact .int k n
 | bool b=>obtain rfl:=Option.some.inj hr;obtain rfl:c=_:=hv;exact .bool b
 | str s=>obtain rfl:=Option.some.inj hr;obtain rfl:c=_:=hv;exact .str s
 | sl e xs=>obtain rfl:=Option.some.inj hr;exact gC.mono hv (fun _ _=>rfl) (fun _ h=> .inl h)
 | _=>cases hr
theorem zV {S:St C} {v v':C.PV} (h:fX C S v=some v'):aQ v'=true∧aQ v=true:=by
 unfold fX at h;split at h
 ·cases h;exact⟨rfl,rfl⟩
 ·split at h
  ·cases h;exact⟨rfl,rfl⟩
  ·cases h;exact⟨rfl,rfl⟩
  ·cases h
 ·split at h
  ·split at h
   ·split at h
    ·cases h;exact⟨rfl,rfl⟩
    ·cases h
   ·cases h
  ·cases h
 all_goals first | (cases h;done) | (cases h;exact⟨rfl,rfl⟩)
variable (C)in
def uu (w:World) (N:Nat→Prop) (ls:List C.PV) (cs:Array Value):Prop:=cs.size=ls.length∧∀(i:Nat) (v:C.PV),ls[i]? =some v→∃u,cs[i]? =some u∧gC C w N v u
theorem gC.cells {w:World} {N:Nat→Prop} {v:C.PV} {c:Value} (h:gC C w N v c):c.cells= #[c]∧leaves v=[v]∧c.oneCell'=true:=by cases h<;>exact⟨rfl,rfl,rfl⟩
theorem oq {S:St C}:∀(ls ls':List C.PV),readAll C S ls=some ls'→ls'.length=ls.length∧∀(i:Nat) (v:C.PV),ls[i]? =some v→∃v',ls'[i]? =some v'∧fX C S v=some v'
 | [],ls',h=>by cases h;exact⟨rfl,fun i v h=>by simp at h⟩
 | v::vs,ls',h=>by
   unfold readAll at h;split at h
   ·rename_i v' hv;split at h
    ·rename_i vs' hvs;cases h;obtain⟨h1,h2⟩:=oq vs vs' hvs;refine⟨by simp[h1],fun i x hx=> ?_⟩;cases i with
     | zero=>simp only[List.getElem?_cons_zero]at hx;cases hx;exact⟨v',rfl,hv⟩
     | succ i=>simp only[List.getElem?_cons_succ]at hx⊢;exact h2 i x hx
    ·cases h
   ·cases h
theorem iu {t:Option Nat} {r:ao}:∀(ls:List C.PV) (k i:Nat) (v:C.PV),ls[i]? =some v→r∈bC C (t.map fun q=>(q,[k+i])) v→r∈gY C t k ls
 | [],k,i,v,h,_=>by simp at h
 | x::xs,k,0,v,h,hr=>by
   simp only[List.getElem?_cons_zero]at h;cases h;unfold gY;exact List.mem_append_left _ hr
 | x::xs,k,i+1,v,h,hr=>by
   simp only[List.getElem?_cons_succ]at h;unfold gY;refine List.mem_append_right _ (iu xs (k+1) i v h ?_);rw[show k+1+i=k+(i+1) by omega];exact hr
theorem mT {B:fK} {S:St C} {V:Nat→Value} {w:World} {N:Nat→Prop} {bs:ao→Nat→Prop} (h:Rel C B S V w N bs) {Bo:List Nat→Nat→Prop} (src:Option Nat) (v v':C.PV) (c:Value)
 (hv:aR C (bL C S V w) (cL C S V) w N Bo v c) (hs:∀p b,Bo p b→∃q,src=some q∧get S q=v∧bs (q,p) b) (hr:read C S v=some v'):
 uu C w (behind S N bs (aZ C src v)) (leaves v') c.cells∧(aQ v'=true→gC C w (behind S N bs (aZ C src v)) v' c):=by
 have leaf:∀v,(∀p b,Bo p b→∃q,src=some q∧get S q=v∧bs (q,p) b)→aJ C (bL C S V w) (cL C S V) w N (Bo []) v c→fX C S v=some v'→aZ C src v=bC C (src.map fun q=>(q,[])) v→
  uu C w (behind S N bs (aZ C src v)) (leaves v') c.cells∧(aQ v'=true→gC C w (behind S N bs (aZ C src v)) v' c):=fun v hs hv hr he=>by
  have:=mI h (src.map fun q=>(q,[])) v v' c hv (fun dp e xs hv b hb=>let⟨q,hq,hg,hb⟩:=hs _ b hb;⟨(q,[]),by rw[hq];rfl,⟨dp,e,xs,by unfold look;simp only[hg];exact hv⟩,hb⟩) hr;rw[←he]at this;obtain⟨h1,h2,_⟩:=this.cells;refine⟨⟨by rw[h1,h2];rfl,fun i x hx=> ?_⟩,fun _=>this⟩;rw[h2]at hx;cases i with
  | zero=>simp only[List.getElem?_cons_zero]at hx;cases hx;exact⟨c,by rw[h1];rfl,this⟩
  | succ i=>simp at hx
 cases v with
 | agg ls=>
   obtain⟨cs,rfl,hsz,ha⟩:=hv;unfold read at hr;split at hr
   ·rename_i ls0 heq;cases heq;split at hr
    ·rename_i ls' hls;cases hr;obtain⟨hl,hg⟩:=oq _ _ hls;refine⟨⟨by rw[show(leaves (PV.agg ls':C.PV))=ls' from rfl,hl];exact hsz,fun i x hx=> ?_⟩,fun h=>by cases h⟩;have hx:ls'[i]? =some x:=hx;have hi:i<ls.length:=by rw[←hl];exact(List.getElem?_eq_some_iff.1 hx).1
     have hy:=List.getElem?_eq_getElem hi;obtain⟨u,hu,hrep⟩:=ha i _ hy;obtain⟨x',hx',hrd⟩:=hg i _ hy;rw[hx]at hx';cases hx';refine⟨u,hu,?_⟩;have:=mI h (src.map fun q=>(q,[i])) _ x u hrep (fun dp e xs hv b hb=>let⟨q,hq,hg,hb⟩:=hs _ b hb;⟨(q,[i]),by rw[hq];rfl,⟨dp,e,xs,by unfold look;simp only[hg,bc];rw[get_at hy];exact hv⟩,hb⟩) hrd;refine this.mono (fun _ _=>rfl) (fun b hb=>hb.imp id (fun⟨r,hr,hb⟩=>⟨r,?_,hb⟩));unfold aZ;exact iu ls 0 i _ hy (by rw[Nat.zero_add];exact hr)
    ·cases hr
   ·rename_i hne;exact absurd rfl (hne ls)
 | box ls=>cases(show(none:Option C.PV)=some v' from hr)
 | gG ls=>cases(show(none:Option C.PV)=some v' from hr)
 | _=>exact leaf _ hs hv hr rfl
theorem Rel.ij {B:fK} {V:Nat→Value} {w:World}:∀(rs:List ao) {S:St C} {N:Nat→Prop} {bs:ao→Nat→Prop},Rel C B S V w N bs→
 ∃N' bs',Rel C B (aa.ij C S rs) V w N' bs'∧(∀b,N b→N' b)∧(∀q,q∈rs→(∃dp e xs,look S q= .own dp e xs)→∀b,bs q b→N' b)∧
  (∀r b,bs' r b→bs r b)∧(∀r b,r ∉ rs→bs r b→bs' r b)∧∀b,N' b→N b∨∃r,r∈rs∧bs r b
 | [],S,N,bs,h=>⟨N,bs,h,fun _ h=>h,fun q hq=>by simp at hq,fun _ _ h=>h,fun _ _ _ h=>h,fun _ h=> .inl h⟩
 | q::qs,S,N,bs,h=>by
   obtain⟨N1,bs1,h1,hN,hsub,hN',hq,hrest⟩:=h.xW q;obtain⟨N2,bs2,h2,hN2,hq2,hs2,hr2,hn2⟩:=Rel.ij qs h1;refine⟨N2,bs2,h2,fun b hb=>hN2 b (hN b hb),fun r hr hl b hb=> ?_,fun r b hb=>hsub r b (hs2 r b hb),fun r b hr hb=>hr2 r b (fun hm=>hr (List.mem_cons_of_mem _ hm)) (hrest r b (fun e=>hr (by rw[e];simp)) hb),fun b hb=> ?_⟩
   case refine_2=>
    rcases hn2 b hb with hb | ⟨r,hr,hb⟩
    ·rcases hN' b hb with hb | hb
     ·exact .inl hb
     ·exact .inr ⟨q,by simp,hb⟩
    ·exact .inr ⟨r,List.mem_cons_of_mem _ hr,hsub r b hb⟩
   by_cases e:r=q
   ·subst e;exact hN2 b (hq b hl hb)
   ·rcases List.mem_cons.1 hr with hr | hr
    ·exact absurd hr e
    ·refine hq2 r hr ?_ b (hrest r b e hb);obtain⟨dp,ty,xs,hl⟩:=hl;refine⟨dp,ty,xs,?_⟩;unfold aa.xW;split
     ·rename_i hlq;rw[jQ S q r _ (by rw[hlq];rfl) (by rw[hl];rfl) e];exact hl
     ·exact hl
theorem fk.soft {w:World} {N B:Nat→Prop} {e:TypeId} {xs:List (C.U.T e)} {c:Value} (h:fk C w N B true e xs c):
 ∃O:Nat→Prop,fk C w (fun b=>N b∨(B b∧¬O b)) (fun b=>B b∧O b) false e xs c:=by
 rcases h with h | ⟨b,cap,cur,lab,rfl,hb,hl,hh,h1,h2,h3,h4⟩
 ·exact⟨fun _=>True,.inl h⟩
 ·refine⟨fun b'=>b'=b,.inr ⟨b,cap,cur,fun _=>none,rfl,⟨hb,rfl⟩,rfl,hh,h1,h2,h3,fun j x hx i v hi=> ?_⟩⟩;obtain⟨u,hu,hv⟩:=h4 j x hx i v hi;refine⟨u,hu,?_⟩;have:=hv.Co (N':=fun b'=>N b'∨(B b'∧¬b'=b)) (fun _ h=> .inl h) (fun b' hb'=> .inr ⟨hb'.1,fun e=>by rw[e,hl]at hb';cases hb'.2⟩);cases v<;>exact this
theorem Rel.soft {B:fK} {S:St C} {V:Nat→Value} {w:World} {N:Nat→Prop} {bs:ao→Nat→Prop} (h:Rel C B S V w N bs) (q:ao):
 ∃N' bs',Rel C B (aa.soft C S q) V w N' bs':=by
 unfold aa.soft;split
 ·rename_i e xs hq;have hr:=ik hq;have ho:=cc hr;obtain⟨c,hc,hrep⟩:=eH.look h q ho;rw[hq]at hrep;have hrep:fk C w N (bs q) true e xs c:=hrep;obtain⟨O,hO⟩:=hrep.soft
  let N':Nat→Prop:=fun b=>N b∨(bs q b∧¬O b)
  let bs':ao→Nat→Prop:=fun r b=>bs r b∧(r=q→O b)
  have h1:=eH.put h q .undef ho (fun _ _=>trivial);have ho1:fN (aa.put S q .undef) q:=ho.put .undef rfl ho
  have h2:eH C (bL C S V w) (cL C S V) B (aa.put S q .undef) V w N' bs':=by
   refine h1.zJ (fun r=> ?_) (fun _ h=> .inl h) (fun r r' b hb hb'=>h.km r r' b hb.1 hb'.1) (fun r b hb=> ?_) (fun b hb=> ?_)
   ·by_cases e:r=q
    ·right
     subst e;rw[fr S r .undef ho];exact⟨rfl,fun _ _ _ h=>by cases h⟩
    ·left
     funext b;simp[bs',e]
   ·obtain⟨a1,a2,a3⟩:=h.own r b hb.1;exact⟨fun hn=>hn.elim a1 (fun hn=>hn.2 (hb.2 (h.km r q b hb.1 hn.1))),a2,a3⟩
   ·rcases hb with hb | hb
    ·exact h.kd b hb
    ·obtain⟨a1,a2,a3⟩:=h.own q b hb.1;exact⟨a2,.inr a3⟩
  have h3:=h2.put q (.own false e xs) ho1 (fun c' hc'=>by
   rw[hc]at hc';obtain rfl:=Option.some.inj hc';exact fk.move hO (fun _ _=>rfl) (fun _ h=>h) (fun b hb=>⟨hb.1,fun _=>hb.2⟩))
  rw[AI S q _ _ ho]at h3;exact⟨N',bs',h3.mono (fun p c hp=>hp.put ho (fun _=>rfl)) (fun t b ht=>ht.put _ ho)⟩
 ·exact⟨N,bs,h⟩
theorem Rel.pd {B:fK} {V:Nat→Value} {w:World}:∀(rs:List ao) {S:St C} {N:Nat→Prop} {bs:ao→Nat→Prop},Rel C B S V w N bs→∃N' bs',Rel C B (aa.pd C S rs) V w N' bs'
 | [],_,N,bs,h=>⟨N,bs,h⟩
 | q::qs,_,_,_,h=>let⟨_,_,h1⟩:=h.soft q;Rel.pd qs h1
theorem Rel.ml {B:fK} {V:Nat→Value} {w:World} {S:St C} {N:Nat→Prop} {bs:ao→Nat→Prop} (h:Rel C B S V w N bs) (Q:bE C) (i:Nat):∃N' bs',Rel C B (aa.ml Q i S) V w N' bs':=by
 obtain⟨_,_,h1,_⟩:=Rel.ij ((lookup i Q.xR).getD []) h;exact Rel.pd _ h1
theorem wF {U:gm} (v:PV U):∀(p p':List Nat) (s:PV U),ig p s→ig p' s→p'≠p→bc p' (gN v p s)=bc p' s:=by
 intro p
 induction p with
 | nil=>
   intro p' s hl hr hne;exact absurd (mR hl hr) hne
 | cons i p ih=>
   intro p' s hl hr hne;cases p' with
   | nil=>cases s<;>first | exact hl.elim | simp[ig,aQ]at hr
   | cons i' p'=>
     have key:∀ls:List (PV U),(∃x,ls[i]? =some x∧ig p x)→(∃x,ls[i']? =some x∧ig p' x)→bc p' (get (ls.set i (gN v p (get ls i))) i')=bc p' (get ls i'):=by
      rintro ls ⟨x,hx,h1⟩ ⟨x',hx',h2⟩
      rw[fj]
      by_cases e:i=i'
      ·subst e;rw[hx]at hx';cases hx';rw[if_pos ⟨rfl,(List.getElem?_eq_some_iff.1 hx).1⟩,get_at hx];exact ih p' x h1 h2 (fun e=>hne (by rw[e]))
      ·rw[if_neg (fun h=>e h.1)]
     cases s with
     | agg ls=>exact key ls hl hr
     | box ls=>exact key ls hl hr
     | gG ls=>exact key ls hl hr
     | _=>exact hl.elim
theorem jN {U:gm} {S:List (PV U)} {q q':ao} (v:PV U) (hq:fN S q) (hq':fN S q') (hne:q'≠q):look (put S q v) q'=look S q':=by
 obtain⟨s,hs,ho⟩:=hq;obtain⟨s',hs',ho'⟩:=hq';unfold look put;rw[fj]
 by_cases e:q.1=q'.1
 ·have hlt:q.1<S.length:=(List.getElem?_eq_some_iff.1 hs).1;rw[if_pos ⟨e,hlt⟩];rw[←e,hs]at hs';cases hs';rw[←e,get_some hs];exact wF v q.2 q'.2 s ho ho' (fun h=>hne (Prod.ext e.symm h))
 ·rw[if_neg (fun h=>e h.1)]
theorem yx {U:gm} {S:List (PV U)} {q r:ao} {v:PV U} (hv:look S r=v) (hl:aQ v=true) (hu:v≠ .undef) (hn:isRow v=false):look (aa.xW S q) r=v∧fN (aa.xW S q) r:=by
 have ho:fN S r:=tW (by rw[hv];exact hl) (by rw[hv];exact hu);unfold aa.xW;split
 ·rename_i dp e xs hlq;have hoq:fN S q:=cc (by rw[hlq];rfl);have hne:r≠q:=fun e=>by rw[e,hlq]at hv;rw[←hv]at hn;simp[isRow]at hn
  exact⟨by rw[jN _ hoq ho hne];exact hv,fN.put _ rfl hoq ho⟩
 ·exact⟨hv,ho⟩
theorem Rel.lx {B:fK} {S S':St C} {V:Nat→Value} {w:World} {N:Nat→Prop} {bs:ao→Nat→Prop} (h:Rel C B S V w N bs) (r:ao) (hc:aa.lx C S r=some S'):
 ∃N' bs',Rel C B S' V w N' bs'∧∀b,N b→N' b:=by
 unfold aa.lx at hc;split at hc
 ·rename_i q hl;split at hc
  ·cases hc
  ·rename_i hne;obtain⟨bs',h',_⟩:=h.zk q r hne (tW (by rw[hl];rfl) (by rw[hl];simp)) hl hc;exact⟨N,bs',h',fun _ h=>h⟩
 ·rename_i q e i off hl;split at hc
  ·rename_i v hr;obtain rfl:=Option.some.inj hc;have ho:fN S r:=tW (by rw[hl];rfl) (by rw[hl];simp);obtain⟨c,hcr,hrep⟩:=eH.look h r ho;rw[hl]at hrep;have him:=mI h none (.kB q e i off) v c hrep (fun _ _ _ h=>by cases h) hr;obtain⟨N',bs',h',hN,_,_,hq,_⟩:=h.xW q
   have hown:∃dp e xs,look S q= .own dp e xs:=by
    simp only[fX]at hr;split at hr
    ·rename_i e' xs hlq;exact⟨_,_,_,hlq⟩
    ·cases hr
   have him':gC C w N' v c:=him.mono (fun _ _=>rfl) (fun b hb=>by
    rcases hb with hb | ⟨p,hp,_,hb⟩
    ·exact hN b hb
    ·simp only[bC,List.mem_singleton]at hp;subst hp;exact hq b hown hb)
   have ho':fN (aa.xW S q) r:=(yx hl rfl (by simp) rfl).2
   have h2:=eH.put h' r v ho' (fun c' hc'=>by
    rw[hcr]at hc';obtain rfl:=Option.some.inj hc';cases him'<;>first | rfl | exact gC.nil _ _ _ | (rename_i hN hcc hu hv;exact gC.sl _ _ _ _ _ _ hN hcc hu hv))
   refine⟨N',bs',h2.mono (fun p c hp=>hp.put ho' (fun e=> ?_)) (fun t b ht=>ht.put _ ho'),hN⟩;obtain⟨hp,_⟩:=hp;rw[e,(yx (q:=q) hl rfl (by simp) rfl).1]at hp;simp[isRow]at hp
  ·cases hc
 ·obtain rfl:=Option.some.inj hc;exact⟨N,bs,h,fun _ h=>h⟩
theorem Rel.jk {B:fK} {V:Nat→Value} {w:World} (d:Nat) (p:List Nat):∀(n i:Nat) {S S':St C} {N:Nat→Prop} {bs:ao→Nat→Prop},Rel C B S V w N bs→aa.jk C d p i n S=some S'→
 ∃N' bs',Rel C B S' V w N' bs'∧∀b,N b→N' b
 | 0,i,S,S',N,bs,h,hc=>by cases hc;exact⟨N,bs,h,fun _ h=>h⟩
 | n+1,i,S,S',N,bs,h,hc=>by
   unfold aa.jk at hc;split at hc
   ·rename_i S1 h1;obtain⟨N1,bs1,h1,hN1⟩:=h.lx _ h1;obtain⟨N2,bs2,h2,hN2⟩:=Rel.jk d p n (i+1) h1 hc;exact⟨N2,bs2,h2,fun b hb=>hN2 b (hN1 b hb)⟩
   ·cases hc
theorem Rel.lq {B:fK} {V:Nat→Value} {w:World} (d:Nat):∀(vs:List C.PV) (i:Nat) {S S':St C} {N:Nat→Prop} {bs:ao→Nat→Prop},Rel C B S V w N bs→aa.lq C d i vs S=some S'→
 ∃N' bs',Rel C B S' V w N' bs'∧∀b,N b→N' b
 | [],i,S,S',N,bs,h,hc=>by cases hc;exact⟨N,bs,h,fun _ h=>h⟩
 | v::vs,i,S,S',N,bs,h,hc=>by
   unfold aa.lq at hc;split at hc
   ·rename_i S1 h1
    have:∃N' bs',Rel C B S1 V w N' bs'∧∀b,N b→N' b:=by
     split at h1
     ·exact h.jk d [i] _ 0 h1
     ·exact h.lx _ h1
    obtain⟨N1,bs1,h1,hN1⟩:=this;obtain⟨N2,bs2,h2,hN2⟩:=Rel.lq d vs (i+1) h1 hc;exact⟨N2,bs2,h2,fun b hb=>hN2 b (hN1 b hb)⟩
   ·cases hc
theorem Rel.gF {B:fK} {S S':St C} {V:Nat→Value} {w:World} {N:Nat→Prop} {bs:ao→Nat→Prop} (h:Rel C B S V w N bs) (d:Nat) (hc:aa.gF C S d=some S'):
 ∃N' bs',Rel C B S' V w N' bs'∧∀b,N b→N' b:=by
 unfold aa.gF at hc;split at hc
 ·exact h.jk d [] _ 0 hc
 ·exact h.jk d [] _ 0 hc
 ·exact h.lq d _ 0 hc
 ·exact h.lx _ hc
end Go.Proofs.YtmapddgocpkgeaaGreat.aa
namespace Go.Proofs.YtmapddgocpkgeaaGreat.aa
open Go.RowKit
set_option linter.unusedVariables false
variable {C:Ctx}
theorem ga.mZ {A:ao→Value→Prop} {X:Nat→Nat→Prop} {w w':World} {N:Nat→Prop} {bs:List Nat→Nat→Prop} {s:C.PV} {c:Value} (h:ga C A X w N bs s c) (p:List Nat) (ho:ig p s):walk w' p c=walk w p c:=by
 cases p with
 | nil=>rfl
 | cons i p=>
   cases s with
   | agg ls=>
     obtain⟨cs,rfl,ha⟩:=h;obtain⟨rfl,u,h1,h2⟩:=ha.look ho;simp[walk,h1]
   | box ls=>exact h.elim
   | gG ls=>exact h.elim
   | _=>exact ho.elim
theorem aR.mZ {A:ao→Value→Prop} {X:Nat→Nat→Prop} {w w':World} {N:Nat→Prop} {bs:List Nat→Nat→Prop} {s:C.PV} {c:Value} (h:aR C A X w N bs s c)
 (hb:∀b,(∃ls,s= .box ls)→bs [] b→w'.heap[b]? =w.heap[b]?) (p:List Nat) (ho:ig p s):walk w' p c=walk w p c:=by
 cases p with
 | nil=>rfl
 | cons i p=>
   cases s with
   | agg ls=>
     obtain⟨cs,rfl,ha⟩:=h;obtain⟨rfl,u,h1,h2⟩:=ha.look ho;simp[walk,h1]
   | box ls=>
     obtain⟨b,cs,ty,rfl,hb0,hh,ha⟩:=h;obtain⟨rfl,u,h1,h2⟩:=ha.look ho;have hh':=hb b ⟨_,rfl⟩ hb0;simp[walk,World.cell?,hh,hh',h1]
   | gG vs=>
     obtain⟨cs,rfl,hs,ha⟩:=h;obtain⟨x,hx,ho⟩:=ho;obtain⟨u,h1,h2⟩:=ha i x hx;simp only[walk,h1,Option.bind_some];exact h2.mZ p ho
   | _=>exact ho.elim
theorem Rel.Ey {B:fK} {S:St C} {V:Nat→Value} {w w':World} {N:Nat→Prop} {bs:ao→Nat→Prop} (h:Rel C B S V w N bs) (qs:ao→Prop) (hu:∀q,qs q→look S q= .undef)
 (hw:∀b,b<w.heap.size→(∀q,qs q→¬bs q b)→w'.heap[b]? =w.heap[b]?) (hs:w.heap.size≤w'.heap.size) (hk:Kept B w'):Rel C B S V w' N bs:=by
 have hN:∀b,N b→w'.heap[b]? =w.heap[b]? :=fun b hb=>hw b (h.kd b hb).1 (fun q _ hq=>(h.own q b hq).1 hb);have hB:∀r b,¬qs r→bs r b→w'.heap[b]? =w.heap[b]? :=fun r b hr hb=>hw b (h.own r b hb).2.1 (fun q hqs hq=>hr (by rw[h.km r q b hb hq];exact hqs))
 have hbox:∀t v,S[t]? =some v→∀b,(∃ls,v= .box ls)→bs (t,[]) b→w'.heap[b]? =w.heap[b]? :=fun t v hv b ⟨ls,hb⟩ h0=>hB (t,[]) b (fun e=>by
  have hu:=hu _ e;unfold look at hu;rw[get_some hv,hb]at hu;cases hu) h0
 have hA:∀q' c,bL C S V w q' c→bL C S V w' q' c:=fun q' c ⟨hr,hc⟩=>by
  obtain⟨s,hs,ho⟩:=cc hr;refine⟨hr,?_⟩;unfold jf at hc⊢;rw[(h.fo q'.1 s hs).mZ (hbox q'.1 s hs) q'.2 ho];exact hc
 have hq:∀q' b n cap,0<n→bL C S V w q' (.slice (some ⟨b,0,none⟩) n cap)→w'.heap[b]? =w.heap[b]? :=fun q' b n cap hn ⟨hr,hc⟩=>by
  have hne:¬qs q':=fun e=>by rw[hu _ e]at hr;simp[isRow]at hr
  obtain⟨c',hc',hrep⟩:=eH.look h q' (cc hr);rw[hc]at hc';cases hc';cases hl:look S q' with
  | own dp e xs=>
    rw[hl]at hrep;obtain⟨_,_,_,hb,_⟩:=fk.slot hrep;exact hB q' b hne hb
  | sl e xs=>
    rw[hl]at hrep;generalize hv:(PV.sl e xs:C.PV)=v at hrep;have him:gC C w N v (.slice (some ⟨b,0,none⟩) n cap):=by rw[←hv]at hrep⊢;exact hrep
    cases him with
    | nil=>omega
    | sl _ _ _ _ _ u hb=>exact hN b hb
  | _=>rw[hl]at hr;simp[isRow]at hr
 refine⟨fun t v hv=>(h.fo t v hv).move (fun p x c hx hr=> ?_) (fun b hbx h0=>⟨h0,hbox t v hv b hbx h0⟩),h.km,fun r b hb=> ?_,fun b hb=> ?_,hk⟩
 ·by_cases e:qs (t,p)
  ·have:x= .undef:=by
    rw[←hx,←hu _ e];unfold look;rw[get_some hv]
   rw[this];trivial
  ·exact hr.move hA (fun _ _ h=>h) (fun b hb=>hb.elim (hN b) (hB _ b e)) hq (fun _ h=>h) (fun _ h=>h)
 ·obtain⟨a1,a2,a3⟩:=h.own r b hb;exact⟨a1,Nat.lt_of_lt_of_le a2 hs,a3⟩
 ·obtain⟨a1,a2⟩:=h.kd b hb;exact⟨Nat.lt_of_lt_of_le a1 hs,a2⟩
theorem Rel.jB {B:fK} {S:St C} {V:Nat→Value} {w w':World} {N:Nat→Prop} {bs:ao→Nat→Prop} (h:Rel C B S V w N bs) (d:Nat) (hd:get S d= .undef) (qs:ao→Prop) (hu:∀q,qs q→look S q= .undef)
 (hw:∀b,b<w.heap.size→(∀q,qs q→¬bs q b)→w'.heap[b]? =w.heap[b]?) (hs:w.heap.size≤w'.heap.size) (hk:Kept B w') {N' Bd:Nat→Prop} (hNN:∀b,N b→N' b) (hN:∀b,N' b→N b∨∃q,qs q∧bs q b)
 (hB:∀b,Bd b→(∃q,qs q∧bs q b)∨(w.heap.size≤b∧b<w'.heap.size)) (hdis:∀b,Bd b→¬N' b) {dp:Bool} {e:TypeId} {xs:List (C.U.T e)} (hv:fk C w' N' Bd dp e xs (V d)):
 ∃bs',Rel C B (S.set d (.own dp e xs)) V w' N' bs':=by
 have h1:=h.Ey qs hu hw hs hk;have hd0:look S (d,[])= .undef:=by unfold look;rw[hd];rfl
 classical
 let bs':ao→Nat→Prop:=fun r b=>if r=(d,[])then Bd b else if qs r then False else bs r b
 have h2:eH C (bL C S V w') (cL C S V) B S V w' N' bs':=by
  refine eH.zJ h1 (fun q=> ?_) hNN (fun r r' b hb hb'=> ?_) (fun r b hb=> ?_) (fun b hb=> ?_)
  ·by_cases e1:q=(d,[])
   ·right;rw[e1,hd0];exact⟨rfl,fun _ _ _ h=>by cases h⟩
   ·by_cases e2:qs q
    ·right;rw[hu q e2];exact⟨rfl,fun _ _ _ h=>by cases h⟩
    ·left;funext b;simp[bs',e1,e2]
  ·have key:∀r b,bs' r b→r≠(d,[])→¬qs r∧bs r b:=fun r b hb hr=>by
    simp only[bs',if_neg hr]at hb
    by_cases e2:qs r
    ·rw[if_pos e2]at hb;exact hb.elim
    ·rw[if_neg e2]at hb;exact⟨e2,hb⟩
   have key2:∀r b,Bd b→¬qs r→bs r b→False:=fun r b hb hr hbr=>by
    rcases hB b hb with⟨q,hq,hbq⟩ | ⟨hge,_⟩
    ·exact hr (by rw[h.km r q b hbr hbq];exact hq)
    ·have:=(h.own r b hbr).2.1;omega
   by_cases e:r=(d,[])
   ·by_cases e':r'=(d,[])
    ·rw[e,e']
    ·have hb0:Bd b:=by simpa [bs',e]using hb
     obtain⟨k1,k2⟩:=key r' b hb' e';exact(key2 r' b hb0 k1 k2).elim
   ·obtain⟨k1,k2⟩:=key r b hb e
    by_cases e':r'=(d,[])
    ·have hb0:Bd b:=by simpa [bs',e']using hb'
     exact(key2 r b hb0 k1 k2).elim
    ·exact h.km r r' b k2 (key r' b hb' e').2
  ·by_cases e:r=(d,[])
   ·have hb0:Bd b:=by simpa [bs',e]using hb
    refine⟨hdis b hb0,?_⟩;rcases hB b hb0 with⟨q,hq,hbq⟩ | ⟨hge,hlt⟩
    ·exact(h1.own q b hbq).2
    ·exact⟨hlt,.inr (Nat.le_trans h.kept.size hge)⟩
   ·simp only[bs',if_neg e]at hb
    by_cases e2:qs r
    ·rw[if_pos e2]at hb;exact hb.elim
    ·rw[if_neg e2]at hb;refine⟨fun hn=> ?_,(h1.own r b hb).2⟩;rcases hN b hn with hn | ⟨q,hq,hbq⟩
     ·exact(h.own r b hb).1 hn
     ·exact e2 (by rw[h.km r q b hb hbq];exact hq)
  ·rcases hN b hb with hn | ⟨q,hq,hbq⟩
   ·exact h1.kd b hn
   ·obtain⟨_,a2,a3⟩:=h1.own q b hbq;exact⟨a2,.inr a3⟩
 refine⟨bs',Rel.fill h2 d _ hd ?_⟩;have e1:bs' (d,[])=Bd:=by funext b;simp[bs']
 show fk C w' N' (bs' (d,[])) dp e xs (V d);rw[e1];exact hv
end Go.Proofs.YtmapddgocpkgeaaGreat.aa
namespace Go.Proofs.YtmapddgocpkgeaaGreat.aa
open Go.RowKit
set_option linter.unusedVariables false
set_option linter.unusedSimpArgs false
inductive ic (C:Ctx):C.PV→Value→Prop
 | int (k:IntKind) (n:Int):ic C (.int k n) (.int k n)
 | bool (b:Bool):ic C (.bool b) (.bool b)
 | str (s:ByteArray):ic C (.str s) (.string s)
 | own (e:TypeId):ic C (.own true e []) (.slice none 0 0)
 | sl (e:TypeId):ic C (.sl e []) (.slice none 0 0)
 | undef (v:Value) (h:v.oneCell'=true):ic C .undef v
def oA (P:Program) (t:TypeId) (z:Value) (n:Nat):Prop:=∃i,P.info? t=some i∧i.zero=some z∧i.size=n
inductive jy (P:Program) (C:Ctx) (t:TypeId):Ty C.U→Prop
 | int (k:IntKind) (h:P.underlying t=some (.int k)) (hz:oA P t (.int k 0) 1):jy P C t (.int k)
 | bool (h:P.underlying t=some .bool) (hz:oA P t (.bool false) 1):jy P C t .bool
 | str (h:P.underlying t=some .string) (hz:oA P t (.string .empty) 1):jy P C t .str
 | slice (e:TypeId) (h:P.underlying t=some (.slice e)) (hz:oA P t (.slice none 0 0) 1):jy P C t (.slice e)
 | struct (fs:List (Nat×TypeId)) (zs:List C.PV) (fields:Array Field) (cs:Array Value) (h:P.underlying t=some (.struct fields)) (hf:fields.toList.map (fun f=>(f.offset,f.type))=fs)
  (hz:oA P t (.agg cs) zs.length) (hs:cs.size=zs.length) (hc:∀(i:Nat) (v:C.PV),zs[i]? =some v→∃u:Value,cs[i]? =some u∧ic C v u)
  (hp:(fields.toList.mapM (fun f=>(P.info? f.type).map fun i=>(f.offset,i.size))).isSome=true):jy P C t (.struct fs zs)
 | arr (n:Nat) (e:TypeId) (zs:List C.PV) (cs:Array Value) (h:P.underlying t=some (.array n e)) (hn:zs.length=n) (he:P.underlying e=some .bool∧∃i,P.info? e=some i∧i.size=1)
  (hz:oA P t (.agg cs) zs.length) (hs:cs.size=zs.length) (hc:∀(i:Nat) (v:C.PV),zs[i]? =some v→∃u:Value,cs[i]? =some u∧ic C v u):jy P C t (.arr n e zs)
 | ptr (e:TypeId) (h:P.underlying t=some (.pointer e)) (hz:oA P t (.pointer none) 1):jy P C t .ptr
structure Good (P:Program) (C:Ctx):Prop where
 ty:∀t T,C.ty t=some T→jy P C t T
 gk:∀e x,(leaves (C.enc e x)).length=C.sz e
 kE:∀e x v,v∈leaves (C.enc e x)→(∃k n,v= .int k n)∨(∃b,v= .bool b)∨(∃s,v= .str s)∨∃f ys,v= .sl f ys
 D6:∀t e x T,C.ty t=some (.slice e)→C.ty e=some T→T.isAgg=true→∃ls,C.enc e x= .agg ls
 jg:∀e,gp C e=false→∀x v,v∈leaves (C.enc e x)→∀f ys,v≠ .sl f ys
 dec:∀e v y,C.dec e v=some y→C.enc e y=v
 elem:∀t e,C.ty t=some (.slice e)→∃i z,P.info? e=some i∧i.zero=some z∧i.size=C.sz e∧i.bytes=C.bytes e∧z.cells.size=C.sz e∧0<C.sz e∧0<C.bytes e∧
  ∀(i:Nat) (v:C.PV),(leaves (C.enc e (C.U.d e)))[i]? =some v→∃u:Value,z.cells[i]? =some u∧ic C v u
 eq:∀t n,C.eqs t=some n→∀(ps:List (IntKind×Int×Int)) (w:World),ps.length=n→
  (Op.equal t (.agg (ps.map fun p=>Value.int p.1 p.2.1).toArray) (.agg (ps.map fun p=>Value.int p.1 p.2.2).toArray)).run P w= .ok (ps.all fun p=>decide (p.2.1=p.2.2)) w∧P.eqGuardType P.depth t=false
 xk:∀w w':World,C.xk w→(∀g,g∈C.yA→w'.heap[g]? =w.heap[g]?)→C.xk w'
theorem qA {U:gm}:∀(ls ms:List (PV U)) {r:Bool},jd ls ms=some r→∃ps:List (IntKind×Int×Int),ls=ps.map (fun p=> .int p.1 p.2.1)∧ms=ps.map (fun p=> .int p.1 p.2.2)∧r=ps.all fun p=>decide (p.2.1=p.2.2)
 | [],[],r,h=>by cases h;exact⟨[],rfl,rfl,rfl⟩
 | .int k a::ls,.int k' b::ms,r,h=>by
   unfold jd at h;split at h
   ·rename_i hk;subst hk;split at h
    ·rename_i r' hr;cases h;obtain⟨ps,h1,h2,h3⟩:=qA ls ms hr;exact⟨(k,a,b)::ps,by rw[h1];rfl,by rw[h2];rfl,by rw[h3];rfl⟩
    ·cases h
   ·cases h
 | [],_::_,r,h=>by simp[jd]at h
 | _::_,[],r,h=>by unfold jd at h;split at h<;>simp_all
 | .undef::_,_::_,r,h=>by simp[jd]at h
 | .void::_,_::_,r,h=>by simp[jd]at h
 | .bool _::_,_::_,r,h=>by simp[jd]at h
 | .str _::_,_::_,r,h=>by simp[jd]at h
 | .fn .. ::_,_::_,r,h=>by simp[jd]at h
 | .gG _::_,_::_,r,h=>by simp[jd]at h
 | .agg _::_,_::_,r,h=>by simp[jd]at h
 | .sl .. ::_,_::_,r,h=>by simp[jd]at h
 | .own .. ::_,_::_,r,h=>by simp[jd]at h
 | .box _::_,_::_,r,h=>by simp[jd]at h
 | .iV _::_,_::_,r,h=>by simp[jd]at h
 | .ptr .. ::_,_::_,r,h=>by simp[jd]at h
 | .nR .. ::_,_::_,r,h=>by simp[jd]at h
 | .vw .. ::_,_::_,r,h=>by simp[jd]at h
 | .kB .. ::_,_::_,r,h=>by simp[jd]at h
 | .rd .. ::_,_::_,r,h=>by simp[jd]at h
 | .int .. ::_,y::_,r,h=>by
   cases y<;>first | (simp[jd]at h;done) | skip
   rename_i k a ls ms k' b;unfold jd at h;split at h
   ·rename_i hk;subst hk;split at h
    ·rename_i r' hr;cases h;obtain⟨ps,h1,h2,h3⟩:=qA ls ms hr;exact⟨(k,a,b)::ps,by rw[h1];rfl,by rw[h2];rfl,by rw[h3];rfl⟩
    ·cases h
   ·cases h
structure lQ (n:Nat) (V:Nat→Value) (a:Act):Prop where
 size:a.tmps.size=n
 tmp:∀t,t<n→a.tmps[t]? =some (V t)
 defers:a.defers=[]
def jJ (V:Nat→Value) (d:Nat) (c:Value):Nat→Value:=fun t=>if t=d then c else V t
theorem gZ (V:Nat→Value) (d:Nat) (c:Value):∀t,t≠d→jJ V d c t=V t:=fun t h=>if_neg h
theorem fp (V:Nat→Value) (d:Nat) (c:Value):jJ V d c d=c:=if_pos rfl
theorem lQ.put {n:Nat} {V:Nat→Value} {a:Act} (h:lQ n V a) {d:Nat} (hd:d<n) (c:Value):lQ n (jJ V d c) (a.put (some d) c) where
 size:=by simp[Act.put,h.size]
 tmp t ht:=by
  simp only[Act.put,Array.getElem?_setIfInBounds]
  by_cases e:d=t
  ·subst e;simp[jJ,h.size,hd]
  ·rw[if_neg e,h.tmp t ht];simp[jJ,Ne.symm e]
 defers:=h.defers
theorem lQ.eval {n:Nat} {V:Nat→Value} {a:Act} (h:lQ n V a) {t:Nat} (ht:t<n):a.eval (.tmp t)=V t:=by
 simp only[Act.eval,Array.getD_eq_getD_getElem?,h.tmp t ht,Option.getD_some]
def aT (n:Nat):Operand→Bool
 | .tmp t=>decide (t<n)
 | _=>true
variable {P:Program} {C:Ctx}
theorem ga.k8 {A:ao→Value→Prop} {X:Nat→Nat→Prop} {w:World} {N:Nat→Prop} {bs:List Nat→Nat→Prop} {v:C.PV} {c:Value} (h:ga C A X w N bs v c) (hv:∀ls,v≠ .agg ls):aJ C A X w N (bs []) v c:=by
 cases v with
 | agg ls=>exact absurd rfl (hv ls)
 | _=>exact h
theorem fk.nil (w:World) (N B:Nat→Prop) (dp:Bool) (e:TypeId):fk C w N B dp e [] (.slice none 0 0):= .inl ⟨rfl,rfl⟩
theorem pk {A:ao→Value→Prop} {X:Nat→Nat→Prop} {w:World} {N B:Nat→Prop} (t:TypeId) (v:Value):aJ C A X w N B (jt C t v) v:=by
 unfold jt;split
 ·split
  ·exact fk.nil _ _ _ _ _
  ·trivial
 ·unfold ofConst;split<;>first | trivial | rfl
def Cu (bs:ao→Nat→Prop):Operand→List Nat→Nat→Prop
 | .tmp q=>fun p=>bs (q,p)
 | _=>fun _ _=>False
structure je (P:Program) (C:Ctx) (B:fK) (n:Nat) (S:St C) (d:Nat) (V:Nat→Value) (a:Act) (w:World) (N:Nat→Prop) (bs:ao→Nat→Prop):Prop where
 gD:Good P C
 rel:∀c,Rel C B S (jJ V d c) w N bs
 vU:get S d= .undef
 DK:∀q,q<n→get S q≠ .undef→a.eval (.tmp q)=V q
 Ew:lQ n V a
def Out (P:Program) (C:Ctx) (B:fK) (S':St C) (d:Nat) (V:Nat→Value) (a:Act) (o:Oper) (w:World):Prop:=
 ∃v w' N' bs',(execOp a.eval o).run P w= .ok (.value v) w'∧Rel C B S' (jJ V d v) w' N' bs'
theorem lk {U:gm} (S:List (PV U)) (d:Nat):get (clear S d) d= .undef:=by
 unfold clear;rw[fj];split
 ·rfl
 ·rename_i h;unfold get;rw[List.getD_eq_getElem?_getD,List.getElem?_eq_none]
  ·rfl
  ·exact Nat.le_of_not_lt (fun hl=>h ⟨rfl,by simpa using hl⟩)
section
variable {B:fK} {n:Nat} {S:St C} {d:Nat} {V:Nat→Value} {a:Act} {w:World} {N:Nat→Prop} {bs:ao→Nat→Prop}
theorem je.of (G:Good P C) (h:Rel C B S V w N bs) (ha:lQ n V a) (d:Nat):je P C B n (clear S d) d V a w N bs where
 gD:=G
 rel c:=h.clear d (gZ V d c)
 vU:=lk S d
 DK q hq _:=ha.eval hq
 Ew:=ha
theorem je.Dr (h:je P C B n S d V a w N bs):Rel C B S V w N bs:=by
 have:=h.rel (V d)
 have e:jJ V d (V d)=V:=by
  funext t;unfold jJ;split
  ·rename_i h;rw[h]
  ·rfl
 rwa [e]at this
theorem je.at (h:je P C B n S d V a w N bs) {q:Nat} (hq:q<n) (hu:get S q≠ .undef) (c:Value):a.eval (.tmp q)=jJ V d c q:=by
 have hne:q≠d:=fun e=>hu (by rw[e];exact h.vU);rw[gZ V d c q hne];exact h.DK q hq hu
theorem je.ev (h:je P C B n S d V a w N bs) {x:Operand} (hx:aT n x=true) (t:TypeId) (c:Value):
 aR C (bL C S (jJ V d c) w) (cL C S (jJ V d c)) w N (Cu bs x) (ev C S t x) (a.eval x):=by
 cases x with
 | tmp q=>
   have hq:q<n:=by simpa [aT]using hx
   show aR C _ _ w N _ (get S q) _
   by_cases hu:get S q= .undef
   ·rw[hu];trivial
   ·rw[h.at hq hu c];exact(h.rel c).fo q _ (iz rfl hu)
 | const v=>exact aR.gJ (pk t v)
 | func f=>exact⟨#[],rfl,rfl,fun i v hi=>by simp at hi⟩
 | global g=>trivial
end
theorem qW {A:ao→Value→Prop} {X:Nat→Nat→Prop} {w:World} {N B B':Nat→Prop} {v:C.PV} {c:Value} (r:ao) (h:aJ C A X w N B v c) (hA:(∃dp e xs,v= .own dp e xs)→A r c):aJ C A X w N B' (k9 r v) c:=by
 cases v with
 | own dp e xs=>exact hA ⟨_,_,_,rfl⟩
 | _=>exact h
theorem iO {U:gm} (t:Nat) (p:List Nat):∀(ls:List (PV U)) (k i:Nat),(gH t p k ls)[i]? =(ls[i]?).map (k9 (t,p++[k+i]))
 | [],k,i=>by simp[gH]
 | v::vs,k,0=>by simp[gH]
 | v::vs,k,i+1=>by
   simp only[gH,List.getElem?_cons_succ];rw[iO t p vs (k+1) i,show k+1+i=k+(i+1) by omega]
theorem ks {U:gm} (t:Nat) (p:List Nat):∀(ls:List (PV U)) (k:Nat),(gH t p k ls).length=ls.length
 | [],k=>rfl
 | v::vs,k=>by simp[gH,ks t p vs (k+1)]
theorem fe.second {A:ao→Value→Prop} {X:Nat→Nat→Prop} {w:World} {N:Nat→Prop} {Bs Bs':Nat→Nat→Prop} {ls:List C.PV} {cs:Array Value} (t:Nat) (p:List Nat) (h:fe C A X w N Bs ls cs) (hA:∀i c,(∃dp e xs,ls[i]? =some (.own dp e xs))→cs[i]? =some c→A (t,p++[i]) c):fe C A X w N Bs' (gH t p 0 ls) cs:=by
 refine⟨by rw[ks];exact h.1,fun i v hi=> ?_⟩;rw[iO,Nat.zero_add]at hi;cases hl:ls[i]? with
 | none=>rw[hl]at hi;cases hi
 | some x=>
   rw[hl]at hi;obtain rfl:=Option.some.inj hi;obtain⟨u,h1,h2⟩:=h.2 i x hl;exact⟨u,h1,qW _ h2 (fun⟨dp,e,xs,hx⟩=>hA i u ⟨dp,e,xs,by rw[hl,hx]⟩ h1)⟩
theorem lB {U:gm} (t:Nat):∀(vs:List (PV U)) (k i:Nat),(jP t k vs)[i]? =(vs[i]?).map (uo t (k+i))
 | [],k,i=>by simp[jP]
 | v::vs,k,0=>by simp[jP]
 | v::vs,k,i+1=>by
   simp only[jP,List.getElem?_cons_succ];rw[lB t vs (k+1) i,show k+1+i=k+(i+1) by omega]
theorem mW {U:gm} (t:Nat):∀(vs:List (PV U)) (k:Nat),(jP t k vs).length=vs.length
 | [],k=>rfl
 | v::vs,k=>by simp[jP,mW t vs (k+1)]
theorem oO {B:fK} {S:St C} {V:Nat→Value} {w:World} {N:Nat→Prop} {bs:ao→Nat→Prop} (h:Rel C B S V w N bs) (q:Nat) (bs':List Nat→Nat→Prop):
 aR C (bL C S V w) (cL C S V) w N bs' (jl q (get S q)) (V q):=by
 cases hs:S[q]? with
 | none=>unfold get;rw[List.getD_eq_getElem?_getD,hs];trivial
 | some v=>
   have hg:=get_some hs;rw[hg];have hrep:=h.fo q v hs
   have row:∀p c,(∃dp e xs,bc p v= .own dp e xs)→walk w p (V q)=some c→bL C S V w (q,p) c:=fun p c ⟨dp,e,xs,hl⟩ hc=>by
    refine⟨?_,hc⟩;unfold look;simp only[hg,hl];rfl
   cases v with
   | agg ls=>
     obtain⟨cs,hc,ha⟩:=hrep;exact⟨cs,hc,ha.second q [] (fun i c ⟨dp,e,xs,hl⟩ hu=>row [i] c ⟨dp,e,xs,by simp only[bc];exact get_at hl⟩ (by rw[hc];simp[walk,hu]))⟩
   | box ls=>
     obtain⟨b,cs,ty,hc,h0,hh,ha⟩:=hrep;exact⟨b,⟨⟨ls,hg⟩,hc⟩,hc⟩
   | gG vs=>
     obtain⟨cs,hc,hl,ha⟩:=hrep;refine⟨cs,hc,by rw[mW];exact hl,fun i v hi=> ?_⟩;rw[lB,Nat.zero_add]at hi;cases hv:vs[i]? with
     | none=>rw[hv]at hi;cases hi
     | some x=>
       rw[hv]at hi;obtain rfl:=Option.some.inj hi;obtain⟨u,h1,h2⟩:=ha i x hv;refine⟨u,h1,?_⟩;cases x with
       | agg ls=>
         obtain⟨cs',rfl,ha'⟩:=h2;exact⟨cs',rfl,ha'.second q [i] (fun j c ⟨dp,e,xs,hl'⟩ hu=>row [i,j] c ⟨dp,e,xs,by simp only[bc];rw[get_at hv];simp only[bc];exact get_at hl'⟩ (by rw[hc];simp[walk,h1,hu]))⟩
       | _=>exact ga.gJ (qW _ (h2.k8 (by simp)) (fun⟨dp,e,xs,hx⟩=>row [i] u ⟨dp,e,xs,by simp only[bc];rw[get_at hv,hx]⟩ (by rw[hc];simp[walk,h1])))
   | own dp e xs=>exact row [] (V q) ⟨dp,e,xs,rfl⟩ rfl
   | _=>exact hrep
section
variable {B:fK} {n:Nat} {S:St C} {d:Nat} {V:Nat→Value} {a:Act} {w:World} {N:Nat→Prop} {bs:ao→Nat→Prop}
theorem je.second (h:je P C B n S d V a w N bs) {x:Operand} (hx:aT n x=true) (t:TypeId) (c:Value) (bs':List Nat→Nat→Prop):
 aR C (bL C S (jJ V d c) w) (cL C S (jJ V d c)) w N bs' (bA C S t x) (a.eval x):=by
 cases x with
 | tmp q=>
   have hq:q<n:=by simpa [aT]using hx
   show aR C _ _ w N bs' (jl q (get S q)) _
   by_cases hu:get S q= .undef
   ·rw[hu];trivial
   ·rw[h.at hq hu c];exact oO (h.rel c) q bs'
 | const v=>exact aR.gJ (pk t v)
 | func f=>exact⟨#[],rfl,rfl,fun i v hi=>by simp at hi⟩
 | global g=>trivial
theorem je.int (h:je P C B n S d V a w N bs) {x:Operand} (hx:aT n x=true) {t:TypeId} {k:IntKind} {m:Int} (he:aa.ev C S t x= .int k m):a.eval x= .int k m:=by
 have:=h.ev hx t undef;rw[he]at this;exact this
theorem je.bool (h:je P C B n S d V a w N bs) {x:Operand} (hx:aT n x=true) {t:TypeId} {b:Bool} (he:aa.ev C S t x= .bool b):a.eval x= .bool b:=by
 have:=h.ev hx t undef;rw[he]at this;exact this
theorem je.str (h:je P C B n S d V a w N bs) {x:Operand} (hx:aT n x=true) {t:TypeId} {s:ByteArray} (he:aa.ev C S t x= .str s):a.eval x= .string s:=by
 have:=h.ev hx t undef;rw[he]at this;exact this
theorem je.out (h:je P C B n S d V a w N bs) {o:Oper} (v:C.PV) (c:Value) (hr:(execOp a.eval o).run P w= .ok (.value c) w)
 (hv:aR C (bL C S (jJ V d c) w) (cL C S (jJ V d c)) w N (fun p=>bs (d,p)) v c):Out P C B (S.set d v) d V a o w:=
 ⟨c,w,N,bs,hr,(h.rel c).fill d v h.vU (by rw[fp];exact hv)⟩
theorem je.qo (h:je P C B n S d V a w N bs) {o:Oper} (v:C.PV) (c:Value) {S':St C} {p:Option Prop} (hr:(execOp a.eval o).run P w= .ok (.value c) w)
 (hv:aR C (bL C S (jJ V d c) w) (cL C S (jJ V d c)) w N (fun p=>bs (d,p)) v c) (hc:nr C (S.set d v) d=some (p,S')):Out P C B S' d V a o w:=by
 have h1:=(h.rel c).fill d v h.vU (by rw[fp];exact hv);unfold nr at hc;split at hc
 ·rename_i S1 hS;cases hc;obtain⟨N',bs',h2,_⟩:=h1.gF d hS;exact⟨c,w,N',bs',hr,h2⟩
 ·cases hc
theorem Au (h:je P C B n S d V a w N bs) {o:Oper} {x:Operand} (ho:o.op= .move x) (hx:aT n x=true) {p:Option Prop} {S':St C} (he:mb C S d o.type x=some (p,S')):Out P C B S' d V a o w:=by
 cases he;exact h.out _ (a.eval x) (by simp[execOp,ho]) (h.second hx _ _ _)
theorem xN (h:je P C B n S d V a w N bs) {o:Oper} {x:Operand} (ho:o.op= .assign x) (hx:aT n x=true) {p:Option Prop} {S':St C} (he:za C S d o.type x=some (p,S')):Out P C B S' d V a o w:=
 h.qo _ (a.eval x) (by simp[execOp,ho]) (h.second hx _ _ _) he
theorem Good.Dz (G:Good P C) {t:TypeId} (h:zM C t=true):P.underlying t=some .bool:=by
 unfold zM at h;split at h
 ·rename_i hT;cases G.ty t _ hT;assumption
 ·cases h
theorem Good.BX (G:Good P C) {t:TypeId} (h:zx C t=true):P.underlying t=some .string:=by
 unfold zx at h;split at h
 ·rename_i hT;cases G.ty t _ hT;assumption
 ·cases h
theorem Good.DY (G:Good P C) {t:TypeId} (h:AD C t=true):∃k,P.underlying t=some (.int k):=by
 unfold AD at h;split at h
 ·rename_i hT;cases G.ty t _ hT;exact⟨_,by assumption⟩
 ·cases h
theorem Good.jY (G:Good P C) {t e:TypeId} (h:iK C t e=true):P.underlying t=some (.slice e)∧C.ty t=some (.slice e):=by
 unfold iK at h;split at h
 ·rename_i hT;have he:=of_decide_eq_true h;subst he;refine⟨?_,hT⟩;cases G.ty t _ hT;assumption
 ·cases h
theorem run_equalIn_bool {t:TypeId} (hu:P.underlying t=some .bool) (w:World) (k:Nat) (a b:Bool):(Op.equalIn (k+1) t (.bool a) (.bool b)).run P w= .ok (a==b) w:=by
 simp[Op.equalIn,run_underlying hu]
theorem run_equal_bool {t:TypeId} (hu:P.underlying t=some .bool) (w:World) (a b:Bool):(Op.equal t (.bool a) (.bool b)).run P w= .ok (a==b) w:=run_equalIn_bool hu w 9999 a b
theorem s8 (a b:ByteArray):(a.toList==b.toList)=(a==b):=(beq_toListBytes a b).symm
theorem ze {A:ao→Value→Prop} {X:Nat→Nat→Prop} {bs':List Nat→Nat→Prop} {qs:List (IntKind×Int)} {c:Value} {f:IntKind×Int×Int→IntKind×Int} {ps:List (IntKind×Int×Int)} (h:aR C A X w N bs' (.agg (ps.map fun p=> .int (f p).1 (f p).2)) c):c= .agg (ps.map fun p=>Value.int (f p).1 (f p).2).toArray:=by
 obtain⟨cs,rfl,hsz,hag⟩:=h;congr 1;apply Array.ext
 ·simpa using hsz
 ·intro i h1 h2;obtain⟨u,hu,hr⟩:=hag i (.int (f (ps[i]'(by simpa using h2))).1 (f (ps[i]'(by simpa using h2))).2) (by simp[List.getElem?_map,List.getElem?_eq_getElem (show i<ps.length by simpa using h2)]);rw[Array.getElem?_eq_getElem h1]at hu;cases hu;rw[show cs[i]=_ from hr];simp
theorem yH (h:je P C B n S d V a w N bs) {o:Oper} {op:BinOp} {t u:TypeId} {x y:Operand} (ho:o.op= .binOp op t x y u) (hx:aT n x=true) (hy:aT n y=true) {p:Option Prop} {v:C.PV}
 (he:Ag C op t (aa.ev C S t x) (aa.ev C S u y)=some (p,v)) (hp:p.getD True):Out P C B (S.set d v) d V a o w:=by
 unfold Ag at he;split at he
 ·rename_i k m k' m' h1 h2;have e1:=h.int hx h1;have e2:=h.int hy h2;split at he
  ·rename_i r hr;cases he;unfold AR at hr
   split at hr<;>first
    | cases hr;done
    | (cases hr
       refine h.out _ _ (by
        simp only[execOp,ho,e1,e2,Sem.run_bind,eqGuard_at_int,Sem.run_pure,Result.andThen_ok,binOp,Op.shift];simp only[Option.getD_some]at hp;rw[if_neg (by omega)];rfl) (by first | rfl | trivial))
  ·split at he
   ·rename_i hk;subst hk;unfold CY at he
    split at he<;>cases he<;>refine h.out _ _ (by
     simp only[execOp,ho,e1,e2,Sem.run_bind,eqGuard_at_int,Sem.run_pure,Result.andThen_ok,binOp,ne_eq,not_true_eq_false,if_false,Op.intArith,Op.intDiv,Op.intCmp,Op.intBits]
     first
      | rfl
      | (simp only[Option.getD_some]at hp;simp only[if_neg hp];rfl)) (by first | rfl | trivial)
   ·cases he
 ·rename_i m m' h1 h2;have e1:=h.bool hx h1;have e2:=h.bool hy h2;split at he
  ·rename_i hb;have hu:=h.gD.Dz hb;split at he<;>cases he
   ·refine h.out _ (.bool (m==m')) ?_ rfl;simp[execOp,ho,e1,e2,eqGuard_at_bool,binOp,run_equal_bool hu]
   ·refine h.out _ (.bool (m !=m')) ?_ rfl;simp[execOp,ho,e1,e2,eqGuard_at_bool,binOp,run_equal_bool hu,bne]
  ·cases he
 ·rename_i m m' h1 h2;have e1:=h.str hx h1;have e2:=h.str hy h2;split at he<;>cases he
  ·refine h.out _ (.string (m++m')) ?_ rfl;simp only[Option.getD_some,room]at hp
   have:¬(((m.size+m'.size:Nat):Int)>IntKind.i64.max):=by
    have:IntKind.i64.max=9223372036854775807:=by decide
    rw[this];push_cast;omega
   simp only[execOp,ho,e1,e2,Sem.run_bind,eqGuard_at_string,Sem.run_pure,Result.andThen_ok,binOp,Op.stringOp,if_neg this]
  ·exact h.out _ (.bool (m==m')) (by simp only[execOp,ho,e1,e2,Sem.run_bind,eqGuard_at_string,Sem.run_pure,Result.andThen_ok,binOp,Op.stringOp,s8]) rfl
  ·exact h.out _ (.bool (m !=m')) (by simp only[execOp,ho,e1,e2,Sem.run_bind,eqGuard_at_string,Sem.run_pure,Result.andThen_ok,binOp,Op.stringOp,s8,bne]) rfl
 ·rename_i ls ms h1 h2;split at he
  ·rename_i heq;split at he
   ·rename_i r hr;obtain⟨ps,rfl,rfl,rfl⟩:=qA ls ms hr;obtain⟨heq1,hg⟩:=h.gD.eq t _ heq ps w (by simp)
    have e1:a.eval x= .agg (ps.map fun p=>Value.int p.1 p.2.1).toArray:=by
     have:=h.ev hx t undef;rw[h1]at this;exact ze (qs:=[]) (f:=fun p=>(p.1,p.2.1)) this
    have e2:a.eval y= .agg (ps.map fun p=>Value.int p.1 p.2.2).toArray:=by
     have:=h.ev hy u undef;rw[h2]at this;exact ze (qs:=[]) (f:=fun p=>(p.1,p.2.2)) this
    have hrun:∀op,(op= .eql∨op= .neq)→(eqGuard op t x y (a.eval x) (a.eval y)).run P w= .ok () w:=fun op hop=>by
     rw[e1,e2];unfold eqGuard;rcases hop with rfl | rfl<;>simp[Sem.run_bind,hg]
    split at he
    ·cases he;refine h.out _ (.bool _) ?_ rfl;have hr1:=hrun .eql (.inl rfl);rw[e1,e2]at hr1;simp only[execOp,ho,Sem.run_bind,e1,e2,hr1,Result.andThen_ok,binOp,heq1,Sem.run_pure]
    ·cases he;refine h.out _ (.bool _) ?_ rfl;have hr1:=hrun .neq (.inr rfl);rw[e1,e2]at hr1;simp only[execOp,ho,Sem.run_bind,e1,e2,hr1,Result.andThen_ok,binOp,heq1,Sem.run_pure]
    ·cases he
   ·cases he
  ·cases he
 ·cases he
end
end Go.Proofs.YtmapddgocpkgeaaGreat.aa
namespace Go.Proofs.YtmapddgocpkgeaaGreat.aa
open Go.RowKit
set_option linter.unusedVariables false
set_option linter.unusedSimpArgs false
variable {P:Program} {C:Ctx}
theorem jy.info {t:TypeId} {T:Ty C.U} (h:jy P C t T):∃i,P.info? t=some i∧i.size=T.size:=by
 cases h with
 | int k h hz=>obtain⟨i,h1,_,h3⟩:=hz;exact⟨i,h1,h3⟩
 | bool h hz=>obtain⟨i,h1,_,h3⟩:=hz;exact⟨i,h1,h3⟩
 | str h hz=>obtain⟨i,h1,_,h3⟩:=hz;exact⟨i,h1,h3⟩
 | slice e h hz=>obtain⟨i,h1,_,h3⟩:=hz;exact⟨i,h1,h3⟩
 | struct fs zs fields cs h hf hz hs hc hp=>obtain⟨i,h1,_,h3⟩:=hz;exact⟨i,h1,h3⟩
 | arr n e zs cs h hn he hz hs hc=>obtain⟨i,h1,_,h3⟩:=hz;exact⟨i,h1,h3⟩
 | ptr e h hz=>obtain⟨i,h1,_,h3⟩:=hz;exact⟨i,h1,h3⟩
theorem jy.sizeOf {t:TypeId} {T:Ty C.U} (h:jy P C t T) (w:World):(sizeOf t).run P w= .ok T.size w:=by
 obtain⟨i,h1,h2⟩:=h.info;simp[Go.sizeOf,typeInfo,h1,h2]
theorem jy.isAgg {t:TypeId} {T:Ty C.U} (h:jy P C t T) (w:World):(Go.isAgg t).run P w= .ok T.isAgg w:=by
 cases h with
 | int k h hz=>simp[Go.isAgg,run_underlying h,Ty.isAgg]
 | bool h hz=>simp[Go.isAgg,run_underlying h,Ty.isAgg]
 | str h hz=>simp[Go.isAgg,run_underlying h,Ty.isAgg]
 | slice e h hz=>simp[Go.isAgg,run_underlying h,Ty.isAgg]
 | struct fs zs fields cs h hf hz hs hc hp=>simp[Go.isAgg,run_underlying h,Ty.isAgg]
 | arr n e zs cs h hn he hz hs hc=>simp[Go.isAgg,run_underlying h,Ty.isAgg]
 | ptr e h hz=>simp[Go.isAgg,run_underlying h,Ty.isAgg]
theorem jy.size_leaf {t:TypeId} {T:Ty C.U} (h:jy P C t T) (ha:T.isAgg=false):T.size=1:=by
 cases h<;>first | rfl | simp[Ty.isAgg]at ha
def iC (T:Ty C.U) (u:Nat→Value) (p:Nat):Value:=if T.isAgg then .agg ((List.range T.size).map fun i=>u (p+i)).toArray else u p
theorem jq {t:TypeId} {T:Ty C.U} (h:jy P C t T) (w:World) (b o p k:Nat) (u:Nat→Value) (hk:p+T.size≤k) (hc:∀i,i<k→w.cell? ⟨b,o+i,none⟩=some (u i)):
 (Instr.loadAt t (.pointer (some ⟨b,o+p,none⟩))).run P w= .ok (iC T u p) w:=by
 simp only[Instr.loadAt,Instr.sureAddr,Sem.run_bind,Sem.run_pure,Result.andThen_ok,loadVar,h.isAgg w];unfold iC;cases ha:T.isAgg with
 | true=>
   have hl:(loadCells ⟨b,o+p,none⟩ ((List.range T.size).map fun i=>u (p+i)).length).run P w= .ok ((List.range T.size).map fun i=>u (p+i)).toArray w:=
    run_loadCells_list (P:=P) w ⟨b,o+p,none⟩ _ (fun j v hv=>by
     rw[List.getElem?_map]at hv;cases hj:(List.range T.size)[j]? with
     | none=>rw[hj]at hv;cases hv
     | some j'=>
       rw[hj]at hv;cases hv;obtain⟨hlt,he⟩:=List.getElem?_eq_some_iff.1 hj;rw[List.getElem_range]at he;subst he;rw[List.length_range]at hlt;rw[Addr.add_mid,show o+p+j=o+(p+j) by omega];exact hc _ (by omega))
   rw[List.length_map,List.length_range]at hl;simp[h.sizeOf w,hl]
 | false=>
   have:=hc p (by have:=h.size_leaf ha;omega);simp[this]
theorem Ce {t:TypeId} {T:Ty C.U} (h:jy P C t T) (w:World) (cs:Array Value) (p:Nat) (hk:p+T.size≤cs.size):
 (Go.part t cs p).run P w= .ok (iC T (fun i=>cs.getD i undef) p) w:=by
 unfold Go.part iC;cases ha:T.isAgg with
 | true=>
   simp only[Sem.run_bind,h.isAgg w,ha,Result.andThen_ok,if_true,h.sizeOf w,Sem.run_pure];congr 1;congr 1;apply Array.ext_getElem?;intro i;simp only[Array.getElem?_extract,List.getElem?_toArray,List.getElem?_map,Array.getD_eq_getD_getElem?]
   by_cases hi:i<T.size
   ·rw[List.getElem?_eq_getElem (by simpa using hi)];have:p+i<cs.size:=by omega
    simp[this,hi,Nat.min_eq_left hk]
   ·rw[List.getElem?_eq_none (by simpa using hi)];simp[Nat.min_eq_left hk,hi]
 | false=>
   have h1:=h.size_leaf ha;have:p<cs.size:=by omega
   simp[h.isAgg w,ha,this]
theorem oK {A:ao→Value→Prop} {X:Nat→Nat→Prop} {w:World} {N:Nat→Prop} (T:Ty C.U) (ls:List C.PV) (u:Nat→Value) (p:Nat) (hk:p+T.size≤ls.length)
 (hr:∀i v,ls[i]? =some v→∀B,aJ C A X w N B v (u i)) (bs:List Nat→Nat→Prop):aR C A X w N bs (part C T ls p) (iC T u p):=by
 unfold part iC;cases ha:T.isAgg with
 | true=>
   simp only[if_true];refine⟨_,rfl,by simp;omega,fun i v hi=> ?_⟩;rw[List.getElem?_take]at hi;split at hi
   ·rename_i hlt;rw[List.getElem?_drop]at hi;refine⟨u (p+i),?_,hr _ _ hi _⟩;simp[hlt]
   ·cases hi
 | false=>
   simp only[Bool.false_eq_true,if_false];unfold get;rw[List.getD_eq_getElem?_getD];cases hp:ls[p]? with
   | none=>trivial
   | some v=>exact aR.gJ (hr _ _ hp _)
theorem gC.rep {A:ao→Value→Prop} {X:Nat→Nat→Prop} {w:World} {N:Nat→Prop} {v:C.PV} {c:Value} (h:gC C w N v c) (B:Nat→Prop):aJ C A X w N B v c:=by
 cases h with
 | int k n=>rfl
 | bool b=>rfl
 | str s=>rfl
 | nil e A c=>exact .nil e A c
 | sl e xs b o c u hb hc hu hv=>exact .sl e xs b o c u hb hc hu hv
theorem Good.len (G:Good P C) (e:TypeId) (x:C.U.T e):(leaves (C.enc e x)).length=C.sz e:=G.gk e x
section
variable {B:fK} {n:Nat} {S:St C} {d:Nat} {V:Nat→Value} {a:Act} {w:World} {N:Nat→Prop} {bs:ao→Nat→Prop}
theorem je.read (h:je P C B n S d V a w N bs) {x:Operand} (hx:aT n x=true) {t:TypeId} {v':C.PV} (hr:aa.read C S (aa.ev C S t x)=some v'):
 uu C w (behind S N bs (aZ C (bG x) (aa.ev C S t x))) (leaves v') (a.eval x).cells∧(aQ v'=true→gC C w (behind S N bs (aZ C (bG x) (aa.ev C S t x))) v' (a.eval x)):=
 mT (h.rel undef) (bG x) _ _ _ (h.ev hx t undef) (fun p b hb=>by
  cases x with
  | tmp q=>exact⟨q,rfl,rfl,hb⟩
  | const v=>exact hb.elim
  | func f=>exact hb.elim
  | global g=>exact hb.elim) hr
theorem gC.mL {w:World} {N:Nat→Prop} {e:TypeId} {xs:List (C.U.T e)} {c:Value} (h:gC C w N (.sl e xs) c):
 (xs=[]∧∃A cap,c= .slice A 0 cap)∨∃b o cap,∃u:Nat→Nat→Value,c= .slice (some ⟨b,o,none⟩) xs.length cap∧N b∧xs.length≤cap∧
  (∀j x,xs[j]? =some x→∀i v,(leaves (C.enc e x))[i]? =some v→w.cell? ⟨b,o+(j*C.sz e+i),none⟩=some (u j i))∧
  (∀j x,xs[j]? =some x→∀i v,(leaves (C.enc e x))[i]? =some v→gC C w N v (u j i)):=by
 generalize hv:(PV.sl e xs:C.PV)=v at h;cases h with
 | nil e' A cap=>cases hv;exact .inl ⟨rfl,A,cap,rfl⟩
 | sl e' xs' b o cap u hb hc hcu hcv=>cases hv;exact .inr ⟨b,o,cap,u,rfl,hb,hc,hcu,hcv⟩
 | _=>cases hv
theorem gC.B8 {w:World} {N:Nat→Prop} {s:ByteArray} {c:Value} (h:gC C w N (.str s) c):c= .string s:=h.rep (A:=fun _ _=>False) (X:=fun _ _=>False) (fun _=>False)
theorem gC.row {w:World} {N:Nat→Prop} {e:TypeId} {xs:List (C.U.T e)} {c:Value} (h:gC C w N (.sl e xs) c):∃A cap,c= .slice A xs.length cap∧(A=none→xs=[]):=by
 cases h with
 | nil e A cap=>exact⟨A,cap,rfl,fun _=>rfl⟩
 | sl e xs b o cap u hb hc hu hv=>exact⟨_,cap,rfl,fun h=>by cases h⟩
theorem zN (h:je P C B n S d V a w N bs) {o:Oper} {op:UnOp} {t:TypeId} {x:Operand} (ho:o.op= .unOp op t x) (hx:aT n x=true) {p:Option Prop} {S':St C}
 (he:nS C S d o=some (p,S')):Out P C B S' d V a o w:=by
 unfold nS at he;rw[ho]at he;simp only at he;split at he
 ·rename_i b h1;cases he;exact h.out _ (.bool !b) (by simp[execOp,ho,h.bool hx h1,Op.unary]) rfl
 ·rename_i k m h1;cases he;exact h.out _ (.int k (k.wrap (-m))) (by simp[execOp,ho,h.int hx h1,Op.unary,Op.intArith]) rfl
 ·cases he
theorem Good.vU (G:Good P C) {t:TypeId} {T:Ty C.U} (h:C.ty t=some T):∃D,P.underlying t=some D:=by cases G.ty t T h<;>exact⟨_,by assumption⟩
theorem zY (h:je P C B n S d V a w N bs) {o:Oper} {src t e:TypeId} {x:Operand} (ho:o.op= .convert src t x) (hx:aT n x=true) (hs:C.ty src=some (.slice e)) (ht:C.ty t=some .str) {p:Option Prop} {S':St C}
 (he:Aa C S d e (aa.ev C S t x)=some (p,S')) (hp:p.getD True):Out P C B S' d V a o w:=by
 unfold Aa at he;split at he
 ·rename_i e' xs hr hty;split at he
  ·rename_i hee;subst hee;cases he;have hp:∀y,y∈xs→isByte (C.enc e' y):=hp;have hsrc:P.underlying src=some (.slice e'):=by cases h.gD.ty src _ hs;assumption
   have hk:P.underlying t=some .string:=by cases h.gD.ty t _ ht;assumption
   have hu:P.underlying e'=some (.int .u8):=by cases h.gD.ty e' _ hty;assumption
   have hI:=(h.read hx (t:=t) hr).2 rfl
   have e1:(convert src t (a.eval x)).run P w= .ok (.string (xV C e' xs)) w:=by
    rcases hI.mL with⟨rfl,A,cap,hc⟩ | ⟨b,off,cap,u,hc,_,_,hcu,hcv⟩
    ·rw[hc];cases A with
     | none=>exact run_convert_bytes_nil w src e' hsrc hu 0 cap t hk
     | some A=>rw[run_convert_bytes_string w src t e' _ 0 cap hsrc hu hk,run_bytesToString w A 0 cap [] (by have:=run_loadCells_list (P:=P) w A [] (fun j v hj=>by simp at hj);simpa using this)];rfl
    ·rw[hc]
     let ns:List Int:=xs.map fun y=>match C.enc e' y with
      | .int _ m=>m
      | _=>0
     have hns:xV C e' xs=strOfNums ns:=by
      show(⟨_⟩:ByteArray)=⟨_⟩;congr 2;show _=List.map _ (List.map _ _);rw[List.map_map];refine List.map_congr_left fun y hy=> ?_;obtain⟨m,hm⟩:=hp y hy;simp[hm,byteOf]
     rw[hns];refine run_convert_bytes_arg w src e' hsrc hu b off xs.length cap ns (by simp[ns]) (fun i hi=> ?_) t hk;have hxi:xs[i]? =some xs[i]:=List.getElem?_eq_getElem hi;obtain⟨m,hm⟩:=hp xs[i] (List.getElem_mem hi);have hsz:C.sz e'=1:=by rw[←h.gD.gk e' xs[i],hm];rfl
     have h1:=hcu i xs[i] hxi 0 (.int .u8 m) (by rw[hm];rfl);have h2:=hcv i xs[i] hxi 0 (.int .u8 m) (by rw[hm];rfl);rw[hsz,Nat.mul_one,Nat.add_zero]at h1
     have h3:u i 0= .int .u8 m:=by
      have:=h2.rep (A:=fun _ _=>False) (X:=fun _ _=>False) (fun _=>False);exact this
     rw[h1,h3];have:ns.getD i 0=m:=by simp[ns,List.getD,hxi,hm]
     rw[this]
   exact h.out _ (.string (xV C e' xs)) (by simp[execOp,ho,e1]) rfl
  ·cases he
 ·cases he
theorem wm (h:je P C B n S d V a w N bs) {o:Oper} {src t:TypeId} {x:Operand} (ho:o.op= .convert src t x) (hx:aT n x=true) {p:Option Prop} {S':St C}
 (he:rL C S d src t x=some (p,S')) (hp:p.getD True):Out P C B S' d V a o w:=by
 unfold rL at he;split at he
 ·rename_i T k k' m hs ht h1;cases he;obtain⟨D,hD⟩:=h.gD.vU hs;have hk:P.underlying t=some (.int k):=by cases h.gD.ty t _ ht;assumption
  exact h.out _ (.int k (k.wrap m)) (by simp[execOp,ho,h.int hx h1,convert,run_underlying hD,run_underlying hk,Conv.intToInt]) rfl
 ·rename_i T s hs ht h1;cases he;obtain⟨D,hD⟩:=h.gD.vU hs;have hk:P.underlying t=some .string:=by cases h.gD.ty t _ ht;assumption
  exact h.out _ (.string s) (by simp[execOp,ho,h.str hx h1,convert,run_underlying hD,run_underlying hk]) rfl
 ·rename_i e hs ht _;exact zY h ho hx hs ht he hp
 ·cases he
theorem sK {U:gm}:∀(ls:List (PV U)) {bs:List Bool},ra ls=some bs→bs.length=ls.length∧∀(i:Nat) (b:Bool),bs[i]? =some b→ls[i]? =some (.bool b)
 | [],bs,h=>by cases h;exact⟨rfl,fun i b hb=>by simp at hb⟩
 | v::ls,bs,h=>by
   cases v with
   | bool b=>
     unfold ra at h;split at h
     ·rename_i bs' hb;cases h;obtain⟨h1,h2⟩:=sK ls hb;refine⟨by simp[h1],fun i c hc=> ?_⟩;cases i with
      | zero=>simpa using hc
      | succ i=>exact h2 i c (by simpa using hc)
     ·cases h
   | _=>simp[ra]at h
theorem yy (h:je P C B n S d V a w N bs) {o:Oper} {t:TypeId} {x i:Operand} (ho:o.op= .index t x i) (hx:aT n x=true) (hi:aT n i=true) {p:Option Prop} {S':St C}
 (he:xt C S d t x i=some (p,S')) (hp:p.getD True):Out P C B S' d V a o w:=by
 unfold xt at he;split at he
 ·rename_i ls k m h1 h2;split at he
  ·rename_i n' e zs bl hT hbl;split at he
   rotate_left
   ·cases he
   rename_i hlen;cases he;simp only[Option.getD_some]at hp;obtain⟨h0,hlt⟩:=hp;obtain⟨hl,hg⟩:=sK ls hbl;have hm:m.toNat<bl.length:=by omega
   have hb:=hg m.toNat (bl.getD m.toNat false) (by rw[List.getD_eq_getElem?_getD,List.getElem?_eq_getElem hm];rfl);have hrep:=h.ev hx t (.bool (bl.getD m.toNat false));rw[h1]at hrep;obtain⟨cs,hc,hsz,hcs⟩:=hrep;obtain⟨u,hu,hur⟩:=hcs _ _ hb;have hur:u= .bool (bl.getD m.toNat false):=hur;subst hur
   obtain⟨hn,hua,hue,ie,hie,hsize⟩:zs.length=n'∧P.underlying t=some (.array n' e)∧P.underlying e=some .bool∧∃i,P.info? e=some i∧i.size=1:=by
    cases h.gD.ty t _ hT with
    | arr n e zs cs h hn he hz hs hc=>exact⟨hn,h,he.1,he.2⟩
   refine h.out _ (.bool (bl.getD m.toNat false)) ?_ rfl;simp[execOp,ho,hc,h.int hi h2,Instr.index,asIntOf,run_underlying hua,h0,hlt,sizeOf,typeInfo,hie,hsize,Go.part,Go.isAgg,run_underlying hue,hu]
  ·cases he
 ·rename_i s k m h1 h2;split at he
  ·rename_i hs;cases he;simp only[Option.getD_some]at hp;obtain⟨h0,hlt⟩:=hp;have hu:=h.gD.BX hs;have hm:m.toNat<s.size:=by omega
   refine h.out _ (.int .u8 (s.data.toList.getD m.toNat 0).toNat) ?_ rfl
   have:s[m.toNat]? =some (s.data.toList.getD m.toNat 0):=by
    have hm':m.toNat<s.data.size:=hm;simp[List.getD_eq_getElem?_getD,hm',hm,ByteArray.getElem_eq_getElem_data,getElem?_pos]
   simp[execOp,ho,h.str hx h1,h.int hi h2,Instr.index,asIntOf,run_underlying hu,h0,this]
  ·cases he
 ·cases he
theorem Bi (h:je P C B n S d V a w N bs) {o:Oper} {t1:TypeId} {ts:List TypeId} {x:Operand} {c:Call} (ho:o.op= .call c) (hcl:c.callee= .builtin .len) (hxs:c.args.toList=[x]) (hts:c.argTypes.toList=t1::ts) (hx:aT n x=true) {p:Option Prop} {S':St C}
 (he:Ch C S d t1 x=some (p,S')):Out P C B S' d V a o w:=by
 have hargs:c.args= #[x]:=by rw[←Array.toArray_toList (xs:=c.args),hxs]
 have htys:c.argTypes=(t1::ts).toArray:=by rw[←Array.toArray_toList (xs:=c.argTypes),hts]
 unfold Ch at he;split at he
 ·rename_i s hr;split at he
  ·rename_i hs;cases he;have hu:=h.gD.BX hs;obtain⟨_,him⟩:=h.read hx hr;have hc:a.eval x= .string s:=(him rfl).B8;refine h.out _ (.int .i64 s.size) ?_ rfl;simp[execOp,ho,resolve,hcl,hargs,invoke,builtin,Builtin.len_,htys,run_underlying hu,hc,goInt]
  ·cases he
 ·rename_i e xs hr;split at he
  ·rename_i hs;cases he;obtain⟨hu,_⟩:=h.gD.jY hs;obtain⟨_,him⟩:=h.read hx hr;obtain⟨A,cap,hc,_⟩:=(him rfl).row;refine h.out _ (.int .i64 xs.length) ?_ rfl;simp[execOp,ho,resolve,hcl,hargs,invoke,builtin,Builtin.len_,htys,run_underlying hu,hc,goInt]
  ·cases he
 ·cases he
theorem vH (h:je P C B n S d V a w N bs) {o:Oper} {x:Operand} (ho:o.op= .nilCheck x) (hx:aT n x=true) {p:Option Prop} {S':St C} (he:nS C S d o=some (p,S')):Out P C B S' d V a o w:=by
 have hsec:=fun c=>h.second hx o.type c (fun p=>bs (d,p))
 have key:∀ad,a.eval x= .pointer (some ad)→mb C S d o.type x=some (p,S')→Out P C B S' d V a o w:=fun ad hc he=>by
  cases he;exact h.out _ (a.eval x) (by simp[execOp,ho,hc]) (hsec _)
 have h0:=hsec undef;unfold nS at he;rw[ho]at he;simp only at he;split at he
 ·rename_i hs;rw[hs]at h0;obtain⟨b,_,hc⟩:=h0;exact key _ hc he
 ·rename_i hs;rw[hs]at h0;obtain⟨b,_,_,_,_,hc⟩:=h0;exact key _ hc he
 ·rename_i hs;rw[hs]at h0;obtain⟨b,o',_,hc,_⟩:=h0;exact key _ hc he
 ·cases he
theorem je.row (h:je P C B n S d V a w N bs) {x:Operand} (hx:aT n x=true) {t:TypeId} {R:Row C} (hr:rowOf C S (bG x) (aa.ev C S t x)=some R) (c:Value):
 (R.root=none→gC C w N (.sl R.e R.xs) (a.eval x))∧∀dp r,R.root=some (dp,some r)→bL C S (jJ V d c) w r (a.eval x)∧look S r= .own dp R.e R.xs:=by
 have hrep:=h.ev hx t c;unfold rowOf at hr;split at hr
 ·rename_i e xs hs;cases hr;rw[hs]at hrep;exact⟨fun _=>hrep,fun _ _ h=>by cases h⟩
 ·rename_i dp e xs hs;cases hr;refine⟨(fun h=>by cases h),fun dp' r hr=> ?_⟩;cases x with
  | tmp q=>
    simp only[bG,Option.map_some,Option.some.injEq,Prod.mk.injEq]at hr;obtain⟨rfl,rfl⟩:=hr;have hg:get S q= .own dp e xs:=hs;have hq:q<n:=by simpa [aT]using hx
    have hl:look S (q,[])= .own dp e xs:=hg;refine⟨⟨by rw[hl];rfl,?_⟩,hl⟩;rw[h.at hq (by rw[hg];simp) c];rfl
  | _=>simp[bG]at hr
 ·rename_i q hs;rw[hs]at hrep;have hrow:bL C S (jJ V d c) w q (a.eval x):=hrep;split at hr
  ·rename_i dp e xs hl;cases hr;refine⟨(fun h=>by cases h),fun dp' r hr=> ?_⟩;simp only[Option.some.injEq,Prod.mk.injEq]at hr;obtain⟨rfl,rfl⟩:=hr;exact⟨hrow,hl⟩
  ·rename_i e xs hl;cases hr;obtain⟨c',hc',hrep'⟩:=eH.look (h.rel c) q (cc hrow.1);rw[hrow.2]at hc';cases hc';rw[hl]at hrep';exact⟨fun _=>hrep',fun _ _ h=>by cases h⟩
  ·cases hr
 ·cases hr
theorem tK {α:Type} (xs:List α) (i:Int) (hi:0≤i) (hlt:i<(xs.length:Int)) (z:α):xs[i.toNat]? =some (xs.getD i.toNat z):=by
 have:i.toNat<xs.length:=by omega
 rw[List.getD_eq_getElem?_getD,List.getElem?_eq_getElem this];rfl
theorem th (h:je P C B n S d V a w N bs) {o:Oper} {t:TypeId} {x i:Operand} (ho:o.op= .indexAddr t x i) (hx:aT n x=true) (hi:aT n i=true) {p:Option Prop} {S':St C}
 (he:oo C S d t x i=some (p,S')) (hp:p.getD True):Out P C B S' d V a o w:=by
 unfold oo at he;split at he
 ·rename_i e xs k m h1 h2;split at he
  ·rename_i hs;cases he;simp only[Option.getD_some]at hp;obtain⟨h0,hlt⟩:=hp;obtain⟨hu,hty⟩:=h.gD.jY hs;obtain⟨ie,z,hie,_,hsz,_⟩:=h.gD.elem t e hty;have him:=(h.row hx h1 undef).1 rfl;have hxm:=tK xs m h0 hlt (C.U.d e);generalize hv:a.eval x=v at him;rcases him.mL with⟨hnil,_⟩ | ⟨b,o0,cap,u,rfl,hb,hcap,hcu,hcv⟩
   ·have hnil:xs=[]:=hnil;rw[hnil]at hlt;simp at hlt;omega
   ·refine h.out _ (.pointer (some ⟨b,o0+m.toNat*C.sz e,none⟩)) ?_ ?_
    ·simp[execOp,ho,hv,h.int hi h2,Instr.indexAt,asIntOf,run_underlying hu,h0,hlt,sizeOf,typeInfo,hie,hsz,Addr.add_lit]
    ·exact⟨b,o0+m.toNat*C.sz e,hb,rfl,fun i v hi=>⟨u m.toNat i,by rw[Nat.add_assoc];exact hcu _ _ hxm i v hi,hcv _ _ hxm i v hi⟩⟩
  ·cases he
 ·rename_i dp r e xs k m h1 h2;split at he
  ·rename_i hs;cases he;simp only[Option.getD_some]at hp;obtain⟨h0,hlt⟩:=hp;obtain⟨hu,hty⟩:=h.gD.jY hs;obtain⟨ie,z,hie,_,hsz,_⟩:=h.gD.elem t e hty;have hrow:=fun c=>(h.row hx h1 c).2 dp r rfl;obtain⟨c',hc',hrep⟩:=eH.look (h.rel undef) r (cc (hrow undef).1.1);rw[(hrow undef).1.2]at hc';cases hc';rw[(hrow undef).2]at hrep;have hrep:fk C w N (bs r) dp e xs (a.eval x):=hrep;rcases hrep with⟨_,rfl⟩ | ⟨b,cap,cur,lab,hc,_⟩
   ·simp at hlt;omega
   ·refine h.out _ (.pointer (some ⟨b,m.toNat*C.sz e+0,none⟩)) ?_ ⟨b,xs.length,cap,?_,⟨h0,by omega⟩,rfl⟩
    ·simp[execOp,ho,hc,h.int hi h2,Instr.indexAt,asIntOf,run_underlying hu,h0,hlt,sizeOf,typeInfo,hie,hsz,Addr.add_lit]
    ·rw[←hc];exact(hrow _).1
  ·cases he
 ·cases he
end
end Go.Proofs.YtmapddgocpkgeaaGreat.aa
namespace Go.Proofs.YtmapddgocpkgeaaGreat.aa
open Go.RowKit
set_option linter.unusedVariables false
set_option linter.unusedSimpArgs false
variable {P:Program} {C:Ctx}
theorem jy.fields {t:TypeId} {fs:List (Nat×TypeId)} {zs:List C.PV} (h:jy P C t (.struct fs zs)) {f off ft:Nat} (hf:fs[f]? =some (off,ft)):
 ∃fields:Array Field,∃g:Field,P.underlying t=some (.struct fields)∧fields[f]? =some g∧g.offset=off∧g.type=ft:=by
 cases h with
 | struct _ _ fields cs h hff hz hs hc hp=>
   rw[←hff,List.getElem?_map]at hf;cases hg:fields.toList[f]? with
   | none=>rw[hg]at hf;cases hf
   | some g=>
     rw[hg]at hf;simp only[Option.map_some,Option.some.injEq,Prod.mk.injEq]at hf;exact⟨fields,g,h,by rw[←hg];simp,hf.1,hf.2⟩
theorem nP (r:ao) (e:TypeId) (i:Int):∀(ls:List C.PV) (k:Nat),(kH C r e i k ls).length=ls.length
 | [],k=>rfl
 | v::vs,k=>by simp[kH,nP r e i vs (k+1)]
theorem l4 (r:ao) (e:TypeId) (i:Int):∀(ls:List C.PV) (k j:Nat),(kH C r e i k ls)[j]? =(ls[j]?).map (B4 C r e i (k+j))
 | [],k,j=>by simp[kH]
 | v::vs,k,0=>by simp[kH]
 | v::vs,k,j+1=>by
   simp only[kH,List.getElem?_cons_succ];rw[l4 r e i vs (k+1) j,show k+1+j=k+(j+1) by omega]
section
variable {B:fK} {n:Nat} {S:St C} {d:Nat} {V:Nat→Value} {a:Act} {w:World} {N:Nat→Prop} {bs:ao→Nat→Prop}
theorem tj (h:je P C B n S d V a w N bs) {o:Oper} {t:TypeId} {x:Operand} {f:Nat} (ho:o.op= .fieldAddr t x f) (hx:aT n x=true) {p:Option Prop} {S':St C}
 (he:lZ C S d t x f=some (p,S')):Out P C B S' d V a o w:=by
 unfold lZ at he;split at he
 ·rename_i fs zs hT;split at he
  ·rename_i off ft hf;split at he
   ·rename_i T hTf;obtain⟨fields,g,hu,hg,hoff,hft⟩:=(h.gD.ty t _ hT).fields hf;split at he
    ·cases he
    rename_i hne;have hso:∀w,(sizeOf g.type).run P w= .ok T.size w:=fun w=>by rw[hft];exact(h.gD.ty ft T hTf).sizeOf w
    have key:∀b k,a.eval x= .pointer (some ⟨b,k,none⟩)→(execOp a.eval o).run P w= .ok (.value (.pointer (some ⟨b,k+off,none⟩))) w:=fun b k hc=>by
     simp[execOp,ho,hc,Instr.fieldAt,run_underlying hu,hg,Instr.sureAddr,fieldPlace,hso,hne,Addr.add_lit,hoff]
    have hsec:=fun c=>h.second hx t c (fun p=>bs (d,p));have h0:=hsec undef;split at he
    ·rename_i q k hs;cases he;rw[hs]at h0;obtain⟨b,_,hc⟩:=h0;refine h.out _ _ (key _ _ hc) ?_;have h1:=hsec (.pointer (some ⟨b,k+off,none⟩));rw[hs]at h1;obtain⟨b',hb',hc'⟩:=h1;rw[hc]at hc';simp only[Value.pointer.injEq,Option.some.injEq,Addr.mk.injEq,and_true]at hc';exact⟨b,by cases hc';exact hb',rfl⟩
    ·rename_i v k hs;cases he;rw[hs]at h0;obtain⟨b,o',hb,hc,hl⟩:=h0;exact h.out _ _ (key _ _ hc) ⟨b,o',hb,by rw[Nat.add_assoc],hl⟩
    ·rename_i r e i k hs;cases he;rw[hs]at h0;obtain⟨b,n',cap,_,hi,hc⟩:=h0;refine h.out _ _ (key _ _ hc) ?_;have h1:=hsec (.pointer (some ⟨b,i.toNat*C.sz e+k+off,none⟩));rw[hs]at h1;obtain⟨b',n'',cap',hb',hi',hc'⟩:=h1;rw[hc]at hc';simp only[Value.pointer.injEq,Option.some.injEq,Addr.mk.injEq,and_true]at hc';exact⟨b,n'',cap',by cases hc';exact hb',hi',by rw[Nat.add_assoc]⟩
    ·cases he
   ·cases he
  ·cases he
 ·cases he
theorem fe.cell {A:ao→Value→Prop} {X:Nat→Nat→Prop} {w:World} {N:Nat→Prop} {Bs:Nat→Nat→Prop} {ls:List C.PV} {cs:Array Value} (h:fe C A X w N Bs ls cs) {i:Nat} (hi:i<ls.length):cs[i]? =some (cs.getD i undef):=by
 have:i<cs.size:=by rw[h.1];exact hi
 simp[Array.getD_eq_getD_getElem?,this]
theorem fe.get {A:ao→Value→Prop} {X:Nat→Nat→Prop} {w:World} {N:Nat→Prop} {Bs:Nat→Nat→Prop} {ls:List C.PV} {cs:Array Value} (h:fe C A X w N Bs ls cs) {i:Nat} {v:C.PV} (hi:ls[i]? =some v):aJ C A X w N (Bs i) v (cs.getD i undef):=by
 obtain⟨u,hu,hr⟩:=h.2 i v hi
 simpa [Array.getD_eq_getD_getElem?,hu]using hr
theorem rk {A:ao→Value→Prop} {X:Nat→Nat→Prop} {w:World} {N:Nat→Prop} {ls:List C.PV} {cs:Array Value} (q:Nat) (h:∀Bs,fe C A X w N Bs (gH q [] 0 ls) cs):
 ∀i v,(gH q [] 0 ls)[i]? =some v→∀B,aJ C A X w N B v (cs.getD i undef):=fun i v hi B=>(h (fun _=>B)).get hi
theorem Ab (h:je P C B n S d V a w N bs) {o:Oper} {t:TypeId} {x:Operand} (ho:o.op= .load t x) (hx:aT n x=true) {p:Option Prop} {S':St C}
 (he:vj C S d t x=some (p,S')):Out P C B S' d V a o w:=by
 unfold vj at he;split at he
 ·rename_i T hT;have tyok:=h.gD.ty t T hT;have hsec:=fun c=>h.second hx t c (fun p=>bs (d,p));have h0:=hsec undef;split at he
  ·rename_i v k hs;split at he
   ·rename_i hfit;cases he;have hfit:k+T.size≤(leaves v).length:=of_decide_eq_true hfit;rw[hs]at h0;obtain⟨b,o',hb,hc,hl⟩:=h0
    let u:Nat→Value:=fun i=>(w.cell? ⟨b,o'+i,none⟩).getD undef
    have hcell:∀i,i<(leaves v).length→w.cell? ⟨b,o'+i,none⟩=some (u i):=fun i hi=>by
     obtain⟨u',h1,_⟩:=hl i _ (List.getElem?_eq_getElem hi);simp only[u,h1,Option.getD_some]
    refine h.out _ (iC T u k) (by simp[execOp,ho,hc,jq tyok w b o' k _ u hfit hcell]) ?_;refine oK T _ u k hfit (fun i v hi B=> ?_) _;obtain⟨u',h1,h2⟩:=hl i _ hi;have:u i=u':=by simp only[u,h1,Option.getD_some]
    rw[this];exact h2.rep B
   ·cases he
  ·rename_i q k hs;split at he
   ·rename_i cs hq;split at he
    ·rename_i hfit;cases he;have hfit:k+T.size≤cs.length:=of_decide_eq_true hfit;rw[hs]at h0;obtain⟨b,⟨⟨ls',hls'⟩,hVq⟩,hc⟩:=h0;have hq':=iz hq (by simp);have box:=fun c=>(h.rel c).fo q _ hq';obtain⟨b',vs,ty,hb',hown,hheap,hagg⟩:=box undef;rw[hVq]at hb';simp only[Value.pointer.injEq,Option.some.injEq,Addr.mk.injEq,and_true]at hb';subst hb';have hlen:vs.size=cs.length:=hagg.1
     have hcell:∀i,i<cs.length→w.cell? ⟨b,0+i,none⟩=some (vs.getD i undef):=fun i hi=>by
      rw[Nat.zero_add,cell_of_row w b i vs ty (0,0) hheap];exact hagg.cell hi
     refine h.out _ (iC T (fun i=>vs.getD i undef) k) (by
      have:=jq tyok w b 0 k _ (fun i=>vs.getD i undef) hfit hcell;rw[Nat.zero_add]at this;simp[execOp,ho,hc,this]) ?_
     have hne:q≠d:=fun e=>by rw[e,h.vU]at hq;cases hq
     refine oK T _ _ k (by rw[ks];exact hfit) (rk q (fun Bs=> ?_)) _;obtain⟨b2,vs2,ty2,hb2,_,hheap2,hagg2⟩:=box (iC T (fun i=>vs.getD i undef) k);rw[gZ _ _ _ _ hne]at hb2;rw[gZ _ _ _ _ hne]at hVq;rw[hVq]at hb2;simp only[Value.pointer.injEq,Option.some.injEq,Addr.mk.injEq,and_true]at hb2;subst hb2;rw[hheap]at hheap2;cases hheap2;refine hagg2.second q [] (fun i c ⟨dp,e,xs,hl⟩ hu=>⟨?_,?_⟩)
     ·unfold look;simp only[hq,List.nil_append,bc];rw[get_at hl];rfl
     ·unfold jf;simp only[List.nil_append];rw[gZ _ _ _ _ hne,hVq];simp only[walk];rw[cell_of_row w b i vs ty (0,0) hheap,hu];rfl
    ·cases he
   ·cases he
  ·rename_i r e i k hs;split at he
   ·rename_i dp e' xs hl;split at he
    ·rename_i hcond;obtain⟨rfl,hfit⟩:=hcond;cases he;have hfit:k+T.size≤(leaves (elemAt C e' xs i)).length:=of_decide_eq_true hfit
     have at':∀c,∃b nn cap,bL C S (jJ V d c) w r (.slice (some ⟨b,0,none⟩) nn cap)∧a.eval x= .pointer (some ⟨b,i.toNat*C.sz e'+k,none⟩)∧0≤i∧i.toNat<nn:=fun c=>by
      have:=hsec c;rw[hs]at this;obtain⟨b,nn,cap,h1,h2,h3⟩:=this;exact⟨b,nn,cap,h1,h3,h2⟩
     obtain⟨b,nn,cap,hrow,hc,h0i,hlt⟩:=at' undef;obtain⟨c',hc',hrep⟩:=eH.look (h.rel undef) r (cc hrow.1);rw[hrow.2]at hc';cases hc';rw[hl]at hrep;obtain⟨cur,lab,hnn,_,_,hh,_,_,_,h4⟩:=fk.slot hrep;have hlt:i<(xs.length:Int):=by omega
     have hxi:=tK xs i h0i hlt (C.U.d e')
     let u:Nat→Value:=fun j=>cur.getD (i.toNat*C.sz e'+j) undef
     have hcell:∀j,j<(leaves (elemAt C e' xs i)).length→w.cell? ⟨b,i.toNat*C.sz e'+j,none⟩=some (u j):=fun j hj=>by
      obtain⟨u',h1,_⟩:=h4 _ _ hxi j _ (List.getElem?_eq_getElem hj);rw[cell_of_row w b _ cur e' (0,0) hh,h1];simp only[u,Array.getD_eq_getD_getElem?,h1,Option.getD_some]
     refine h.out _ (iC T u k) (by simp[execOp,ho,hc,jq tyok w b _ k _ u hfit hcell]) ?_;obtain⟨b2,nn2,cap2,hrow2,hc2,_⟩:=at' (iC T u k);rw[hc]at hc2;simp only[Value.pointer.injEq,Option.some.injEq,Addr.mk.injEq,and_true]at hc2;have hb2:b=b2:=hc2;subst hb2
     have leafok:∀j v,(leaves (elemAt C e' xs i))[j]? =some v→nI C w N (fun b'=>bs r b'∧lab b'=some (i.toNat,j)) dp v (u j):=fun j v hj=>by
      obtain⟨u',h1,h2⟩:=h4 _ _ hxi j v hj;have:u j=u':=by simp only[u,Array.getD_eq_getD_getElem?,h1,Option.getD_some]
      rw[this];exact h2
     cases dp with
     | true=>
       refine oK T _ u k (by simp only[if_true];rw[nP];exact hfit) (fun j v hj B=> ?_) _;simp only[if_true]at hj;rw[l4,Nat.zero_add]at hj;cases hv:(leaves (elemAt C e' xs i))[j]? with
       | none=>rw[hv]at hj;cases hj
       | some v0=>
         rw[hv]at hj;cases hj;have hin:=leafok j v0 hv;cases v0 with
         | sl f ys=>
           obtain⟨c2,hc2',hrep2⟩:=eH.look (h.rel (iC T u k)) r (cc hrow2.1);rw[hrow2.2]at hc2';cases hc2';rw[hl]at hrep2;obtain⟨_,_,hnn,_⟩:=fk.slot hrep2;exact⟨b,nn2,cap2,hrow2,⟨h0i,by rw[hnn];omega,by rw[←h.gD.gk e' (xs.getD i.toNat (C.U.d e'))];exact(List.getElem?_eq_some_iff.1 hv).1⟩,hcell j (List.getElem?_eq_some_iff.1 hv).1⟩
         | _=>exact gC.rep hin B
     | false=>
       exact oK T _ u k hfit (fun j v hj B=>gC.rep (leafok j v hj) B) _
    ·cases he
   ·cases he
  ·cases he
 ·cases he
theorem yz (h:je P C B n S d V a w N bs) {o:Oper} {t:TypeId} {x:Operand} {f:Nat} (ho:o.op= .field t x f) (hx:aT n x=true) {p:Option Prop} {S':St C}
 (he:xZ C S d t x f=some (p,S')):Out P C B S' d V a o w:=by
 unfold xZ at he;split at he
 ·rename_i fs zs hT;split at he
  ·rename_i off ft hf;obtain⟨fields,g,hu,hg,hoff,hft⟩:=(h.gD.ty t _ hT).fields hf;have hsec:=fun c bs'=>h.second hx t c bs';split at he
   ·rename_i T ls hTf hs;split at he
    ·rename_i hfit;cases he;have hfit:off+T.size≤ls.length:=of_decide_eq_true hfit;have h0:=hsec undef (fun _ _=>False);rw[hs]at h0;obtain⟨cs,hc,hagg⟩:=h0;have hp:=Ce (h.gD.ty ft T hTf) w cs off (by rw[hagg.1];exact hfit);rw[←hft]at hp;refine h.out _ (iC T (fun i=>cs.getD i undef) off) (by simp[execOp,ho,hc,Instr.field,run_underlying hu,hg,asAgg,hoff,hp]) ?_;refine oK T ls _ off hfit (fun i v hi B=> ?_) _;have h1:=hsec (iC T (fun i=>cs.getD i undef) off) (fun _=>B);rw[hs]at h1;obtain⟨cs',hc',hagg'⟩:=h1;rw[hc]at hc';cases hc';exact hagg'.get hi
    ·cases he
   ·cases he
  ·cases he
 ·cases he
theorem wu (h:je P C B n S d V a w N bs) {o:Oper} {x:Operand} {i:Nat} (ho:o.op= .extract x i) (hx:aT n x=true) {p:Option Prop} {S':St C}
 (he:rR C S d i x=some (p,S')):Out P C B S' d V a o w:=by
 unfold rR at he;split at he
 ·rename_i vs hs;have h0:=h.second hx 0 undef (fun _ _=>False);rw[hs]at h0;obtain⟨cs,hc,hlen,hall⟩:=h0;split at he
  ·rename_i v hv;obtain⟨u,hu,_⟩:=hall i v hv;refine h.qo v u (by simp[execOp,ho,hc,Instr.extract,hu]) ?_ he;have h1:=h.second hx 0 u (fun p=>bs (d,p.tail));rw[hs]at h1;obtain⟨cs',hc',_,hall'⟩:=h1;rw[hc]at hc';cases hc';obtain⟨u',hu',hr⟩:=hall' i v hv;rw[hu]at hu';cases hu';cases v with
   | agg ls=>obtain⟨cs2,rfl,ha⟩:=hr;exact⟨cs2,rfl,ha⟩
   | box ls=>exact hr.elim
   | gG ls=>exact hr.elim
   | _=>exact hr
  ·cases he
 ·cases he
end
end Go.Proofs.YtmapddgocpkgeaaGreat.aa
namespace Go.Proofs.YtmapddgocpkgeaaGreat.aa
open Go.RowKit
set_option linter.unusedVariables false
set_option linter.unusedSimpArgs false
variable {P:Program} {C:Ctx}
theorem Kept.alloc {B:fK} {w:World} (h:Kept B w) (o:Go.Obj):Kept B (w.alloc o) where
 os:=h.os
 tape:=h.tape
 output:=h.output
 size:=by have:=h.size;simp;omega
 block b hb hm:=by rw[heap_alloc_old w o b (Nat.lt_of_lt_of_le hb h.size)];exact h.block b hb hm
theorem Rel.fresh {B:fK} {S:St C} {V:Nat→Value} {w:World} {N:Nat→Prop} {bs:ao→Nat→Prop} (h:Rel C B S V w N bs) (d:Nat) (hd:get S d= .undef) (o:Go.Obj):
 Rel C B S V (w.alloc o) N (fun r b=>if r=(d,[])then b=w.heap.size else bs r b):=by
 have h1:=h.world (w':=w.alloc o) (fun b hb=>heap_alloc_old w o b hb) (by simp) (h.kept.alloc o);refine eH.zJ h1 (fun q=> ?_) (fun _ h=>h) (fun r r' b hb hb'=> ?_) (fun r b hb=> ?_) h1.kd
 ·by_cases e:q=(d,[])
  ·right
   subst e;have:look S (d,[])= .undef:=by unfold look;rw[hd];rfl
   rw[this];exact⟨rfl,fun _ _ _ h=>by cases h⟩
  ·left
   funext b;simp[e]
 ·by_cases e:r=(d,[])
  ·by_cases e':r'=(d,[])
   ·rw[e,e']
   ·simp only[e,if_true]at hb;simp only[e',if_false]at hb';have:=(h.own r' b hb').2.1;omega
  ·simp only[e,if_false]at hb
   by_cases e':r'=(d,[])
   ·simp only[e',if_true]at hb';have:=(h.own r b hb).2.1;omega
   ·simp only[e',if_false]at hb';exact h.km r r' b hb hb'
 ·by_cases e:r=(d,[])
  ·simp only[e,if_true]at hb;subst hb;exact⟨fun hn=>by have:=(h.kd _ hn).1;omega,by simp,.inr h.kept.size⟩
  ·simp only[e,if_false]at hb;exact h1.own r b hb
theorem iX (w:World) (o:Go.Obj):(w.alloc o).heap[w.heap.size]? =some o:=heap_alloc_new w o
section
variable {B:fK} {n:Nat} {S:St C} {d:Nat} {V:Nat→Value} {a:Act} {w:World} {N:Nat→Prop} {bs:ao→Nat→Prop}
theorem mV {v:C.PV} {c:Value} {Bo:Nat→Prop} (h:Rel C B S V w N bs) (hr:aJ C (bL C S V w) (cL C S V) w N Bo v c) (hk:kQ C S v=true) (ho:∀dp e xs,v≠ .own dp e xs):c.cells= #[c]∧c.oneCell'=true∧leaves v=[v]:=by
 have rd:∀v',fX C S v=some v'→leaves v=[v]→c.cells= #[c]∧c.oneCell'=true∧leaves v=[v]:=fun v' hv hl=>by
  have:=(mI h none v v' c hr (fun dp e xs hh=>absurd hh (ho dp e xs)) hv).cells;exact⟨this.1,this.2.2,hl⟩
 cases v with
 | undef=>cases hk
 | void=>cases hk
 | agg ls=>cases hk
 | box ls=>cases hk
 | gG ls=>cases hk
 | iV q=>obtain⟨v',hv⟩:=Option.isSome_iff_exists.1 (show(fX C S (.iV q)).isSome=true from hk);exact rd v' hv rfl
 | kB q e i off=>obtain⟨v',hv⟩:=Option.isSome_iff_exists.1 (show(fX C S (.kB q e i off)).isSome=true from hk);exact rd v' hv rfl
 | own dp e xs=>exact absurd rfl (ho dp e xs)
 | int k m=>obtain rfl:c=_:=hr;exact⟨rfl,rfl,rfl⟩
 | bool k=>obtain rfl:c=_:=hr;exact⟨rfl,rfl,rfl⟩
 | str k=>obtain rfl:c=_:=hr;exact⟨rfl,rfl,rfl⟩
 | sl e xs=>have:=gC.cells hr;exact⟨this.1,this.2.2,rfl⟩
 | ptr t off=>obtain⟨b,_,rfl⟩:=hr;exact⟨rfl,rfl,rfl⟩
 | nR q e i off=>obtain⟨b,m,cap,_,_,rfl⟩:=hr;exact⟨rfl,rfl,rfl⟩
 | vw q e i off=>cases hk
 | rd x off=>obtain⟨b,o,_,rfl,_⟩:=hr;exact⟨rfl,rfl,rfl⟩
 | fn f caps=>obtain⟨cs,rfl,_⟩:=hr;exact⟨rfl,rfl,rfl⟩
theorem qd (r:ao) (v:C.PV):∀dp e xs,k9 r v≠ .own dp e xs:=fun dp e xs h=>by cases v<;>simp[k9]at h
theorem qv {x:Operand} {t:TypeId} {dp:Bool} {e:TypeId} {xs:List (C.U.T e)} (h:bA C S t x= .own dp e xs):∃v,x= .const v:=by
 cases x with
 | tmp q=>
   have h:jl q (get S q)= .own dp e xs:=h;cases hg:get S q<;>rw[hg]at h<;>first | (cases h;done) | exact absurd h (qd _ _ dp e xs)
 | const v=>exact⟨v,rfl⟩
 | func f=>cases h
 | global g=>cases h
theorem nZ {t:TypeId} {v:Value} {dp:Bool} {e:TypeId} {xs:List (C.U.T e)} (h:jt C t v= .own dp e xs):v= .slice none 0 0:=by
 unfold jt at h;split at h
 ·rfl
 ·unfold ofConst at h;split at h<;>cases h
theorem gT {v:C.PV} (h:aQ v=true):leaves v=[v]:=by cases v<;>first | rfl | simp[aQ]at h
theorem aR.k8 {A:ao→Value→Prop} {X:Nat→Nat→Prop} {w:World} {N:Nat→Prop} {bs:List Nat→Nat→Prop} {v:C.PV} {c:Value} (h:aR C A X w N bs v c) (hv:aQ v=true):aJ C A X w N (bs []) v c:=by
 cases v with
 | agg ls=>simp[aQ]at hv
 | box ls=>simp[aQ]at hv
 | gG ls=>simp[aQ]at hv
 | _=>exact h
theorem je.cells (h:je P C B n S d V a w N bs) {x:Operand} (hx:aT n x=true) {t:TypeId} (hk:known C S (bA C S t x)=true):
 (∀c Bs,fe C (bL C S (jJ V d c) w) (cL C S (jJ V d c)) w N Bs (leaves (bA C S t x)) (a.eval x).cells)∧∀u,u∈(a.eval x).cells→u.oneCell'=true:=by
 have hsec:=fun c bs'=>h.second hx t c bs'
 have leaf:∀v,bA C S t x=v→leaves v=[v]→(∀c Bs,aJ C (bL C S (jJ V d c) w) (cL C S (jJ V d c)) w N Bs v (a.eval x))→(a.eval x).cells= #[a.eval x]→(a.eval x).oneCell'=true→
  (∀c Bs,fe C (bL C S (jJ V d c) w) (cL C S (jJ V d c)) w N Bs (leaves (bA C S t x)) (a.eval x).cells)∧∀u,u∈(a.eval x).cells→u.oneCell'=true:=fun v hv hl hr hc h1=>by
  rw[hv,hl,hc];refine⟨fun c Bs=>⟨rfl,fun i y hi=> ?_⟩,fun u hu=>by simp at hu;rw[hu];exact h1⟩;cases i with
  | zero=>simp only[List.getElem?_cons_zero]at hi;cases hi;exact⟨_,rfl,hr c _⟩
  | succ i=>simp at hi
 by_cases hl:aQ (bA C S t x)=true
 ·have hr:∀c Bs,aJ C (bL C S (jJ V d c) w) (cL C S (jJ V d c)) w N Bs (bA C S t x) (a.eval x):=fun c Bs=>(hsec c (fun _=>Bs)).k8 hl
  by_cases ho:∃dp e xs,bA C S t x= .own dp e xs
  ·obtain⟨dp,e,xs,ho⟩:=ho;obtain⟨v,rfl⟩:=qv ho;have hvv:=nZ (show jt C t v= .own dp e xs from ho);exact leaf _ rfl (gT hl) hr (by rw[hvv];rfl) (by rw[hvv];rfl)
  ·have hk':kQ C S (bA C S t x)=true:=by
    unfold known at hk;rw[gT hl]at hk
    simpa using hk
   have h1:=mV (h.rel undef) (hr undef (fun _=>False)) hk' (fun dp e xs hh=>ho ⟨dp,e,xs,hh⟩);exact leaf _ rfl (gT hl) hr h1.1 h1.2.1
 ·cases hv:bA C S t x with
  | agg ls=>
    rw[hv]at hk hsec;obtain⟨cs,hc,hagg⟩:=hsec undef (fun _ _=>False);rw[hc];refine⟨fun c Bs=> ?_,fun u hu=> ?_⟩
    ·obtain⟨cs',hc',hagg'⟩:=hsec c (fun p=>Bs (p.headD 0));rw[hc]at hc';cases hc';exact hagg'
    ·obtain⟨i,hi,rfl⟩:=Array.mem_iff_getElem.1 (show u∈cs from hu);have hi':i<ls.length:=by rw[←hagg.1];exact hi
     obtain⟨u',hu',hr⟩:=hagg.2 i _ (List.getElem?_eq_getElem hi');rw[Array.getElem?_eq_getElem hi]at hu';cases hu';refine(mV (h.rel undef) hr (List.all_eq_true.1 hk _ (List.getElem_mem hi')) (fun dp e xs he=> ?_)).2.1;cases x with
     | tmp q=>
       have hv':jl q (get S q)= .agg ls:=hv;cases hg:get S q with
       | agg ls0=>
         rw[hg]at hv';cases hv';have:(gH q [] 0 ls0)[i]? =some (.own dp e xs):=by rw[List.getElem?_eq_getElem hi',he]
         rw[iO]at this;cases h0:ls0[i]? with
         | none=>rw[h0]at this;cases this
         | some v0=>rw[h0]at this;exact qd _ _ dp e xs (Option.some.inj this)
       | _=>rw[hg]at hv';simp[jl,k9]at hv'
     | const v=>
       exfalso;have hv':jt C t v= .agg ls:=hv;unfold jt at hv';split at hv'
       ·split at hv'<;>cases hv'
       ·unfold ofConst at hv';split at hv'<;>cases hv'
     | func f=>cases hv
     | global g=>cases hv
  | box ls=>rw[hv]at hk;simp[known,leaves,kQ]at hk
  | gG ls=>rw[hv]at hk;simp[known,leaves,kQ]at hk
  | _=>rw[hv]at hl;exact absurd rfl hl
end
end Go.Proofs.YtmapddgocpkgeaaGreat.aa
namespace Go.Proofs.YtmapddgocpkgeaaGreat.aa
open Go.RowKit
set_option linter.unusedVariables false
set_option linter.unusedSimpArgs false
variable {P:Program} {C:Ctx}
theorem ic.rep {A:ao→Value→Prop} {X:Nat→Nat→Prop} {w:World} {N B:Nat→Prop} {v:C.PV} {c:Value} (h:ic C v c):aJ C A X w N B v c:=by
 cases h with
 | int k m=>rfl
 | bool b=>rfl
 | str s=>rfl
 | own e=>exact fk.nil _ _ _ _ _
 | sl e=>exact .nil e none 0
 | undef v h=>trivial
theorem jy.zero {t:TypeId} {T:Ty C.U} (h:jy P C t T):∃z:Value,(∃i,P.info? t=some i∧i.zero=some z)∧z.cells.size=T.sZ.length∧∀(i:Nat) (v:C.PV),T.sZ[i]? =some v→∃u:Value,z.cells[i]? =some u∧ic C v u:=by
 have one:∀(v:C.PV) (c:Value),ic C v c→c.cells= #[c]→T.sZ=[v]→(∃i,P.info? t=some i∧i.zero=some c)→∃z:Value,(∃i,P.info? t=some i∧i.zero=some z)∧z.cells.size=T.sZ.length∧∀(i:Nat) (v:C.PV),T.sZ[i]? =some v→∃u:Value,z.cells[i]? =some u∧ic C v u:=fun v c hz hc hl hi=>by
  refine⟨c,hi,by rw[hc,hl];rfl,fun i x hx=> ?_⟩;rw[hl]at hx;cases i with
  | zero=>simp only[List.getElem?_cons_zero]at hx;cases hx;exact⟨c,by rw[hc];rfl,hz⟩
  | succ i=>simp at hx
 cases h with
 | int k h hz=>obtain⟨i,h1,h2,_⟩:=hz;exact one _ _ (.int k 0) rfl rfl ⟨i,h1,h2⟩
 | bool h hz=>obtain⟨i,h1,h2,_⟩:=hz;exact one _ _ (.bool false) rfl rfl ⟨i,h1,h2⟩
 | str h hz=>obtain⟨i,h1,h2,_⟩:=hz;exact one _ _ (.str .empty) rfl rfl ⟨i,h1,h2⟩
 | slice e h hz=>obtain⟨i,h1,h2,_⟩:=hz;exact one _ _ (.own e) rfl rfl ⟨i,h1,h2⟩
 | struct fs zs fields cs h hf hz hs hc hp=>obtain⟨i,h1,h2,_⟩:=hz;exact⟨.agg cs,⟨i,h1,h2⟩,hs,hc⟩
 | arr n e zs cs h hn he hz hs hc=>obtain⟨i,h1,h2,_⟩:=hz;exact⟨.agg cs,⟨i,h1,h2⟩,hs,hc⟩
 | ptr e h hz=>obtain⟨i,h1,h2,_⟩:=hz;exact one _ _ (.undef (.pointer none) rfl) rfl rfl ⟨i,h1,h2⟩
theorem yO {α β:Type} (g:α→Option β):∀(l:List α) (r:List β),l.mapM g=some r→∀(i:Nat) (x:α),l[i]? =some x→∃y,g x=some y∧r[i]? =some y
 | [],r,h,i,x,hx=>by simp at hx
 | y::ys,r,h,i,x,hx=>by
   simp only[List.mapM_cons,Option.bind_eq_bind,Option.pure_def]at h;cases hy:g y with
   | none=>rw[hy]at h;cases h
   | some z=>
     rw[hy]at h;cases hr:ys.mapM g with
     | none=>rw[hr]at h;cases h
     | some r'=>
       rw[hr]at h;cases h;cases i with
       | zero=>simp only[List.getElem?_cons_zero]at hx;cases hx;exact⟨z,hy,rfl⟩
       | succ i=>
         simp only[List.getElem?_cons_succ]at hx⊢;exact yO g ys r' hr i x hx
theorem foldl_set (off:Nat):∀(vs:List Value) (k:Nat) (cells:Array Value),
 ((vs.zipIdx k).foldl (fun cs x=>cs.setIfInBounds (off+x.2) x.1) cells).size=cells.size∧
 ∀i,off+k+vs.length≤cells.size→((vs.zipIdx k).foldl (fun cs x=>cs.setIfInBounds (off+x.2) x.1) cells)[i]? =if off+k≤i∧i<off+k+vs.length then vs[i-(off+k)]? else cells[i]?
 | [],k,cells=>⟨rfl,fun i _=>(if_neg (by simp only[List.length_nil];omega)).symm⟩
 | v::vs,k,cells=>by
   obtain⟨h1,h2⟩:=foldl_set off vs (k+1) (cells.setIfInBounds (off+k) v);simp only[List.zipIdx_cons,List.foldl_cons];refine⟨by rw[h1];simp,fun i hi=> ?_⟩;simp only[List.length_cons]at hi⊢;rw[h2 i (by simp;omega)]
   by_cases e:i=off+k
   ·subst e;rw[if_neg (by omega),if_pos (by omega)];have:off+k<cells.size:=by omega
    simp[this]
   ·by_cases e2:off+(k+1)≤i∧i<off+(k+1)+vs.length
    ·rw[if_pos e2,if_pos (by omega)];rw[show i-(off+k)=(i-(off+(k+1)))+1 by omega];simp
    ·rw[if_neg e2,if_neg (by omega)];simp[Array.getElem?_setIfInBounds,Ne.symm e]
theorem vY (ls:List C.PV) (off:Nat) (vs:List C.PV) (h:off+vs.length≤ls.length):(kK C ls off vs).length=ls.length:=by
 simp[kK];omega
theorem nN (ls:List C.PV) (off:Nat) (vs:List C.PV) (h:off+vs.length≤ls.length) (i:Nat):(kK C ls off vs)[i]? =if off≤i∧i<off+vs.length then vs[i-off]? else ls[i]? :=by
 unfold kK
 by_cases h1:i<off
 ·rw[if_neg (by omega),List.append_assoc,List.getElem?_append_left (by simp;omega),List.getElem?_take,if_pos h1]
 ·by_cases h2:i<off+vs.length
  ·rw[if_pos (by omega),List.append_assoc,List.getElem?_append_right (by simp;omega),List.getElem?_append_left (by simp;omega)];congr 1;simp;omega
  ·rw[if_neg (by omega),List.getElem?_append_right (by simp;omega),List.getElem?_drop];congr 1;simp;omega
theorem fe.kK {A:ao→Value→Prop} {X:Nat→Nat→Prop} {w:World} {N:Nat→Prop} {Bs:Nat→Nat→Prop} {ls vs:List C.PV} {cs us cs':Array Value} {off:Nat} (h:fe C A X w N Bs ls cs) (hv:fe C A X w N (fun i=>Bs (off+i)) vs us) (hf:off+vs.length≤ls.length)
 (hs:cs'.size=cs.size) (hg:∀i,cs'[i]? =if off≤i∧i<off+us.size then us[i-off]? else cs[i]?):fe C A X w N Bs (kK C ls off vs) cs':=by
 refine⟨by rw[hs,vY _ _ _ hf];exact h.1,fun i v hi=> ?_⟩;rw[nN _ _ _ hf]at hi;rw[hg i,hv.1];split at hi
 ·rename_i hc;rw[if_pos hc];obtain⟨u,h1,h2⟩:=hv.2 _ _ hi;refine⟨u,h1,?_⟩;have e:off+(i-off)=i:=by omega
  simp only[e]at h2;exact h2
 ·rename_i hc;rw[if_neg hc];exact h.2 i v hi
section
variable {B:fK} {n:Nat} {S:St C} {d:Nat} {V:Nat→Value} {a:Act} {w:World} {N:Nat→Prop} {bs:ao→Nat→Prop}
theorem fe.world {A A':ao→Value→Prop} {X X':Nat→Nat→Prop} {w w':World} {N N':Nat→Prop} {Bs Bs':Nat→Nat→Prop} {ls:List C.PV} {cs:Array Value} (h:fe C A X w N Bs ls cs)
 (hl:∀i x c,ls[i]? =some x→aJ C A X w N (Bs i) x c→aJ C A' X' w' N' (Bs' i) x c):fe C A' X' w' N' Bs' ls cs:=
 ⟨h.1,fun i v hi=>let⟨u,h1,h2⟩:=h.2 i v hi;⟨u,h1,hl i v u hi h2⟩⟩
theorem je.BO (h:je P C B n S d V a w N bs) {o:Oper} (ls:List C.PV) (cells:Array Value) (ty:TypeId)
 (hr:(execOp a.eval o).run P w= .ok (.value (.pointer (some ⟨w.heap.size,0,none⟩))) (w.alloc (.cells cells ty)))
 (hv:∀c Bs,fe C (bL C S (jJ V d c) (w.alloc (.cells cells ty))) (cL C S (jJ V d c)) (w.alloc (.cells cells ty)) N Bs ls cells):
 ∃bs',Rel C B (S.set d (.box ls)) (jJ V d (.pointer (some ⟨w.heap.size,0,none⟩))) (w.alloc (.cells cells ty)) N bs':=by
 have h1:=(h.rel (.pointer (some ⟨w.heap.size,0,none⟩))).fresh d h.vU (.cells cells ty);refine⟨_,h1.fill d (.box ls) h.vU ?_⟩;exact⟨w.heap.size,cells,ty,fp _ _ _,by simp,iX w _,hv _ _⟩
theorem zH (h:je P C B n S d V a w N bs) {o:Oper} {t:TypeId} (ho:o.op= .alloc t) {T:Ty C.U} (hT:C.ty t=some T):Out P C B (S.set d (.box T.sZ)) d V a o w:=by
 obtain⟨z,⟨i,hi,hz⟩,hsz,hall⟩:=(h.gD.ty t T hT).zero
 have hr:(execOp a.eval o).run P w= .ok (.value (.pointer (some ⟨w.heap.size,0,none⟩))) (w.alloc (.cells z.cells t)):=by
  simp[execOp,ho,Instr.alloc,zeroValue,typeInfo,hi,hz,newVar,newRow]
 obtain⟨bs',h1⟩:=h.BO (o:=o) T.sZ z.cells t hr (fun c Bs=>⟨hsz,fun i v hv=>let⟨u,h1,h2⟩:=hall i v hv;⟨u,h1,h2.rep⟩⟩);exact⟨_,_,_,bs',hr,h1⟩
theorem bL.world {w':World} (hw:∀b,b<w.heap.size→w'.heap[b]? =w.heap[b]?) {q:ao} {c:Value} (h:bL C S V w q c):bL C S V w' q c:=by
 have hcell:∀a v,w.cell? a=some v→w'.cell? a=some v:=fun a v ha=>by
  rw[cell_of_heap (w:=w) (hw a.block (World.block_lt_of_cell? w a ha))];exact ha
 have hwalk:∀(p:List Nat) (v c:Value),walk w p v=some c→walk w' p v=some c:=by
  intro p
  induction p with
  | nil=>intro v c h;exact h
  | cons i p ih=>
    intro v c hv;cases v with
    | agg cs=>
      simp only[walk]at hv⊢;cases hc:cs[i]? with
      | none=>rw[hc]at hv;cases hv
      | some u=>rw[hc]at hv;exact ih u c hv
    | tuple cs=>
      simp only[walk]at hv⊢;cases hc:cs[i]? with
      | none=>rw[hc]at hv;cases hv
      | some u=>rw[hc]at hv;exact ih u c hv
    | pointer a=>
      cases a with
      | none=>simp[walk]at hv
      | some a=>
        simp only[walk]at hv⊢;cases hc:w.cell? ⟨a.block,i,none⟩with
        | none=>rw[hc]at hv;cases hv
        | some u=>rw[hc]at hv;rw[hcell _ _ hc];exact ih u c hv
    | _=>simp[walk]at hv
 exact⟨h.1,hwalk _ _ _ h.2⟩
theorem z6 {w':World} (hw:∀b,b<w.heap.size→w'.heap[b]? =w.heap[b]?) (hN:∀b,N b→b<w.heap.size) {v:C.PV} {c:Value} {Bo:Nat→Prop} (hB:∀b,Bo b→b<w.heap.size)
 (hr:aJ C (bL C S V w) (cL C S V) w N Bo v c):aJ C (bL C S V w') (cL C S V) w' N Bo v c:=by
 have hcell:∀a v,w.cell? a=some v→w'.cell? a=some v:=fun a v ha=>by
  rw[cell_of_heap (w:=w) (hw a.block (World.block_lt_of_cell? w a ha))];exact ha
 have hA:∀q c,bL C S V w q c→bL C S V w' q c:=fun q c hq=>hq.world hw;have hb:∀b,N b∨Bo b→w'.heap[b]? =w.heap[b]? :=fun b hb=>hw b (hb.elim (hN b) (hB b));cases v with
 | kB q e i off=>
   obtain⟨b,n,cap,ha,hi,hc⟩:=hr;exact⟨b,n,cap,hA _ _ ha,hi,hcell _ _ hc⟩
 | undef=>trivial
 | void=>exact hr
 | int k n=>exact hr
 | bool b=>exact hr
 | str s=>exact hr
 | agg ls=>exact hr
 | box ls=>exact hr
 | gG ls=>exact hr
 | own dp e xs=>exact fk.move hr hb (fun _ h=>h) (fun _ h=>h)
 | sl e xs=>exact gC.mono hr (fun b hb'=>hb b (.inl hb')) (fun _ h=>h)
 | iV q=>exact hA _ _ hr
 | ptr t off=>exact hr
 | nR q e i off=>obtain⟨b,n,cap,ha,hi,hc⟩:=hr;exact⟨b,n,cap,hA _ _ ha,hi,hc⟩
 | vw q e i off=>obtain⟨b,n,cap,ha,hi,hc⟩:=hr;exact⟨b,n,cap,hA _ _ ha,hi,hc⟩
 | rd x off=>
   obtain⟨b,o,hb0,hc,hl⟩:=hr;exact⟨b,o,hb0,hc,fun i v hi=>let⟨u,h1,h2⟩:=hl i v hi;⟨u,hcell _ _ h1,h2.mono (fun b hb'=>hb b (.inl hb')) (fun _ h=>h)⟩⟩
 | fn f caps=>exact hr
theorem Cg {A:ao→Value→Prop} {X:Nat→Nat→Prop} {v:C.PV} {c:Value} (h:aJ C A X w N (fun _=>False) v c) (Bo:Nat→Prop):aJ C A X w N Bo v c:=
 h.move (fun _ _ h=>h) (fun _ _ h=>h) (fun _ _=>rfl) (fun _ _ _ _ _ _=>rfl) (fun _ h=>h) (fun _ h=>h.elim)
theorem Bn (h:je P C B n S d V a w N bs) {o:Oper} {t:TypeId} {x:Operand} (ho:o.op= .box t x) (hx:aT n x=true) {p:Option Prop} {S':St C} (he:BR C S d o.type x=some (p,S')):Out P C B S' d V a o w:=by
 unfold BR at he;split at he
 ·rename_i hk;obtain⟨hag,_⟩:=h.cells hx hk
  have hr:(execOp a.eval o).run P w= .ok (.value (.pointer (some ⟨w.heap.size,0,none⟩))) (w.alloc (.cells (a.eval x).cells t)):=by
   simp[execOp,ho,Instr.box,newVar,newRow]
  obtain⟨bs',h1⟩:=h.BO (o:=o) (leaves (bA C S o.type x)) _ t hr (fun c Bs=>⟨(hag undef Bs).1,fun i v hv=>by
   obtain⟨u,hu,hl⟩:=(hag c (fun _ _=>False)).2 i v hv;exact⟨u,hu,Cg (z6 (fun b hb=>heap_alloc_old w _ b hb) (fun b hb=>((h.rel c).kd b hb).1) (fun b hb=>hb.elim) hl) _⟩⟩)
  unfold nr at he;split at he
  ·rename_i S1 hS;cases he;obtain⟨N',bs'',h2,_⟩:=h1.gF d hS;exact⟨_,_,N',bs'',hr,h2⟩
  ·cases he
 ·cases he
theorem vh (h:je P C B n S d V a w N bs) {fields:Array Field} {fs:List (Nat×TypeId)} {places:List (Nat×Nat)} (hf:fields.toList.map (fun f=>(f.offset,f.type))=fs)
 (hpl:fields.toList.mapM (fun f=>(P.info? f.type).map fun i=>(f.offset,i.size))=some places):
 ∀(ps:List (Nat×Operand)) (ls ls':List C.PV) (cells:Array Value),(∀q,q∈ps→aT n q.2=true)→nf C fs S ps ls=some ls'→
  (∀c Bs,fe C (bL C S (jJ V d c) w) (cL C S (jJ V d c)) w N Bs ls cells)→
  ∃cells',Instr.fill (places.toArray[·]?) cells (ps.map fun q=>(q.1,a.eval q.2))=some cells'∧∀c Bs,fe C (bL C S (jJ V d c) w) (cL C S (jJ V d c)) w N Bs ls' cells'
 | [],ls,ls',cells,hps,hb,hag=>by cases hb;exact⟨cells,rfl,hag⟩
 | (f,x)::ps,ls,ls',cells,hps,hb,hag=>by
   unfold nf at hb;split at hb
   ·rename_i off ft hff;split at hb
    ·rename_i T hT;split at hb
     ·rename_i hc;simp only[Bool.and_eq_true,decide_eq_true_eq]at hc;obtain⟨⟨hk,hfit⟩,hlen⟩:=hc;have hfit:off+T.size≤ls.length:=of_decide_eq_true hfit;obtain⟨hxa,hx1⟩:=h.cells (hps (f,x) (by simp)) hk;have hxs:(a.eval x).cells.size=T.size:=by rw[(hxa undef (fun _ _=>False)).1];exact hlen
      have hcs:cells.size=ls.length:=(hag undef (fun _ _=>False)).1;obtain⟨ity,hity,hsz⟩:=(h.gD.ty ft T hT).info
      have hfield:∃g:Field,fields.toList[f]? =some g∧g.offset=off∧g.type=ft:=by
       rw[←hf,List.getElem?_map]at hff;cases hg:fields.toList[f]? with
       | none=>rw[hg]at hff;cases hff
       | some g=>
         rw[hg]at hff;simp only[Option.map_some,Option.some.injEq,Prod.mk.injEq]at hff;exact⟨g,rfl,hff.1,hff.2⟩
      obtain⟨g,hg,hgo,hgt⟩:=hfield;obtain⟨pl,hpl1,hpl2⟩:=yO _ _ _ hpl f g hg;rw[hgt,hity,hgo,Option.map_some,hsz]at hpl1;cases hpl1
      let cells1:=(a.eval x).cells.zipIdx.foldl (fun cs (c,j)=>cs.setIfInBounds (off+j) c) cells
      have hc1:cells1=((a.eval x).cells.toList.zipIdx 0).foldl (fun cs x=>cs.setIfInBounds (off+x.2) x.1) cells:=by
       simp only[cells1];rw[←Array.foldl_toList];simp
      obtain⟨s1,s2⟩:=foldl_set off (a.eval x).cells.toList 0 cells;rw[←hc1]at s1 s2
      have hstep:∀c Bs,fe C (bL C S (jJ V d c) w) (cL C S (jJ V d c)) w N Bs (kK C ls off (leaves (bA C S ft x))) cells1:=fun c Bs=>
       (hag c Bs).kK (hxa c _) (by rw[hlen];exact hfit) s1 (fun i=>by
        have:=s2 i (by simp;omega)
        simpa using this)
      obtain⟨cells',hfl,hag'⟩:=vh h hf hpl ps _ ls' cells1 (fun q hq=>hps q (List.mem_cons_of_mem _ hq)) hb hstep;refine⟨cells',?_,hag'⟩;simp only[List.map_cons,Instr.fill];have hplace:places.toArray[f]? =some (off,T.size):=by simpa using hpl2
      rw[hplace]
      have hcond:((a.eval x).cells.size≠T.size || decide (off+(a.eval x).cells.size>cells.size))=false:=by
       simp[hxs];omega
      simp only[hcond,Bool.false_eq_true,if_false];exact hfl
     ·cases hb
    ·cases hb
   ·cases hb
theorem yo (h:je P C B n S d V a w N bs) {o:Oper} {t:TypeId} {ps:Array (Nat×Operand)} (ho:o.op= .build t ps) (hps:∀q,q∈ps.toList→aT n q.2=true) {p:Option Prop} {S':St C}
 (he:yk C S d t ps.toList=some (p,S')):Out P C B S' d V a o w:=by
 unfold yk at he;split at he
 ·rename_i fs zs hT;split at he
  ·rename_i ls hb;obtain⟨z,⟨i,hi,hz⟩,hzs,hzall⟩:=(h.gD.ty t _ hT).zero;cases h.gD.ty t _ hT with
   | struct _ _ fields cs hu hf hz' hs hc hp=>
     obtain⟨places,hpl⟩:=Option.isSome_iff_exists.1 hp;obtain⟨cells',hfl,hag⟩:=vh h hf hpl ps.toList zs ls z.cells hps hb (fun c Bs=>⟨hzs,fun i v hv=>let⟨u,h1,h2⟩:=hzall i v hv;⟨u,h1,h2.rep⟩⟩)
     have hbuilt:P.built t (ps.map fun(i,x)=>(i,a.eval x)).toList=some cells':=by
      unfold Program.built;simp only[hi,hu,hz,hpl];rw[Array.toList_map];exact hfl
     refine h.qo (.agg ls) (.agg cells') ?_ ⟨cells',rfl,hag _ _⟩ he;simp only[execOp,ho,Sem.run_bind,run_build w t _ cells' hbuilt,Result.andThen_ok,Sem.run_pure]
  ·cases he
 ·cases he
theorem uD (h:je P C B n S d V a w N bs) (c:Value):∀(xs:List Operand) (caps:List C.PV),(∀x,x∈xs→aT n x=true)→rZ C S xs=some caps→
 caps.length=xs.length∧∀(i:Nat) (v:C.PV),caps[i]? =some v→∃t off b:Nat,v= .ptr t off∧cL C S (jJ V d c) t b∧(xs.map a.eval)[i]? =some (Value.pointer (some ⟨b,off,none⟩))
 | [],caps,hx,hc=>by cases hc;exact⟨rfl,fun i v hi=>by simp at hi⟩
 | x::xs,caps,hx,hc=>by
   have step:∀(l:List C.PV) (v0:C.PV),rZ C S xs=some l→caps=v0::l→(∃t off b:Nat,v0= .ptr t off∧cL C S (jJ V d c) t b∧a.eval x=Value.pointer (some ⟨b,off,none⟩))→
    caps.length=(x::xs).length∧∀(i:Nat) (v:C.PV),caps[i]? =some v→∃t off b:Nat,v= .ptr t off∧cL C S (jJ V d c) t b∧((x::xs).map a.eval)[i]? =some (Value.pointer (some ⟨b,off,none⟩)):=fun l v0 hl hcaps ⟨t,off,b,h1,h2,h3⟩=>by
    obtain⟨k1,k2⟩:=uD h c xs l (fun x hx'=>hx x (List.mem_cons_of_mem _ hx')) hl;subst hcaps;refine⟨by simp[k1],fun i v hi=> ?_⟩;cases i with
    | zero=>simp only[List.getElem?_cons_zero]at hi;cases hi;exact⟨t,off,b,h1,h2,by simp[h3]⟩
    | succ i=>simp only[List.getElem?_cons_succ,List.map_cons]at hi⊢;exact k2 i v hi
   have hev:=h.ev (hx x (by simp)) 0 c;unfold rZ at hc;split at hc
   ·rename_i ls q l hl hb;cases hc;refine step l _ hl rfl ⟨q,0,?_⟩;have hb:get S q= .box ls:=hb;rw[show aa.ev C S 0 (.tmp q)= .box ls from hb]at hev;obtain⟨b,cs,ty,hcq,_⟩:=hev;refine⟨b,rfl,⟨⟨ls,hb⟩,?_⟩,hcq⟩;rw[←h.at (by simpa [aT]using hx (.tmp q) (by simp)) (by rw[hb];simp) c];exact hcq
   ·rename_i _ q off l hl hb;cases hc;rw[hb]at hev;obtain⟨b,hx1,hx2⟩:=hev;exact step l _ hl rfl ⟨q,off,b,rfl,hx1,hx2⟩
   ·cases hc
theorem uI (h:je P C B n S d V a w N bs) {o:Oper} {f:FuncId} {caps:Array Operand} (ho:o.op= .makeFunc (.func f) #[] caps) (hx:∀x,x∈caps.toList→aT n x=true) {l:List C.PV} (hc:rZ C S caps.toList=some l):Out P C B (S.set d (.fn f l)) d V a o w:=by
 refine h.out _ (.func (.func f) #[] (caps.map a.eval)) (by simp[execOp,ho,Instr.makeFunc]) ?_;obtain⟨h1,h2⟩:=uD h (.func (.func f) #[] (caps.map a.eval)) caps.toList l hx hc;refine⟨caps.map a.eval,rfl,by simp[h1],fun i v hi=> ?_⟩;obtain⟨t,off,b,e1,e2,e3⟩:=h2 i v hi;refine⟨t,off,b,e1,e2,?_⟩
 simpa using e3
end
end Go.Proofs.YtmapddgocpkgeaaGreat.aa
namespace Go.Proofs.YtmapddgocpkgeaaGreat.aa
open Go.RowKit
set_option linter.unusedVariables false
set_option linter.unusedSimpArgs false
variable {P:Program} {C:Ctx}
theorem ic.Dc {w:World} {N B:Nat→Prop} {v:C.PV} {c:Value} (h:ic C v c) (hv:(∃k n,v= .int k n)∨(∃b,v= .bool b)∨(∃s,v= .str s)∨∃f ys,v= .sl f ys) (dp:Bool):nI C w N B dp v c:=by
 cases h with
 | int k m=>cases dp<;>exact .int k m
 | bool b=>cases dp<;>exact .bool b
 | str s=>cases dp<;>exact .str s
 | own e=>rcases hv with⟨_,_,h⟩ | ⟨_,h⟩ | ⟨_,h⟩ | ⟨_,_,h⟩<;>cases h
 | sl e=>
   cases dp with
   | false=>exact .nil e none 0
   | true=>exact .inl ⟨rfl,rfl⟩
 | undef v h=>rcases hv with⟨_,_,h⟩ | ⟨_,h⟩ | ⟨_,h⟩ | ⟨_,_,h⟩<;>cases h
theorem o6 {k:Int} {by':Nat} (hb:0<by') (h0:0≤k) (h:k*by'≤room):k≤140737488355328:=by
 unfold room at h;have:k*1≤k*by':=Int.mul_le_mul_of_nonneg_left (by omega) h0;omega
section
variable {B:fK} {n:Nat} {S:St C} {d:Nat} {V:Nat→Value} {a:Act} {w:World} {N:Nat→Prop} {bs:ao→Nat→Prop}
theorem Bv (h:je P C B n S d V a w N bs) {o:Oper} {c:Call} {x y:Operand} (ho:o.op= .call c) (hcl:c.callee= .builtin .min) (hxs:c.args.toList=[x,y]) (hx:aT n x=true) (hy:aT n y=true) {t u:TypeId} {k k':IntKind} {m m':Int}
 (h1:aa.ev C S t x= .int k m) (h2:aa.ev C S u y= .int k' m'):Out P C B (S.set d (.int k (if m'<m then m' else m))) d V a o w:=by
 have hargs:c.args= #[x,y]:=by rw[←Array.toArray_toList (xs:=c.args),hxs]
 exact h.out _ (.int k (if m'<m then m' else m)) (by simp[execOp,ho,resolve,hcl,hargs,invoke,builtin,Builtin.min_,Builtin.min2,h.int hx h1,h.int hy h2]) rfl
theorem Bj (h:je P C B n S d V a w N bs) {o:Oper} {c:Call} {x y:Operand} (ho:o.op= .call c) (hcl:c.callee= .builtin .max) (hxs:c.args.toList=[x,y]) (hx:aT n x=true) (hy:aT n y=true) {t u:TypeId} {k k':IntKind} {m m':Int}
 (h1:aa.ev C S t x= .int k m) (h2:aa.ev C S u y= .int k' m'):Out P C B (S.set d (.int k (if m'>m then m' else m))) d V a o w:=by
 have hargs:c.args= #[x,y]:=by rw[←Array.toArray_toList (xs:=c.args),hxs]
 exact h.out _ (.int k (if m'>m then m' else m)) (by simp[execOp,ho,resolve,hcl,hargs,invoke,builtin,Builtin.max_,Builtin.max2,h.int hx h1,h.int hy h2]) rfl
theorem pv (z:Array Value) (sz k j i:Nat) (hz:z.size=sz) (hi:i<sz) (hk:j*sz+i<k) (u:Value) (hu:z[i]? =some u):(madeCells z k)[j*sz+i]? =some u:=by
 unfold madeCells;have hm:(j*sz+i) % z.size=i:=by rw[hz,Nat.mul_comm,Nat.mul_add_mod,Nat.mod_eq_of_lt hi]
 simp[hk,hm,getElem!_def,hu]
theorem pV {j m sz i:Nat} (hj:j<m) (hi:i<sz):j*sz+i<m*sz:=by
 have:(j+1)*sz≤m*sz:=Nat.mul_le_mul_right _ hj;rw[Nat.add_mul,Nat.one_mul]at this;omega
theorem Bg (G:Good P C) {e:TypeId} {z:Value} {N':Nat→Prop} {w':World} (b k m:Nat) (hz:z.cells.size=C.sz e)
 (hall:∀(i:Nat) (v:C.PV),(leaves (C.enc e (C.U.d e)))[i]? =some v→∃u:Value,z.cells[i]? =some u∧ic C v u) (hk:k≤m) (hm:m≤maxLen)
 (hh:w'.heap[b]? =some (.cells (madeCells z.cells (m*C.sz e)) e (0,0))):fk C w' N' (fun b'=>b'=b) true e (List.replicate k (C.U.d e)) (.slice (some ⟨b,0,none⟩) k m):=by
 refine .inr ⟨b,m,_,fun _=>none,by rw[List.length_replicate],rfl,rfl,hh,by rw[List.length_replicate];exact hk,hm,size_madeCells _ _,fun j x hx i v hi=> ?_⟩;obtain⟨hj,he⟩:=List.getElem?_eq_some_iff.1 hx;rw[List.length_replicate]at hj;rw[List.getElem_replicate]at he;subst he;obtain⟨u,hu,hzo⟩:=hall i v hi;have hi':i<C.sz e:=by rw[←hz];exact(Array.getElem?_eq_some_iff.1 hu).1
 exact⟨u,pv _ _ _ _ _ hz hi' (pV (Nat.lt_of_lt_of_le hj hk) hi') u hu,hzo.Dc (G.kE e _ v (List.mem_of_getElem? hi)) true⟩
theorem tD (h:je P C B n S d V a w N bs) {o:Oper} {t:TypeId} {l c:Operand} (ho:o.op= .makeSlice t l c) (hl:aT n l=true) (hc:aT n c=true) {p:Option Prop} {S':St C}
 (he:oa C S d t l c=some (p,S')) (hp:p.getD True):Out P C B S' d V a o w:=by
 unfold oa at he;split at he
 ·rename_i e kl m kc m' hT h1 h2;cases he;simp only[Option.getD_some]at hp;obtain⟨h0,hle,hroom⟩:=hp;obtain⟨i,z,hi,hz,hsz,hby,hzs,hpos,hbpos,hall⟩:=h.gD.elem t e hT;have hu:P.underlying t=some (.slice e):=by cases h.gD.ty t _ hT;assumption
  have h0':0≤m':=Int.le_trans h0 hle;have hmax:=o6 hbpos h0' hroom;have hr:=run_make (P:=P) w t e i z hu hi hz kl kc m m' h0 hle (by rw[hby,Int.mul_comm];unfold room at hroom;omega) (by omega);rw[hsz]at hr;have hml:m'.toNat≤maxLen:=by simp only[maxLen];omega
  have hrun:(execOp a.eval o).run P w= .ok (.value (.slice (some ⟨w.heap.size,0,none⟩) m.toNat m'.toNat)) (w.alloc (.cells (madeCells z.cells (m'.toNat*C.sz e)) e)):=by
   simp only[execOp,ho,h.int hl h1,h.int hc h2,Sem.run_bind,hr,Result.andThen_ok,Sem.run_pure]
  obtain⟨bs',h3⟩:=(h.rel (.slice (some ⟨w.heap.size,0,none⟩) m.toNat m'.toNat)).jB (w':=w.alloc (.cells (madeCells z.cells (m'.toNat*C.sz e)) e)) d h.vU (fun _=>False) (fun _ hq=>hq.elim) (fun b hb _=>heap_alloc_old w _ b hb) (by simp) ((h.rel undef).kept.alloc _)
   (N':=N) (Bd:=fun b=>b=w.heap.size) (fun _ h=>h) (fun _ h=> .inl h) (fun b hb=> .inr (by subst hb;simp)) (fun b hb hn=>by subst hb;have:=((h.rel undef).kd _ hn).1;omega)
   (dp:=true) (e:=e) (xs:=List.replicate m.toNat (C.U.d e)) (by rw[fp];exact Bg h.gD _ _ _ hzs hall (by omega) hml (iX w _))
  exact⟨_,_,_,bs',hrun,h3⟩
 ·cases he
theorem ni:∀(rs:List ao) {S:St C} {d:Nat},get S d= .undef→get (ij C S rs) d= .undef
 | [],S,d,h=>h
 | q::qs,S,d,h=>by
   refine ni qs ?_;unfold xW;split
   ·rename_i dp e xs hl;unfold put;rw[fj];split
    ·rename_i hc;exfalso;unfold look at hl;rw[hc.1,h,gf]at hl;cases hl
    ·exact h
   ·exact h
theorem gC.sub {w:World} {N:Nat→Prop} {e:TypeId} {xs:List (C.U.T e)} {c:Value} (h:gC C w N (.sl e xs) c):
 ∃A cap,c= .slice A xs.length cap∧xs.length≤cap∧∀l k,l≤k→k≤xs.length→gC C w N (.sl e ((xs.take k).drop l)) (.slice (if cap=l then A else A.map (·.add (l*C.sz e))) (k-l) (cap-l)):=by
 rcases h.mL with⟨rfl,A,cap,rfl⟩ | ⟨b,o,cap,u,rfl,hb,hcap,hcu,hcv⟩
 ·refine⟨A,cap,rfl,Nat.zero_le _,fun l k hl hk=> ?_⟩;have hk:k=0:=by simpa using hk
  subst hk;have hl:l=0:=by omega
  subst hl;exact .nil e _ _
 ·refine⟨_,cap,rfl,hcap,fun l k hl hk=> ?_⟩
  by_cases hc:cap=l
  ·have hkl:k-l=0:=by omega
   have hn:(xs.take k).drop l=[]:=List.drop_eq_nil_of_le (by simp;omega);rw[hkl,hn];exact .nil e _ _
  ·rw[if_neg hc];have hlen:((xs.take k).drop l).length=k-l:=by simp;omega
   rw[←hlen];simp only[Option.map_some,Addr.add_lit]
   have hget:∀j x,((xs.take k).drop l)[j]? =some x→xs[l+j]? =some x:=fun j x hx=>by
    rw[List.getElem?_drop,List.getElem?_take]at hx;split at hx
    ·exact hx
    ·cases hx
   refine .sl e _ b (o+l*C.sz e) (cap-l) (fun j i=>u (l+j) i) hb (by rw[hlen];omega) (fun j x hx i v hi=> ?_) (fun j x hx i v hi=>hcv _ _ (hget j x hx) i v hi);have:=hcu _ _ (hget j x hx) i v hi;rw[Nat.add_mul]at this;rw[show o+l*C.sz e+(j*C.sz e+i)=o+(l*C.sz e+j*C.sz e+i) by omega];exact this
theorem nz (isS:Bool) (len cap:Nat) (lo hi:Option Value) (l h:Option Int) (kl kh:IntKind) (hl:lo=l.map (Value.int kl)) (hh:hi=h.map (Value.int kh)) (h0:0≤l.getD 0) (h1:l.getD 0≤h.getD len) (h2:h.getD len≤(len:Int)) (h3:len≤cap) (w:World):
 (Instr.sliceBounds isS len cap lo hi none).run P w= .ok ((l.getD 0).toNat,(h.getD len).toNat,cap) w:=by
 subst hl;subst hh;cases l with
 | none=>
   cases h with
   | none=>simp[Instr.sliceBounds]
   | some y=>
     simp only[Option.getD_some,Option.getD_none]at h0 h1 h2⊢;have:y≤(cap:Int):=by omega
     simp[Instr.sliceBounds,Instr.sliceBound,asIntOf,h1,this]
 | some x=>
   cases h with
   | none=>
     simp only[Option.getD_some,Option.getD_none]at h0 h1 h2⊢;simp[Instr.sliceBounds,Instr.sliceBound,asIntOf,h0,h1]
   | some y=>
     simp only[Option.getD_some,Option.getD_none]at h0 h1 h2⊢;have e1:y≤(cap:Int):=by omega
     have e2:0≤y:=by omega
     simp[Instr.sliceBounds,Instr.sliceBound,asIntOf,h0,h1,e1,e2,Int.toNat_of_nonneg e2]
theorem jj (h:je P C B n S d V a w N bs) {x:Option Operand} (hx:∀y,x=some y→aT n y=true) {l:Option Int} (hb:bound C S x=some l):∃k,x.map a.eval=l.map (Value.int k):=by
 cases x with
 | none=>cases hb;exact⟨.i64,rfl⟩
 | some y=>
   unfold bound at hb;simp only at hb;split at hb
   ·rename_i k m hv;cases hb;exact⟨k,by simp[h.int (hx y rfl) hv]⟩
   ·cases hb
theorem Bw (h:je P C B n S d V a w N bs) {o:Oper} {t:TypeId} {x:Operand} {lo hi:Option Operand} (ho:o.op= .slice t x lo hi none) (hx:aT n x=true) (hlo:∀y,lo=some y→aT n y=true) (hhi:∀y,hi=some y→aT n y=true) {p:Option Prop} {S':St C}
 (he:Ck C S d t x lo hi=some (p,S')) (hp:p.getD True):Out P C B S' d V a o w:=by
 unfold Ck at he;split at he
 ·rename_i l hh s hbl hbh hr;split at he
  ·cases he
  rename_i hs;have hu:=h.gD.BX (t:=t) (by simpa using hs);cases he;simp only[Option.getD_some]at hp;obtain⟨p0,p1,p2⟩:=hp;obtain⟨kl,el⟩:=jj h hlo hbl;obtain⟨kh,eh⟩:=jj h hhi hbh;obtain⟨_,him⟩:=h.read hx hr;have hc:=(him rfl).B8;have hb:=nz (P:=P) false s.size s.size _ _ l hh kl kh el eh p0 p1 p2 (Nat.le_refl _) w;exact h.out _ (.string (s.extract (l.getD 0).toNat (hh.getD s.size).toNat)) (by simp[execOp,ho,Instr.sliceAt,Instr.slice,run_underlying hu,hc,hb]) rfl
 ·rename_i l hh e xs hbl hbh hr;split at he
  ·cases he
  rename_i hs;obtain⟨hu,hty⟩:=h.gD.jY (t:=t) (e:=e) (by simpa using hs);cases he;simp only[Option.getD_some]at hp;obtain⟨p0,p1,p2⟩:=hp;obtain⟨kl,el⟩:=jj h hlo hbl;obtain⟨kh,eh⟩:=jj h hhi hbh;obtain⟨_,him⟩:=h.read hx hr;obtain⟨A,cap,hc,hcap,hsub⟩:=(him rfl).sub;obtain⟨i,z,hi,_,hsz,_⟩:=h.gD.elem t e hty;have hb:=nz (P:=P) true xs.length cap _ _ l hh kl kh el eh p0 p1 p2 hcap w;have hsub:=hsub (l.getD 0).toNat (hh.getD xs.length).toNat (by omega) (by omega);generalize hres:Value.slice (if cap=(l.getD 0).toNat then A else A.map (·.add ((l.getD 0).toNat*C.sz e))) ((hh.getD xs.length).toNat-(l.getD 0).toNat) (cap-(l.getD 0).toNat)=res at hsub
  have hrun:(execOp a.eval o).run P w= .ok (.value res) w:=by
   rw[←hres];simp[execOp,ho,Instr.sliceAt,Instr.slice,run_underlying hu,hc,hb,sizeOf,typeInfo,hi,hsz]
  obtain⟨N',bs',h1,hN,hq,_⟩:=(h.rel res).ij (aZ C (bG x) (aa.ev C S t x))
  have hlist:xC l hh xs=(xs.take (hh.getD xs.length).toNat).drop (l.getD 0).toNat:=by
   cases l<;>cases hh<;>simp[xC]
  refine⟨res,w,N',bs',hrun,h1.fill d _ (ni _ h.vU) ?_⟩;rw[fp,hlist];exact hsub.mono (fun _ _=>rfl) (fun b hb=>hb.elim (hN b) (fun⟨r,hr,hl,hb⟩=>hq r hr hl b hb))
 ·cases he
theorem Ao (h:je P C B n S d V a w N bs) {o:Oper} {t:TypeId} {x:Operand} {lo hi:Option Operand} (ho:o.op= .slice t x lo hi none) (hx:aT n x=true) (hlo:∀y,lo=some y→aT n y=true) (hhi:∀y,hi=some y→aT n y=true) {p:Option Prop} {S':St C}
 (he:zK C S d t x lo hi=some (p,S')) (hp:p.getD True):Out P C B S' d V a o w:=by
 unfold zK at he;split at he
 ·rename_i dp r e xs l hh hrow hbl hbh;split at he
  ·rename_i hcond;obtain⟨hvt,hty⟩:=hcond;cases he;simp only[Option.getD_some]at hp;obtain⟨p0,p1,p2⟩:=hp;obtain⟨kl,el⟩:=jj h hlo hbl;obtain⟨kh,eh⟩:=jj h hhi hbh;obtain⟨hu,hsl⟩:=h.gD.jY hty;obtain⟨ie,z,hie,_,hisz,_⟩:=h.gD.elem t e hsl;have hrel:=h.rel undef;obtain⟨hrowat,hlook⟩:=(h.row hx hrow undef).2 dp r rfl;obtain⟨c',hc',hrep⟩:=eH.look hrel r (cc hrowat.1);rw[hrowat.2]at hc';cases hc';rw[hlook]at hrep;have hrep:fk C w N (bs r) dp e xs (a.eval x):=hrep;rcases hrep with⟨_,rfl⟩ | ⟨b,cap,cur,lab,hsv,hbr,hlab,hh',hncap,hcapm,hcs,h4⟩
   ·simp only[List.length_nil]at p1 p2;cases hh<;>simp at p1 p2<;>omega
   have hb:=nz (P:=P) true xs.length cap _ _ l hh kl kh el eh p0 (by omega) p2 hncap w
   let res:Value:= .slice (some ⟨b,(l.getD 0).toNat*C.sz e,none⟩) ((hh.getD xs.length).toNat-(l.getD 0).toNat) (cap-(l.getD 0).toNat)
   have hne:¬cap=(l.getD 0).toNat:=by omega
   have hrun:(execOp a.eval o).run P w= .ok (.value res) w:=by
    simp[execOp,ho,Instr.sliceAt,Instr.slice,run_underlying hu,hsv,hb,sizeOf,typeInfo,hie,hisz,hne,res,Addr.add_lit]
   refine h.out _ res hrun ?_;obtain⟨hrowat',_⟩:=(h.row hx hrow res).2 dp r rfl;rw[hsv]at hrowat';exact⟨b,xs.length,cap,hrowat',⟨p0,p1,by omega,hncap⟩,rfl⟩
  ·cases he
 ·cases he
theorem zG (h:je P C B n S d V a w N bs) {o:Oper} {t:TypeId} {x:Operand} {lo hi:Option Operand} (ho:o.op= .slice t x lo hi none) (hx:aT n x=true) (hlo:∀y,lo=some y→aT n y=true) (hhi:∀y,hi=some y→aT n y=true) {p:Option Prop} {S':St C}
 (he:xH C S d t x lo hi=some (p,S')) (hp:p.getD True):Out P C B S' d V a o w:=by
 unfold xH at he;split at he
 ·rename_i r hr;cases he;exact Ao h ho hx hlo hhi hr hp
 ·exact Bw h ho hx hlo hhi he hp
end
end Go.Proofs.YtmapddgocpkgeaaGreat.aa
namespace Go.Proofs.YtmapddgocpkgeaaGreat.aa
open Go.RowKit
set_option linter.unusedVariables false
set_option linter.unusedSimpArgs false
variable {P:Program} {C:Ctx}
theorem uW {S:St C} {q:ao} {d:Nat} (h:get S d= .undef) (hr:isRow (look S q)=true):get (drop S q) d= .undef:=by
 unfold drop put;rw[fj];split
 ·rename_i hc;exfalso;unfold look at hr;rw[hc.1,h,gf]at hr;simp[isRow]at hr
 ·unfold dK;rw[get_map _ _ _ rfl,h];rfl
theorem tZ {S:St C} {q:ao} (hr:isRow (look S q)=true):fN (dK (forget (fun r=>r==q) (fun _=>false)) S) q:=
 cc (by rw[gU (fun v hv=>gO _ _ hv) S q hr];exact hr)
theorem ke {S:St C} {q:ao} (hr:isRow (look S q)=true):look (drop S q) q= .undef∧fN (drop S q) q:=by
 have ho:=tZ hr;exact⟨fr _ _ _ ho,fN.put _ rfl ho ho⟩
theorem kb {S:St C} {q r:ao} (hq:isRow (look S q)=true) (hr:isRow (look S r)=true) (hne:r≠q):look (drop S q) r=look S r:=by
 have ho:=tZ hq;have hl:look (dK (forget (fun r=>r==q) (fun _=>false)) S) r=look S r:=gU (fun v hv=>gO _ _ hv) S r hr;unfold drop;rw[jQ _ _ _ _ ho.leaf (by rw[hl];exact hr) hne,hl]
theorem uM {S:St C} {q r:ao} (hu:look S q= .undef) (ho:fN S q):look (xW S r) q= .undef∧fN (xW S r) q:=by
 unfold xW;split
 ·rename_i dp e xs hl;have hor:fN S r:=cc (by rw[hl];rfl);have hne:q≠r:=fun e=>by rw[←e,hu]at hl;cases hl
  exact⟨by rw[jN _ hor ho hne];exact hu,fN.put _ rfl hor ho⟩
 ·exact⟨hu,ho⟩
theorem l7 {q:ao}:∀(rs:List ao) {S:St C},look S q= .undef→fN S q→look (ij C S rs) q= .undef∧fN (ij C S rs) q
 | [],S,hu,ho=>⟨hu,ho⟩
 | r::rs,S,hu,ho=>let⟨h1,h2⟩:=uM (r:=r) hu ho;l7 rs h1 h2
theorem fk.ownsRow (G:Good P C) {w:World} {N Bo:Nat→Prop} {dp:Bool} {e:TypeId} {xs:List (C.U.T e)} {c:Value} (h:fk C w N Bo dp e xs c):
 ∃xs0,∃lab:Nat→Option (Nat×Nat),w.ownsRow 0 e (C.sz e) c xs.length xs0∧(∀b,c.ownBlock=some b→Bo b∧lab b=none)∧
  ∀j x,xs[j]? =some x→∀i v,(leaves (C.enc e x))[i]? =some v→∃u,xs0[j*C.sz e+i]? =some u∧nI C w N (fun b'=>Bo b'∧lab b'=some (j,i)) dp v u:=by
 rcases h with⟨rfl,rfl⟩ | ⟨b,cap,cur,lab,rfl,hb,hl,hh,h1,h2,h3,h4⟩
 ·exact⟨[],fun _=>none,World.ownsRow_nil w 0 e (C.sz e),fun b hb=>by simp[Value.ownBlock]at hb,fun j x hx=>by simp at hx⟩
 ·refine⟨cur.toList.take (xs.length*C.sz e),lab,⟨?_,.inr ⟨b,cap,cur,rfl,Nat.zero_le _,hh,h1,h2,h3,rfl⟩⟩,fun b' hb'=> ?_,fun j x hx i v hi=> ?_⟩
  ·have hc:cur.toList.length=cap*C.sz e:=by rw[Array.length_toList,h3]
   rw[List.length_take,hc];exact Nat.min_eq_left (Nat.mul_le_mul_right _ h1)
  ·simp only[Value.ownBlock,Option.some.injEq]at hb';subst hb';exact⟨hb,hl⟩
  ·obtain⟨u,hu,hin⟩:=h4 j x hx i v hi;refine⟨u,?_,hin⟩;have hlt:=pV (List.getElem?_eq_some_iff.1 hx).1 (show i<C.sz e by rw[←G.gk e x];exact(List.getElem?_eq_some_iff.1 hi).1);rw[List.getElem?_take,if_pos hlt]
   simpa using hu
def xY (C:Ctx) (w:World) (e:TypeId) (ys:List (C.U.T e)) (c:Value) (Q:Nat→Nat→C.PV→Value→Prop):Prop:=
 ∃A cap,c= .slice A ys.length cap∧(A=none→ys=[])∧∀ad,A=some ad→∃news:List Value,news.length=ys.length*C.sz e∧(∀j u,news[j]? =some u→w.cell? (ad.add j)=some u)∧(∀u∈news,u.oneCell'=true)∧
  ∀j y,ys[j]? =some y→∀i v,(leaves (C.enc e y))[i]? =some v→∃u,news[j*C.sz e+i]? =some u∧Q j i v u
theorem gC.news (G:Good P C) {w:World} {N:Nat→Prop} {e:TypeId} {ys:List (C.U.T e)} {c:Value} (h:gC C w N (.sl e ys) c) (hpos:0<C.sz e):xY C w e ys c (fun _ _ v u=>gC C w N v u):=by
 rcases h.mL with⟨rfl,A,cap,rfl⟩ | ⟨b,o,cap,u,rfl,hb,hcap,hcu,hcv⟩
 ·exact⟨A,cap,rfl,fun _=>rfl,fun ad _=>⟨[],by simp,fun j u hu=>by simp at hu,fun u hu=>by simp at hu,fun j y hy=>by simp at hy⟩⟩
 ·refine⟨_,cap,rfl,(fun h=>by cases h),fun ad had=> ?_⟩;cases had
  have hget:∀k,k<ys.length*C.sz e→∃y v,ys[k / C.sz e]? =some y∧(leaves (C.enc e y))[k % C.sz e]? =some v:=fun k hk=>by
   have h1:k / C.sz e<ys.length:=(Nat.div_lt_iff_lt_mul hpos).2 hk;have h2:k % C.sz e<C.sz e:=Nat.mod_lt _ hpos;have hy:=List.getElem?_eq_getElem h1;exact⟨_,_,hy,List.getElem?_eq_getElem (by rw[G.gk];exact h2)⟩
  refine⟨(List.range (ys.length*C.sz e)).map (fun k=>u (k / C.sz e) (k % C.sz e)),by simp,fun k v hk=> ?_,fun v hv=> ?_,fun j y hy i v hi=> ?_⟩
  ·rw[List.getElem?_map]at hk;cases hr:(List.range (ys.length*C.sz e))[k]? with
   | none=>rw[hr]at hk;cases hk
   | some k'=>
     rw[hr]at hk;obtain⟨hlt,he⟩:=List.getElem?_eq_some_iff.1 hr;rw[List.getElem_range]at he;subst he;cases hk;rw[List.length_range]at hlt;obtain⟨y,v,h1,h2⟩:=hget k hlt;rw[Addr.add_lit];have:=hcu _ _ h1 _ _ h2;rw[show k / C.sz e*C.sz e+k % C.sz e=k by rw[Nat.mul_comm];exact Nat.div_add_mod _ _]at this;exact this
  ·obtain⟨k,hk,rfl⟩:=List.mem_map.1 hv;obtain⟨y,v',h1,h2⟩:=hget k (List.mem_range.1 hk);exact(hcv _ _ h1 _ _ h2).cells.2.2
  ·have hi':i<C.sz e:=by rw[←G.gk e y];exact(List.getElem?_eq_some_iff.1 hi).1
   have hlt:=pV (List.getElem?_eq_some_iff.1 hy).1 hi';refine⟨u j i,?_,hcv j y hy i v hi⟩;rw[List.getElem?_map,List.getElem?_range hlt];simp only[Option.map_some];rw[show(j*C.sz e+i) / C.sz e=j by rw[Nat.mul_comm,Nat.mul_add_div hpos,Nat.div_eq_of_lt hi'];rfl,show(j*C.sz e+i) % C.sz e=i by rw[Nat.mul_comm,Nat.mul_add_mod,Nat.mod_eq_of_lt hi']]
theorem nI.one {w:World} {N Bo:Nat→Prop} {dp:Bool} {v:C.PV} {c:Value} (h:nI C w N Bo dp v c):c.oneCell'=true:=by
 cases dp with
 | false=>exact(gC.cells h).2.2
 | true=>
   cases v with
   | sl e xs=>rcases h with⟨rfl,_⟩ | ⟨b,cap,cur,rfl,_⟩<;>rfl
   | _=>exact(gC.cells h).2.2
theorem fk.news (G:Good P C) {w:World} {N Bo:Nat→Prop} {dp:Bool} {e:TypeId} {xs:List (C.U.T e)} {c:Value} (h:fk C w N Bo dp e xs c) (hpos:0<C.sz e):
 ∃lab:Nat→Option (Nat×Nat),xY C w e xs c (fun j i v u=>nI C w N (fun b'=>Bo b'∧lab b'=some (j,i)) dp v u):=by
 rcases h with⟨rfl,rfl⟩ | ⟨b,cap,cur,lab,rfl,hb,hl,hh,h1,h2,h3,h4⟩
 ·exact⟨fun _=>none,none,0,rfl,fun _=>rfl,fun ad h=>by cases h⟩
 ·have hown:w.ownsRow 0 e (C.sz e) (.slice (some ⟨b,0,none⟩) xs.length cap) xs.length (cur.toList.take (xs.length*C.sz e)):=by
   refine⟨?_,.inr ⟨b,cap,cur,rfl,Nat.zero_le _,hh,h1,h2,h3,rfl⟩⟩;have hc:cur.toList.length=cap*C.sz e:=by rw[Array.length_toList,h3]
   rw[List.length_take,hc];exact Nat.min_eq_left (Nat.mul_le_mul_right _ h1)
  have hall:∀j x,xs[j]? =some x→∀i v,(leaves (C.enc e x))[i]? =some v→∃u,(cur.toList.take (xs.length*C.sz e))[j*C.sz e+i]? =some u∧nI C w N (fun b'=>Bo b'∧lab b'=some (j,i)) dp v u:=fun j x hx i v hi=>by
   obtain⟨u,hu,hin⟩:=h4 j x hx i v hi;refine⟨u,?_,hin⟩;have hlt:=pV (List.getElem?_eq_some_iff.1 hx).1 (show i<C.sz e by rw[←G.gk e x];exact(List.getElem?_eq_some_iff.1 hi).1);rw[List.getElem?_take,if_pos hlt]
   simpa using hu
  refine⟨lab,_,cap,rfl,(fun h=>by cases h),fun ad had=> ?_⟩;cases had;refine⟨_,hown.1,fun j u hu=>hown.cells (g:=b) rfl j u hu,fun u hu=> ?_,hall⟩;obtain⟨k,hk,rfl⟩:=List.mem_iff_getElem.1 hu;have hk':k<xs.length*C.sz e:=by rw[←hown.1];exact hk
  have h1':k / C.sz e<xs.length:=(Nat.div_lt_iff_lt_mul hpos).2 hk';have h2':k % C.sz e<C.sz e:=Nat.mod_lt _ hpos;obtain⟨u,hu2,hin⟩:=hall _ _ (List.getElem?_eq_getElem h1') (k % C.sz e) _ (List.getElem?_eq_getElem (by rw[G.gk];exact h2'));rw[show k / C.sz e*C.sz e+k % C.sz e=k by rw[Nat.mul_comm];exact Nat.div_add_mod _ _,List.getElem?_eq_getElem hk]at hu2;cases hu2;exact hin.one
theorem pr (w:World) (t ty e:TypeId) (i:TypeInfo) (ht:P.underlying t=some (.slice e)) (hi:P.info? e=some i) (cap:Nat):
 (Builtin.append_ #[t,t] ty #[.slice none 0 0,.slice none 0 cap]).run P w= .ok (.slice none 0 0) w:=by
 simp[Builtin.append_,run_underlying ht,sizeOf,typeInfo,hi,Builtin.lenOf,Builtin.firstCells]
theorem qh (w:World) (t ty e:TypeId) (i:TypeInfo) (ht:P.underlying t=some (.slice e)) (hi:P.info? e=some i) (cap g n c:Nat) (hn:n≤c):
 (Builtin.append_ #[t,t] ty #[.slice (some ⟨g,0,none⟩) n c,.slice none 0 cap]).run P w= .ok (.slice (some ⟨g,0,none⟩) n c) w:=by
 simp[Builtin.append_,run_underlying ht,sizeOf,typeInfo,hi,Builtin.lenOf,Builtin.firstCells,hn,storeCells]
theorem tE (G:Good P C) (w:World) {t ty e:TypeId} (hT:C.ty t=some (.slice e)) {xs ys:List (C.U.T e)} {c cx:Value} {xs0:List Value} (hown:w.ownsRow 0 e (C.sz e) c xs.length xs0) {Q:Nat→Nat→C.PV→Value→Prop} (hn:xY C w e ys cx Q)
 (hroom:((xs.length:Int)+ys.length)*C.bytes e≤room):
 ∃v' w' news,(Builtin.append_ #[t,t] ty #[c,cx]).run P w= .ok v' w'∧w'.ownsRow 0 e (C.sz e) v' (xs.length+ys.length) (xs0++news)∧w.grownBy w' c.ownBlock∧(v'.ownBlock=c.ownBlock∨v'.ownBlock=some w.heap.size)∧
  ∀j y,ys[j]? =some y→∀i v,(leaves (C.enc e y))[i]? =some v→∃u,news[j*C.sz e+i]? =some u∧Q j i v u:=by
 obtain⟨i,z,hi,hz,hsz,hby,hzs,hpos,hbpos,hall⟩:=G.elem t e hT;have hu:P.underlying t=some (.slice e):=by cases G.ty t _ hT;assumption
 have hmax:=o6 (k:=(xs.length:Int)+ys.length) hbpos (by omega) hroom;have hbytes:(xs.length+ys.length)*C.bytes e≤140737488355328:=Int.ofNat_le.1 (by rw[Int.natCast_mul,Int.natCast_add];exact hroom);obtain⟨A,cap,rfl,hnil,hsome⟩:=hn;cases A with
 | none=>
   have hys:=hnil rfl;subst hys;refine⟨c,w,[],?_,by simpa using hown,⟨rfl,rfl,rfl,Nat.le_refl _,fun _ _ _=>rfl⟩,.inl rfl,fun j y hy=>by simp at hy⟩;rcases hown.2 with⟨rfl,hn0⟩ | ⟨g,cap',cur,rfl,_,_,hnc,_⟩
   ·exact pr w t ty e i hu hi cap
   ·exact qh w t ty e i hu hi cap g _ cap' hnc
 | some ad=>
   obtain⟨news,n1,n2,n3,n4⟩:=hsome ad rfl;obtain⟨v',w',hr,h1,h2,h3,h4⟩:=run_append_own_at (P:=P) w 0 t ty e i z (C.sz e) (C.bytes e) hu hi hz hsz hby hzs hpos c xs.length xs0 hown ad ys.length cap news n1 n2 n3 (by simp only[maxLen];omega) hbytes (Nat.zero_le _);exact⟨v',w',news,hr,h1,h2,h4,n4⟩
theorem tM (G:Good P C) {w':World} {N' Bd:Nat→Prop} {lab:Nat→Option (Nat×Nat)} {dp:Bool} {e:TypeId} {zs:List (C.U.T e)} {v':Value} {zs0:List Value} (h:w'.ownsRow 0 e (C.sz e) v' zs.length zs0) (hblk:∀b,v'.ownBlock=some b→Bd b∧lab b=none)
 (hleaf:∀j x,zs[j]? =some x→∀i v,(leaves (C.enc e x))[i]? =some v→∃u,zs0[j*C.sz e+i]? =some u∧nI C w' N' (fun b=>Bd b∧lab b=some (j,i)) dp v u):fk C w' N' Bd dp e zs v':=by
 rcases h.2 with⟨rfl,hn⟩ | ⟨g,cap,cur,rfl,_,hg,hnc,hcm,hcs,htake⟩
 ·exact .inl ⟨rfl,List.eq_nil_of_length_eq_zero hn⟩
 ·obtain⟨hb,hl⟩:=hblk g rfl;refine .inr ⟨g,cap,cur,lab,rfl,hb,hl,hg,hnc,hcm,hcs,fun j x hx i v hi=> ?_⟩;obtain⟨u,hu,hin⟩:=hleaf j x hx i v hi;refine⟨u,?_,hin⟩;have hlt:=pV (List.getElem?_eq_some_iff.1 hx).1 (show i<C.sz e by rw[←G.gk e x];exact(List.getElem?_eq_some_iff.1 hi).1);rw[←htake,List.getElem?_take,if_pos hlt]at hu
  simpa using hu
theorem lR (G:Good P C) {e:TypeId} {xs ys:List (C.U.T e)} {xs0 news:List Value} (hx0:xs0.length=xs.length*C.sz e) {Q:Nat→Nat→C.PV→Value→Prop}
 (h1:∀j x,xs[j]? =some x→∀i v,(leaves (C.enc e x))[i]? =some v→∃u,xs0[j*C.sz e+i]? =some u∧Q j i v u)
 (h2:∀j y,ys[j]? =some y→∀i v,(leaves (C.enc e y))[i]? =some v→∃u,news[j*C.sz e+i]? =some u∧Q (xs.length+j) i v u):
 ∀j x,(xs++ys)[j]? =some x→∀i v,(leaves (C.enc e x))[i]? =some v→∃u,(xs0++news)[j*C.sz e+i]? =some u∧Q j i v u:=fun j x hx i v hi=>by
 by_cases hj:j<xs.length
 ·rw[List.getElem?_append_left hj]at hx;obtain⟨u,hu,hq⟩:=h1 j x hx i v hi;exact⟨u,by rw[List.getElem?_append_left (List.getElem?_eq_some_iff.1 hu).1];exact hu,hq⟩
 ·rw[List.getElem?_append_right (by omega)]at hx;obtain⟨u,hu,hq⟩:=h2 _ x hx i v hi;rw[show xs.length+(j-xs.length)=j by omega]at hq;refine⟨u,?_,hq⟩;have:xs0.length≤j*C.sz e+i:=by rw[hx0];have:=Nat.mul_le_mul_right (C.sz e) (Nat.le_of_not_lt hj);omega
  rw[List.getElem?_append_right this,hx0];rw[←hu];congr 1;rw[Nat.sub_mul];have:=Nat.mul_le_mul_right (C.sz e) (Nat.le_of_not_lt hj);omega
theorem gC.scalar {w w':World} {N N':Nat→Prop} {v:C.PV} {c:Value} (h:gC C w N v c) (hv:∀f ys,v≠ .sl f ys):gC C w' N' v c:=by
 cases h with
 | int k n=>exact .int k n
 | bool b=>exact .bool b
 | str s=>exact .str s
 | nil e A c=>exact absurd rfl (hv _ _)
 | sl e xs b o c u h1 h2 h3 h4=>exact absurd rfl (hv _ _)
theorem nI.scalar {w w':World} {N N' Bo Bo':Nat→Prop} {dp dp':Bool} {v:C.PV} {c:Value} (h:nI C w N Bo dp v c) (hv:∀f ys,v≠ .sl f ys):nI C w' N' Bo' dp' v c:=by
 have h1:gC C w' N' v c:=by
  cases dp with
  | false=>exact gC.scalar h hv
  | true=>cases v with
    | sl e xs=>exact absurd rfl (hv _ _)
    | _=>exact gC.scalar h hv
 cases dp' with
 | false=>exact h1
 | true=>cases v with
   | sl e xs=>exact absurd rfl (hv _ _)
   | _=>exact h1
theorem Kept.grown {B:fK} {w w':World} {blk:Option Nat} (h:Kept B w) (hg:w.grownBy w' blk) (hb:∀b,blk=some b→B.M b∨B.w.heap.size≤b):Kept B w' where
 os:=hg.os.trans h.os
 tape:=hg.tape.trans h.tape
 output:=hg.output.trans h.output
 size:=Nat.le_trans h.size hg.size
 block b hlt hm:=by
  rw[hg.block b (Nat.lt_of_lt_of_le hlt h.size) (fun e=>by
   rcases hb b e.symm with h1 | h1
   ·exact hm h1
   ·omega)]
  exact h.block b hlt hm
end Go.Proofs.YtmapddgocpkgeaaGreat.aa
