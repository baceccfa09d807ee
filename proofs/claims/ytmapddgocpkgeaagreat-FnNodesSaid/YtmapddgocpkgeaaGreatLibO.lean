/- How a value that is read as data is opened for the evaluator, and what a contract says to a law. Conditions: 'Good'. -/
import Derived.Test.YtmapddgocpkgeaaGreatLibC
import Derived.ChangeArms
import Derived.Deep.Slices
import Derived.WideShapes
namespace Go.Proofs.YtmapddgocpkgeaaGreat.aa
open Go.RowKit Go.ChangeShapes Go.WideShapes
set_option linter.unusedVariables false
set_option linter.unusedSimpArgs false
variable {P:Program} {C:Ctx}
def xJ (C:Ctx) (w:World) (ls:List C.PV) (cs:List Value):Prop:=cs.length=ls.length∧∀(i:Nat) (v:C.PV),ls[i]? =some v→∃u,cs[i]? =some u∧gC C w (fun b=>b<w.heap.size) v u
structure og (P:Program) (C:Ctx) {α:Type} (T:TypeId) (lv:α→List C.PV) (G:α→Prop):Prop where
 out:∀{H:Type} (enc:TypeId×Value→H) (w:World) (spare:Nat→Bool) (held:Bool) (fuel:Nat) (cs:List Value) (x:DataW H×List MemPlace),
  DataW.trod enc P w 0 spare held fuel T cs=some x→∃y,xJ C w (lv y) cs∧G y
theorem o7 {w:World} {v:C.PV} {u:Value} (h:gC C w (fun b=>b<w.heap.size) v u):xJ C w [v] [u]:=⟨rfl,fun i x hx=>by
 cases i with
 | zero=>cases hx;exact⟨u,rfl,h⟩
 | succ i=>simp at hx⟩
theorem Al {T:TypeId} {k:IntKind} (h:P.underlying T=some (.int k)):og P C T (fun n:Int=>[.int k n]) (fun n=>(Lit.int k n).wf=true):=⟨fun enc w spare held fuel cs x hx=>by
 obtain⟨n,rfl,_,hw⟩:=DataW.trod_int h hx;exact⟨n,o7 (.int k n),hw⟩⟩
theorem C0 {T:TypeId} (h:P.underlying T=some .bool):og P C T (fun b:Bool=>[.bool b]) (fun _=>True):=⟨fun enc w spare held fuel cs x hx=>by
 obtain⟨b,rfl,_⟩:=DataW.trod_bool h hx;exact⟨b,o7 (.bool b),trivial⟩⟩
theorem Cr {T:TypeId} (h:P.underlying T=some .string):og P C T (fun s:ByteArray=>[.str s]) (fun s=>s.size≤maxLen):=⟨fun enc w spare held fuel cs x hx=>by
 obtain⟨s,rfl,_,hs⟩:=DataW.trod_string h hx;exact⟨s,o7 (.str s),hs⟩⟩
theorem CK {α:Type} {n:Nat} {p:Nat→α→Prop} (h:∀i,i<n→∃x,p i x):∃l:List α,l.length=n∧∀i x,l[i]? =some x→p i x:=by
 induction n with
 | zero=>exact⟨[],rfl,fun i x hx=>by simp at hx⟩
 | succ n ih=>
   obtain⟨l,hl,hp⟩:=ih (fun i hi=>h i (by omega));obtain⟨y,hy⟩:=h n (by omega);refine⟨l++[y],by simp[hl],fun i x hx=> ?_⟩
   by_cases hi:i<l.length
   ·rw[List.getElem?_append_left hi]at hx;exact hp i x hx
   ·rw[List.getElem?_append_right (by omega)]at hx
    by_cases h0:i-l.length=0
    ·rw[h0]at hx;simp at hx;subst hx;have:i=n:=by omega
     subst this;exact hy
    ·rw[List.getElem?_eq_none (by simp;omega)]at hx;cases hx
theorem xi (G:Good P C) {T e:TypeId} {g:C.U.T e→Prop} (h:P.underlying T=some (.slice e)) (hs:P.cellsOf e=C.sz e) (hz:0<C.sz e) (he:og P C e (fun x=>leaves (C.enc e x)) g):
 og P C T (fun l:List (C.U.T e)=>[.sl e l]) (fun l=>l.length≤maxLen∧∀x∈l,g x):=⟨fun{H} enc w spare held fuel cs x hx=>by
 rcases Go.Deep.open_slice h hx with⟨rfl,_⟩ | ⟨a,len,cap,m,n,D,Pl,rfl,_,hl,hm,hmm,_,hel⟩
 ·exact⟨[],o7 (.nil e none 0),by simp[maxLen],fun x hx=>by cases hx⟩
 ·have hlm:len≤m:=by rw[hmm];split<;>omega
  obtain⟨l,hlen,hp⟩:=CK (n:=len) (p:=fun i (y:C.U.T e)=>(∃c,w.cells? 0 (a.add (i*P.cellsOf e)) (P.cellsOf e)=some c∧xJ C w (leaves (C.enc e y)) c)∧g y) (fun i hi=>by
   obtain⟨c,h1,h2⟩:=hel i (by omega);obtain⟨y,hy,hg⟩:=he.out enc w spare held n c _ h2;exact⟨y,⟨c,h1,hy⟩,hg⟩)
  refine⟨l,?_,by omega,fun x hx=> ?_⟩
  ·refine o7 ?_;rw[←hlen]
   by_cases h0:l=[]
   ·subst h0;exact .nil e (some a) cap
   ·have hpos:0<l.length:=List.length_pos_iff.2 h0
    have hcell:∀j x,l[j]? =some x→∀i v,(leaves (C.enc e x))[i]? =some v→∃u,w.cell? (a.add (j*C.sz e+i))=some u∧gC C w (fun b=>b<w.heap.size) v u:=fun j x hj i v hi=>by
     obtain⟨⟨c,h1,h2⟩,_⟩:=hp j x hj;obtain⟨_,hcl,hc⟩:=World.cells?_some h1;obtain⟨u,hu,him⟩:=h2.2 i v hi;refine⟨u,?_,him⟩
     have hil:i<P.cellsOf e:=by
      rw[←hcl];exact(List.getElem?_eq_some_iff.1 hu).1
     have:=hc i hil;rw[hu,Go.Deep.add_add,hs]at this;exact this
    obtain⟨b,o,sp⟩:=a
    have hsp:sp=none:=by
     obtain⟨x0,hx0⟩:∃x,l[0]? =some x:=⟨_,List.getElem?_eq_getElem hpos⟩;have hle:0<(leaves (C.enc e x0)).length:=by rw[G.gk e x0];exact hz
     obtain⟨u,hu,_⟩:=hcell 0 x0 hx0 0 _ (List.getElem?_eq_getElem hle);cases sp with
     | none=>rfl
     | some s=>
       exfalso;unfold World.cell? at hu;split at hu
       ·rw[if_pos (by simp[Addr.add])]at hu;cases hu
       ·cases hu
    subst hsp
    have hb:b<w.heap.size:=by
     obtain⟨x0,hx0⟩:∃x,l[0]? =some x:=⟨_,List.getElem?_eq_getElem hpos⟩;have hle:0<(leaves (C.enc e x0)).length:=by rw[G.gk e x0];exact hz
     obtain⟨u,hu,_⟩:=hcell 0 x0 hx0 0 _ (List.getElem?_eq_getElem hle);rw[Addr.add_lit]at hu;exact World.block_lt_of_cell? w _ hu
    refine .sl e l b o cap (fun j i=>(w.cell? ⟨b,o+(j*C.sz e+i),none⟩).getD undef) hb (by omega) (fun j x hj i v hi=> ?_) (fun j x hj i v hi=> ?_)
    ·obtain⟨u,hu,_⟩:=hcell j x hj i v hi;rw[Addr.add_lit]at hu;rw[hu];rfl
    ·obtain⟨u,hu,him⟩:=hcell j x hj i v hi;rw[Addr.add_lit]at hu;rw[hu];exact him
  ·obtain⟨i,hi,rfl⟩:=List.getElem_of_mem hx;exact(hp i _ (List.getElem?_eq_getElem hi)).2⟩
structure tQ (P:Program) (C:Ctx) {α:Type} (off n:Nat) (fs:List Field) (lv:α→List C.PV) (G:α→Prop):Prop where
 out:∀{H:Type} (enc:TypeId×Value→H) (w:World) (spare:Nat→Bool) (held:Bool) (fuel:Nat) (cs:List Value),cs.length=off+n→
  (∀f∈fs,∃x:DataW H×List MemPlace,DataW.trod enc P w 0 spare held fuel f.type ((cs.drop f.offset).take (P.cellsOf f.type))=some x)→∃y,xJ C w (lv y) (cs.drop off)∧G y
theorem C4 {α:Type} {off n:Nat} {f:Field} {lv:α→List C.PV} {G:α→Prop} (ho:f.offset=off) (hs:P.cellsOf f.type=n) (h:og P C f.type lv G):tQ P C off n [f] lv G:=⟨fun enc w spare held fuel cs hl hf=>by
 obtain⟨x,hx⟩:=hf f (List.mem_singleton.2 rfl);rw[ho,hs,List.take_of_length_le (by simp;omega)]at hx;exact h.out enc w spare held fuel _ _ hx⟩
theorem yw {w:World} {a b:List C.PV} {x y:List Value} (h:xJ C w a x) (h':xJ C w b y):xJ C w (a++b) (x++y):=by
 refine⟨by simp[h.1,h'.1],fun i v hi=> ?_⟩
 by_cases hlt:i<a.length
 ·rw[List.getElem?_append_left hlt]at hi;obtain⟨u,hu,hm⟩:=h.2 i v hi;exact⟨u,by rw[List.getElem?_append_left (by rw[h.1];exact hlt)];exact hu,hm⟩
 ·rw[List.getElem?_append_right (by omega)]at hi;obtain⟨u,hu,hm⟩:=h'.2 _ v hi;exact⟨u,by rw[List.getElem?_append_right (by rw[h.1];omega),h.1];exact hu,hm⟩
theorem CI {α β:Type} {off m n k:Nat} {f:Field} {fs:List Field} {lv:α→List C.PV} {lw:β→List C.PV} {G:α→Prop} {GG:β→Prop} (ho:f.offset=off) (hs:P.cellsOf f.type=m) (hn:off+m=k)
 (h:og P C f.type lv G) (hh:tQ P C k n fs lw GG):tQ P C off (m+n) (f::fs) (fun y:α×β=>lv y.1++lw y.2) (fun y=>G y.1∧GG y.2):=⟨fun enc w spare held fuel cs hl hf=>by
 obtain⟨x,hx⟩:=hf f (List.mem_cons_self ..);rw[ho,hs]at hx;obtain⟨y,hy,gy⟩:=h.out enc w spare held fuel _ _ hx;obtain⟨z,hz,gz⟩:=hh.out enc w spare held fuel cs (by omega) (fun g hg=>hf g (List.mem_cons_of_mem _ hg));refine⟨(y,z),?_,gy,gz⟩;have:=yw hy hz
 rwa [←hn,←List.drop_drop,List.take_append_drop]at this⟩
theorem Cq {α β:Type} {T:TypeId} {n:Nat} {fs:Array Field} {lv:α→List C.PV} {lw:β→List C.PV} {G:α→Prop} {GG:β→Prop} (g:α→β) (h:P.underlying T=some (.struct fs)) (hs:P.cellsOf T=n) (hf:tQ P C 0 n fs.toList lv G) (hg:∀a,lw (g a)=lv a) (hG:∀a,G a→GG (g a)):
 og P C T lw GG:=⟨fun enc w spare held fuel cs x hx=>by
 obtain⟨xs,m,_,_,hl,hxs,hall⟩:=DataW.trod_struct h hx
 obtain⟨y,hy,gy⟩:=hf.out enc w spare held m cs (by rw[hl,hs,Nat.zero_add]) (fun fd hfd=>by
  obtain⟨i,hi,rfl⟩:=List.getElem_of_mem hfd;have hi':i<fs.size:=by simpa using hi
  have:=hall i _ (by simp[hi']:fs[i]? =some fs.toList[i]);rw[List.getElem?_eq_getElem (by omega)]at this;exact⟨_,this⟩)
 rw[List.drop_zero]at hy;exact⟨g y,by rw[hg];exact hy,hG y gy⟩⟩
def CG (C:Ctx) (w:World):C.PV→Value→Prop
 | .agg ls,c=>∃cs:Array Value,c= .agg cs∧xJ C w ls cs.toList
 | v,c=>gC C w (fun b=>b<w.heap.size) v c
theorem BW {w:World} {e:TypeId} {l:List (C.U.T e)} {u:Value} (h:xJ C w [.sl e l] u.cells.toList) (hu:u.cells= #[u]:=by rfl):CG C w (.sl e l) u:=by
 rw[hu]at h;obtain⟨c,hc,hi⟩:=h.2 0 _ rfl;cases hc;exact hi
theorem CG.rep {w:World} {v:C.PV} {c:Value} (h:CG C w v c) (A:ao→Value→Prop) (X:Nat→Nat→Prop) (bs:List Nat→Nat→Prop):aR C A X w (fun b=>b<w.heap.size) bs v c:=by
 cases v with
 | agg ls=>
   obtain⟨cs,rfl,hl,hi⟩:=h
   exact⟨cs,rfl,by simpa using hl,fun i x hx=>by
    obtain⟨u,hu,hm⟩:=hi i x hx;exact⟨u,by simpa using hu,gC.rep hm _⟩⟩
 | _=>exact aR.gJ (gC.rep (show gC C w _ _ c from h) _)
theorem ae.law {f:FuncId} {n:Nat} {us:List C.PV} {r:C.PV} (h:ae P C f (start C n us []) 0 r []) {w:World} {args:Array Value} (hu:us.length=args.size) (hn:us.length≤n) (hi:∀(i:Nat) (v:C.PV),us[i]? =some v→∃c,args[i]? =some c∧CG C w v c) (ht:Laid C w (fun _=>False)):
 Calls P f args w (fun e w'=>∃v,e= .returned v∧(∃N bs,aR C o9 (oC n 0 (fun t=>args.getD t undef)) w' N bs r v)∧Below w.heap.size w w'):=by
 obtain⟨_,_,hc⟩:=h
 have hlen:(start C n us []).length-0=n:=by
  unfold start;simp only[List.length_append,List.length_replicate,List.length_nil];omega
 have hrel:Rel C ⟨w,fun _=>False,fun b=>b<w.heap.size⟩ (start C n us []) (fun t=>args.getD t undef) w (fun b=>b<w.heap.size) (fun _ _=>False):=by
  refine⟨fun t v hv=> ?_,fun _ _ _ h=>h.elim,fun _ _ h=>h.elim,fun b hb=>⟨hb,.inl hb⟩,⟨rfl,rfl,rfl,Nat.le_refl _,fun _ _ _=>rfl⟩⟩
  have ht:t<n:=by
   have:=(List.getElem?_eq_some_iff.1 hv).1;omega
  rcases yJ ht hv with hv | rfl
  ·obtain⟨c,h1,h2⟩:=hi t v hv;have:args.getD t undef=c:=by rw[Array.getD_eq_getD_getElem?,h1];rfl
   rw[this];exact h2.rep _ _ _
  ·trivial
 have:=hc w (fun _=>False) (fun b=>b<w.heap.size) (fun t=>args.getD t undef) (fun _ _=>False) args ht hrel (by rw[hlen];omega) (fun t _=>rfl);rw[hlen]at this;refine this.mono fun e w' he=> ?_;cases e with
 | returned v=>
   obtain⟨N,bs,hA⟩:=he;refine⟨v,rfl,⟨N,fun p=>bs (n+0,p),?_⟩,hA.kept.os,hA.kept.tape,hA.kept.output,hA.kept.size,fun k hk=>hA.kept.block k hk (fun h=>h)⟩;have:=hA.fo (n+0) r (by simp);simp only[List.length_nil]at this;rw[fp]at this;exact this
 | panicked ch=>exact he.elim
 | outgrown=>exact he.elim
end Go.Proofs.YtmapddgocpkgeaaGreat.aa
