/- The end of a function: what it hands back, and what it leaves in the boxes and rows that were handed to it. Conditions: 'Good'. -/
import Derived.Test.YtmapddgocpkgeaaGreatLibB
import Derived.KernelRfl
import Derived.Laws.StructEq
import Derived.Lib.SlicesCompact
import Derived.Sort.OwnSortedInts
namespace Go.Proofs.YtmapddgocpkgeaaGreat.aa
open Go.RowKit
set_option linter.unusedVariables false
set_option linter.unusedSimpArgs false
variable {P:Program} {C:Ctx}
abbrev o9 (q:ao) (c:Value):Prop:=False
abbrev B1 (t b:Nat):Prop:=False
def oC (n m:Nat) (Vo:Nat→Value) (t b:Nat):Prop:=n≤t∧t<n+m∧Vo t= .pointer (some ⟨b,0,none⟩)
def lJ (C:Ctx) (B:fK) (n:Nat) (Vo:Nat→Value) (r:C.PV) (os:List C.PV) (v:Value) (w:World):Prop:=
 ∃N bs,eH C o9 (oC n os.length Vo) B (List.replicate n .undef++os++[r]) (jJ Vo (n+os.length) v) w N bs
theorem aJ.plain {A:ao→Value→Prop} {X X':Nat→Nat→Prop} {w:World} {N B:Nat→Prop} {v:C.PV} {c:Value} {lo hi:Nat} (h:aJ C A X w N B v c) (hp:gn lo hi v=true) (hX:∀t b,lo≤t→t<hi→X t b→X' t b):aJ C o9 X' w N B v c:=by
 cases v with
 | iV q=>simp[gn]at hp
 | nR q e i o=>simp[gn]at hp
 | vw q e i o=>simp[gn]at hp
 | kB q e i o=>simp[gn]at hp
 | rd x o=>simp[gn]at hp
 | ptr t o=>
   simp only[gn,Bool.and_eq_true,decide_eq_true_eq]at hp;obtain⟨b,hx,hc⟩:=h;exact⟨b,hX t b hp.1 hp.2 hx,hc⟩
 | fn f caps=>
   have hc:caps=[]:=by simpa [gn]using hp
   subst hc;obtain⟨cs,hc,hs,_⟩:=h;exact⟨cs,hc,hs,fun i v hi=>by simp at hi⟩
 | undef=>trivial
 | void=>exact h
 | int k n=>exact h
 | bool b=>exact h
 | str s=>exact h
 | agg ls=>exact h
 | box ls=>exact h
 | gG ls=>exact h
 | own dp e xs=>exact h
 | sl e xs=>exact h
theorem fe.plain {A:ao→Value→Prop} {X X':Nat→Nat→Prop} {w:World} {N:Nat→Prop} {Bs:Nat→Nat→Prop} {ls:List C.PV} {cs:Array Value} {lo hi:Nat} (h:fe C A X w N Bs ls cs) (hp:ls.all (gn lo hi)=true) (hX:∀t b,lo≤t→t<hi→X t b→X' t b):fe C o9 X' w N Bs ls cs:=
 ⟨h.1,fun i v hi=>let⟨u,h1,h2⟩:=h.2 i v hi;⟨u,h1,h2.plain (List.all_eq_true.1 hp v (List.mem_of_getElem? hi)) hX⟩⟩
theorem ga.plain {A:ao→Value→Prop} {X X':Nat→Nat→Prop} {w:World} {N:Nat→Prop} {bs:List Nat→Nat→Prop} {v:C.PV} {c:Value} {lo hi:Nat} (h:ga C A X w N bs v c) (hp:lh lo hi v=true) (hX:∀t b,lo≤t→t<hi→X t b→X' t b):ga C o9 X' w N bs v c:=by
 cases v with
 | agg ls=>obtain⟨cs,hc,ha⟩:=h;exact⟨cs,hc,ha.plain hp hX⟩
 | _=>exact ga.gJ (aJ.plain (A:=A) h hp hX)
theorem aR.plain {A:ao→Value→Prop} {X X':Nat→Nat→Prop} {w:World} {N:Nat→Prop} {bs:List Nat→Nat→Prop} {v:C.PV} {c:Value} {lo hi:Nat} (h:aR C A X w N bs v c) (hp:plain lo hi v=true) (hX:∀t b,lo≤t→t<hi→X t b→X' t b):aR C o9 X' w N bs v c:=by
 cases v with
 | agg ls=>obtain⟨cs,hc,ha⟩:=h;exact⟨cs,hc,ha.plain hp hX⟩
 | box ls=>obtain⟨b,cs,ty,hc,h0,hh,ha⟩:=h;exact⟨b,cs,ty,hc,h0,hh,ha.plain hp hX⟩
 | gG vs=>
   obtain⟨cs,hc,hs,ha⟩:=h;exact⟨cs,hc,hs,fun i v hi=>let⟨u,h1,h2⟩:=ha i v hi;⟨u,h1,h2.plain (List.all_eq_true.1 hp v (List.mem_of_getElem? hi)) hX⟩⟩
 | _=>exact aR.gJ (aJ.plain (A:=A) h hp hX)
theorem lz:∀{qs:List Nat},distinct qs=true→qs.Nodup
 | [],_=>List.nodup_nil
 | q::qs,h=>by
   simp only[distinct,Bool.and_eq_true,Bool.not_eq_true',List.contains_eq_mem,decide_eq_false_iff_not]at h;exact List.nodup_cons.2 ⟨h.1,lz h.2⟩
section
variable {B:fK} {V:Nat→Value} {w:World}
def Cp (C:Ctx) (V:Nat→Value):ResultVar→Nat×Option (Ty C.U)→Prop
 | .tmp t,q=>q.2=none∧V q.1=V t
 | .cell t ty,q=>q.1=t∧∃T,q.2=some T∧C.ty ty=some T
theorem wK {n:Nat} {r:ResultVar} {q:Nat×Option (Ty C.U)} {S S':St C} {N:Nat→Prop} {bs:ao→Nat→Prop} (h:Rel C B S V w N bs) (hr:uc C n S r=some (S',q)):∃N' bs',Rel C B S' V w N' bs'∧Cp C V r q:=by
 cases r with
 | tmp t=>
   simp only[uc]at hr;split at hr
   ·rename_i q' hg;split at hr
    ·split at hr
     ·rename_i S1 hc;cases hr;obtain⟨b,⟨_,hVq⟩,hVt⟩:=h.fo t _ (iz hg (by simp));obtain⟨N',bs',h1,_⟩:=h.gF _ hc;exact⟨N',bs',h1,rfl,hVq.trans hVt.symm⟩
     ·cases hr
    ·cases hr
   ·split at hr
    ·rename_i S1 hc;cases hr;obtain⟨N',bs',h1,_⟩:=h.gF _ hc;exact⟨N',bs',h1,rfl,rfl⟩
    ·cases hr
 | cell t ty=>
   simp only[uc]at hr;split at hr
   ·rename_i T S1 hT hc;cases hr;obtain⟨N',bs',h1,_⟩:=h.gF _ hc;exact⟨N',bs',h1,rfl,T,rfl,hT⟩
   ·cases hr
theorem oB {n:Nat}:∀(rs:List ResultVar) {S S':St C} {qs:List (Nat×Option (Ty C.U))} {N:Nat→Prop} {bs:ao→Nat→Prop},Rel C B S V w N bs→nU C n S rs=some (S',qs)→
 ∃N' bs',Rel C B S' V w N' bs'∧qs.length=rs.length∧∀(i:Nat) (r:ResultVar) (q:Nat×Option (Ty C.U)),rs[i]? =some r→qs[i]? =some q→Cp C V r q
 | [],S,S',qs,N,bs,h,hr=>by cases hr;exact⟨N,bs,h,rfl,fun i r q hi=>by simp at hi⟩
 | r::rs,S,S',qs,N,bs,h,hr=>by
   unfold nU at hr;split at hr
   ·rename_i S1 q h1;split at hr
    ·rename_i S2 qs' h2;cases hr;obtain⟨N1,bs1,h1,hV⟩:=wK h h1;obtain⟨N2,bs2,h2,hl,hm⟩:=oB rs h1 h2;refine⟨N2,bs2,h2,by simp[hl],fun i r' q' hi hq=> ?_⟩;cases i with
     | zero=>cases hi;cases hq;exact hV
     | succ i=>exact hm i r' q' hi hq
    ·cases hr
   ·cases hr
theorem o8:∀(m n:Nat) {S S':St C} {N:Nat→Prop} {bs:ao→Nat→Prop},Rel C B S V w N bs→om C S n m=some S'→∃N' bs',Rel C B S' V w N' bs'
 | 0,n,S,S',N,bs,h,hr=>by cases hr;exact⟨N,bs,h⟩
 | m+1,n,S,S',N,bs,h,hr=>by
   unfold om at hr;split at hr
   ·rename_i S1 h1;obtain⟨N1,bs1,h1,_⟩:=h.gF _ h1;exact o8 m (n+1) h1 hr
   ·cases hr
theorem pA {S:St C}:∀(m n:Nat),(lA S n m).length=m
 | 0,n=>rfl
 | m+1,n=>by simp only[lA,List.length_cons,pA m (n+1)]
theorem qu {S:St C}:∀(m n j:Nat),j<m→(lA S n m)[j]? =some (get S (n+j))
 | 0,n,j,h=>by omega
 | m+1,n,0,h=>by simp[lA]
 | m+1,n,j+1,h=>by
   simp only[lA,List.getElem?_cons_succ];rw[qu m (n+1) j (by omega),show n+1+j=n+(j+1) by omega]
def ob (tmps:Array Value):ResultVar→Sem Value
 | .tmp t=>pure (tmps.getD t undef)
 | .cell a t=>do loadVar t (←asAddr (tmps.getD a undef))
theorem zt (f:ResultVar→Sem Value):∀(rs:List ResultVar) (vs:List Value),rs.length=vs.length→(∀(i:Nat) (r:ResultVar) (v:Value),rs[i]? =some r→vs[i]? =some v→(f r).run P w= .ok v w)→(rs.mapM f).run P w= .ok vs w
 | [],[],_,_=>by simp[Sem.run_pure]
 | [],_::_,h,_=>by simp at h
 | _::_,[],h,_=>by simp at h
 | r::rs,v::vs,hl,h=>by
   rw[List.mapM_cons,Sem.run_bind,h 0 r v rfl rfl,Result.andThen_ok,Sem.run_bind,zt f rs vs (by simpa using hl) (fun i r' v' h1 h2=>h (i+1) r' v' h1 h2),Result.andThen_ok,Sem.run_pure]
def vd:List Value→Value
 | [v]=>v
 | vs=> .tuple vs.toArray
theorem vt {fn:Func} {tmps:Array Value} {vs:List Value} {rs:List ResultVar} (hr:fn.results=rs.toArray) (hl:rs.length=vs.length) (h:∀(i:Nat) (r:ResultVar) (v:Value),rs[i]? =some r→vs[i]? =some v→(ob tmps r).run P w= .ok v w):
 (results fn tmps).run P w= .ok (vd vs) w:=by
 have key:∀(m:Sem (Array Value)),m.run P w= .ok vs.toArray w→(m>>=fun vs=>pure (if h:vs.size=1 then vs[0]else .tuple vs)).run P w= .ok (vd vs) w:=fun m hm=>by
  rw[Sem.run_bind,hm,Result.andThen_ok]
  match vs with
  | []=>simp[Sem.run_pure,vd]
  | [v]=>simp[Sem.run_pure,vd]
  | v::u::l=>simp[Sem.run_pure,vd]
 unfold results;refine key _ ?_
 rw[hr,List.mapM_toArray,←bind_pure_comp,Sem.run_bind,zt _ rs vs hl (fun i r v h1 h2=>by
  have:=h i r v h1 h2;cases r<;>exact this),Result.andThen_ok]
 simp[Sem.run_pure]
theorem yE {fn:Func} {tmps:Array Value} {vs:List Value} (hl:fn.results.toList.length=vs.length) (h:∀(i:Nat) (r:ResultVar) (v:Value),fn.results.toList[i]? =some r→vs[i]? =some v→(ob tmps r).run P w= .ok v w):
 (results fn tmps).run P w= .ok (vd vs) w:=vt (rs:=fn.results.toList) (Array.toArray_toList).symm hl h
theorem Rel.at {S:St C} {N:Nat→Prop} {bs:ao→Nat→Prop} (h:Rel C B S V w N bs) (t:Nat):aR C (bL C S V w) (cL C S V) w N (fun p=>bs (t,p)) (get S t) (V t):=by
 by_cases hu:get S t= .undef
 ·rw[hu];trivial
 ·exact h.fo t _ (iz rfl hu)
theorem aR.comp {A:ao→Value→Prop} {X:Nat→Nat→Prop} {N:Nat→Prop} {bs:List Nat→Nat→Prop} {v:C.PV} {c:Value} {lo hi:Nat} (h:aR C A X w N bs v c) (hp:lh lo hi v=true):ga C A X w N bs v c:=by
 cases v with
 | box ls=>simp[lh,gn]at hp
 | gG vs=>simp[lh,gn]at hp
 | _=>exact h
def fS {U:gm} (q:Nat×Option (Ty U)) (p:List Nat):ao:=
 match q.2 with
 | none=>(q.1,p)
 | some T=>if T.isAgg=true then(q.1,p)else(q.1,0::p)
theorem ld {U:gm} (q:Nat×Option (Ty U)) (p:List Nat):(fS q p).1=q.1:=by
 unfold fS;split
 ·rfl
 ·split<;>rfl
theorem rv {U:gm} {q:Nat×Option (Ty U)} {p p':List Nat} (h:fS q p=fS q p'):p=p':=by
 unfold fS at h;split at h
 ·exact(Prod.mk.inj h).2
 ·split at h
  ·exact(Prod.mk.inj h).2
  ·exact(List.cons.inj (Prod.mk.inj h).2).2
def na {U:gm}:List (Nat×Option (Ty U))→List Nat→Option ao
 | [q],p=>some (fS q p)
 | q::q'::qs,i::p=>((q::q'::qs)[i]?).map (fS · p)
 | _,_=>none
def jv {U:gm} (n no:Nat) (qs:List (Nat×Option (Ty U))) (r:ao):Option ao:=
 if r.1=n+no then na qs r.2 else if n≤r.1∧r.1<n+no then some r else none
theorem sR {U:gm}:∀{qs:List (Nat×Option (Ty U))} {p:List Nat} {z:ao},na qs p=some z→∃q,q∈qs∧z.1=q.1
 | [q],p,z,h=>by cases h;exact⟨q,by simp,ld q p⟩
 | q::q'::qs,i::p,z,h=>by
   simp only[na,Option.map_eq_some_iff]at h;obtain⟨x,hx,rfl⟩:=h;exact⟨x,List.mem_of_getElem? hx,ld x p⟩
 | [],p,z,h=>by cases p<;>cases h
 | q::q'::qs,[],z,h=>by cases h
theorem zd {U:gm}:∀{qs:List (Nat×Option (Ty U))},(qs.map (·.1)).Nodup→∀{p p':List Nat} {z:ao},na qs p=some z→na qs p'=some z→p=p'
 | [q],_,p,p',z,h,h'=>by cases h;exact(rv (Option.some.inj h')).symm
 | q::q'::qs,hn,i::p,i'::p',z,h,h'=>by
   simp only[na,Option.map_eq_some_iff]at h h';obtain⟨x,hx,rfl⟩:=h;obtain⟨x',hx',he⟩:=h';have h1:x'.1=x.1:=by rw[←ld x' p',he,ld]
   have hi:i=i':=by
    refine(List.getElem?_inj (l:=(q::q'::qs).map (·.1)) (by
     have:=(List.getElem?_eq_some_iff.1 hx).1
     simpa using this) hn).1 ?_
    rw[List.getElem?_map,List.getElem?_map,hx,hx',Option.map_some,Option.map_some,h1]
   subst hi;rw[hx]at hx';cases hx';rw[rv he]
 | q::q'::qs,_,[],p',z,h,_=>by cases h
 | q::q'::qs,_,_::_,[],z,_,h=>by cases h
 | [],_,p,p',z,h,_=>by cases p<;>cases h
theorem zo {U:gm} {n no:Nat} {qs:List (Nat×Option (Ty U))} (hn:(qs.map (·.1)).Nodup) (hq:∀q,q∈qs→q.1<n) {r r' z:ao} (h:jv n no qs r=some z) (h':jv n no qs r'=some z):r=r':=by
 obtain⟨t,p⟩:=r;obtain⟨t',p'⟩:=r';unfold jv at h h'
 by_cases ht:t=n+no
 ·rw[if_pos ht]at h;obtain⟨x,hx,h0⟩:=sR h;have h1:=hq _ hx
  by_cases ht':t'=n+no
  ·rw[if_pos ht']at h';have e:p=p':=zd hn h h';rw[ht,ht',e]
  ·rw[if_neg ht']at h';split at h'
   ·cases h';simp only at h0;omega
   ·cases h'
 ·rw[if_neg ht]at h;split at h
  ·cases h
   by_cases ht':t'=n+no
   ·rw[if_pos ht']at h';obtain⟨x,hx,h0⟩:=sR h';have h1:=hq _ hx;simp only at h0;omega
   ·rw[if_neg ht']at h';split at h'
    ·cases h';rfl
    ·cases h'
  ·cases h
theorem BL {S:St C} {N:Nat→Prop} {bs:ao→Nat→Prop} {n:Nat} {a:Act} (G:∀t T,C.ty t=some T→jy P C t T) (h:Rel C B S V w N bs) (ha:lQ n V a) {r:ResultVar} {q:Nat×Option (Ty C.U)} (hq:q.1<n) (hr:∀t,r= .tmp t→t<n) (his:Cp C V r q) (hok:oN C S q=true):
 ∃v,(ob a.tmps r).run P w= .ok v w∧aR C (bL C S V w) (cL C S V) w N (fun p=>bs (fS q p)) (kf C S q) v:=by
 cases r with
 | tmp t=>
   obtain⟨h1,h2⟩:=his;refine⟨V t,?_,?_⟩
   ·have:a.tmps.getD t undef=V t:=by rw[Array.getD_eq_getD_getElem?,ha.tmp t (hr t rfl),Option.getD_some]
    simp only[ob,this,Sem.run_pure]
   ·rw[←h2];have e1:kf C S q=get S q.1:=by unfold kf;rw[h1]
    have e2:(fun p=>bs (fS q p))=fun p=>bs (q.1,p):=by funext p;unfold fS;rw[h1]
    rw[e1,e2];exact h.at q.1
 | cell t ty=>
   obtain⟨rfl,T,hT,hty⟩:=his;unfold oN at hok;rw[hT]at hok;simp only at hok;split at hok
   ·rename_i ls hg;simp only[Bool.and_eq_true,decide_eq_true_eq]at hok;have tyok:=G ty T hty;obtain⟨b,cs,ct,hV,hb,hheap,hsz,hag⟩:=h.fo q.1 _ (iz hg (by simp));have hval:kf C S q=part C T ls 0:=by unfold kf;rw[hT];simp only[hg]
    have hrun:=jq tyok w b 0 0 ls.length (fun i=>cs.getD i undef) (by omega) (fun i hi=>by
     rw[Nat.zero_add,cell_of_row w b i cs ct (0,0) hheap];have:i<cs.size:=by omega
     simp[Array.getD_eq_getD_getElem?,this])
    refine⟨iC T (fun i=>cs.getD i undef) 0,?_,?_⟩
    ·have e:a.tmps.getD q.1 undef= .pointer (some ⟨b,0,none⟩):=by rw[Array.getD_eq_getD_getElem?,ha.tmp _ hq,Option.getD_some,hV]
     simp only[ob,e]
     simpa [Instr.loadAt,Instr.sureAddr,asAddr]using hrun
    ·rw[hval]
     have hleaf:∀i v,ls[i]? =some v→aJ C (bL C S V w) (cL C S V) w N (bs (q.1,[i])) v (cs.getD i undef):=fun i v hi=>by
      obtain⟨u,hu,hr⟩:=hag i v hi
      simpa [Array.getD_eq_getD_getElem?,hu]using hr
     unfold part iC;cases hagg:T.isAgg with
     | true=>
       simp only[if_true];refine⟨_,rfl,by simp;omega,fun i v hi=> ?_⟩;rw[List.getElem?_take]at hi;split at hi
       ·rename_i hlt;rw[List.getElem?_drop,Nat.zero_add]at hi;refine⟨cs.getD (0+i) undef,by simp[hlt],?_⟩;have:=hleaf i v hi;rw[Nat.zero_add];have e2:fS q [i]=(q.1,[i]):=by unfold fS;rw[hT];simp only[hagg,if_true]
        show aJ C _ _ w N (bs (fS q [i])) v _;rw[e2];exact this
       ·cases hi
     | false=>
       simp only[Bool.false_eq_true,if_false];have h0:0<ls.length:=by omega
       have hl:=hleaf 0 _ (List.getElem?_eq_getElem h0);have e1:get ls 0=ls[0]:=get_at (List.getElem?_eq_getElem h0);rw[e1];refine aR.gJ ?_;have e2:fS q []=(q.1,[0]):=by unfold fS;rw[hT];simp only[hagg,Bool.false_eq_true,if_false]
       rw[e2];exact hl
   ·cases hok
theorem Ba (G:∀t T,C.ty t=some T→jy P C t T) {fn:Func} {no:Nat} {Vo:Nat→Value} {S:St C} {a:Act} (h:Holds C B fn.ntmps Vo S a w) (hres:∀t,ResultVar.tmp t∈fn.results.toList→t<fn.ntmps) {R:C.PV→List C.PV→Prop} {e:Ex} (hne:∀i,e≠ .exit i) {Q:bE C} (he:atEnd C Q fn no R e S):
 ∃r os,R r os∧os.length=no∧a.defers=[]∧∃v,(results fn a.tmps).run P w= .ok v w∧lJ C B fn.ntmps Vo r os v w:=by
 obtain⟨V,N,bs,hR,ha,hV⟩:=h
 have he:(match nU C fn.ntmps S fn.results.toList with
  | some (S1,qs)=>match om C S1 fn.ntmps no with
    | some S3=>let S2:=ml Q 1000000 S3
      if(distinct (qs.map (·.1))&&qs.all (fun q=>decide (q.1<fn.ntmps)&&oN C S2 q)&&plain 1 0 (AG (qs.map (kf C S2)))&&(lA S2 fn.ntmps no).all (plain fn.ntmps (fn.ntmps+no)))=true
      then R (AG (qs.map (kf C S2))) (lA S2 fn.ntmps no)else False
    | none=>False
  | none=>False):=by
  cases e with
  | exit i=>exact absurd rfl (hne i)
  | _=>exact he
 split at he
 ·rename_i S1 qs h1;obtain⟨N1,bs1,hR1,hql0,his⟩:=oB _ hR h1;split at he
  ·rename_i S3 h2;obtain⟨N3,bs3,hR3⟩:=o8 _ _ hR1 h2;obtain⟨N2,bs2,hR2⟩:=hR3.ml Q 1000000;simp only at he;generalize ml Q 1000000 S3=S2 at he hR2;split at he
   ·rename_i hcond;simp only[Bool.and_eq_true]at hcond;obtain⟨⟨⟨hd,hlt⟩,hpr⟩,hpo⟩:=hcond;have hqn:=lz hd
    have hqb:∀q,q∈qs→q.1<fn.ntmps∧oN C S2 q=true:=fun q hq=>by
     have:=List.all_eq_true.1 hlt q hq;simp only[Bool.and_eq_true,decide_eq_true_eq]at this;exact this
    have hql:∀q,q∈qs→q.1<fn.ntmps:=fun q hq=>(hqb q hq).1
    have hcomp:∀(i:Nat) (q:Nat×Option (Ty C.U)),qs[i]? =some q→∃v,(∀r,fn.results.toList[i]? =some r→(ob a.tmps r).run P w= .ok v w)∧aR C (bL C S2 V w) (cL C S2 V) w N2 (fun p=>bs2 (fS q p)) (kf C S2 q) v:=fun i q hq=>by
     have hi:i<fn.results.toList.length:=by rw[←hql0];exact(List.getElem?_eq_some_iff.1 hq).1
     obtain⟨r,hr⟩:∃r,fn.results.toList[i]? =some r:=⟨_,List.getElem?_eq_getElem hi⟩;have hqm:=List.mem_of_getElem? hq;obtain⟨v,h3,h4⟩:=BL G hR2 ha (hql q hqm) (fun t ht=>hres t (by rw[←ht];exact List.mem_of_getElem? hr)) (his i r q hr hq) (hqb q hqm).2;refine⟨v,fun r' hr'=> ?_,h4⟩;rw[hr]at hr';cases hr';exact h3
    obtain⟨vf,hvf⟩:∃vf:Nat→Value,∀(i:Nat) (q:Nat×Option (Ty C.U)),qs[i]? =some q→(∀r,fn.results.toList[i]? =some r→(ob a.tmps r).run P w= .ok (vf i) w)∧aR C (bL C S2 V w) (cL C S2 V) w N2 (fun p=>bs2 (fS q p)) (kf C S2 q) (vf i):=by
     have hc:∀i:Nat,∃v:Value,∀(q:Nat×Option (Ty C.U)),qs[i]? =some q→(∀r,fn.results.toList[i]? =some r→(ob a.tmps r).run P w= .ok v w)∧aR C (bL C S2 V w) (cL C S2 V) w N2 (fun p=>bs2 (fS q p)) (kf C S2 q) v:=fun i=>by
      cases hq:qs[i]? with
      | none=>exact⟨undef,fun q h=>by cases h⟩
      | some q=>
        obtain⟨v,h⟩:=hcomp i q hq;exact⟨v,fun q' h'=>by cases h';exact h⟩
     exact Classical.skolem.1 hc
    obtain⟨vs,hvsE⟩:∃vs:List Value,vs=(List.range qs.length).map vf:=⟨_,rfl⟩;have hvs:∀i,i<qs.length→vs[i]? =some (vf i):=fun i hi=>by simp[hvsE,List.getElem?_map,List.getElem?_range hi]
    have hrun:=yE (P:=P) (w:=w) (fn:=fn) (tmps:=a.tmps) (vs:=vs) (by simp[hvsE,hql0]) (fun i r v hr hv=>by
     have hi:i<qs.length:=by
      have:=(List.getElem?_eq_some_iff.1 hv).1
      simpa [hvsE]using this
     rw[hvs i hi]at hv;cases hv;exact(hvf i _ (List.getElem?_eq_getElem hi)).1 r hr)
    have hol:(lA S2 fn.ntmps no).length=no:=pA _ _;refine⟨_,_,he,hol,ha.defers,_,hrun,N2,fun r b=>∃z,jv fn.ntmps no qs r=some z∧bs2 z b,?_⟩;rw[hol];have hX:∀t b,fn.ntmps≤t→t<fn.ntmps+no→cL C S2 V t b→oC fn.ntmps no Vo t b:=fun t b h1 h2 hx=>⟨h1,h2,(hV t h1).symm.trans hx.2⟩;refine⟨fun t v hv=> ?_,fun r r' b ⟨z,hz,hb⟩ ⟨z',hz',hb'⟩=> ?_,fun r b ⟨z,hz,hb⟩=>hR2.own z b hb,hR2.kd,hR2.kept⟩
    ·by_cases ht:t<fn.ntmps
     ·rw[List.getElem?_append_left (by simp[hol];omega),List.getElem?_append_left (by simpa using ht),List.getElem?_replicate]at hv;simp only[ht,if_true,Option.some.injEq]at hv;subst hv;trivial
     ·by_cases ht2:t<fn.ntmps+no
      ·rw[List.getElem?_append_left (by simp[hol];omega),List.getElem?_append_right (by simp;omega),List.length_replicate,qu _ _ _ (by omega)]at hv;cases hv;have e1:fn.ntmps+(t-fn.ntmps)=t:=by omega
       rw[e1,gZ _ _ _ _ (by omega),←hV t (by omega)];have hp:plain fn.ntmps (fn.ntmps+no) (get S2 t)=true:=List.all_eq_true.1 hpo _ (List.mem_of_getElem? (i:=t-fn.ntmps) (by rw[qu _ _ _ (by omega),e1]));have:=(hR2.at t).plain hp hX
       have hb:(fun p b=>∃z,jv fn.ntmps no qs (t,p)=some z∧bs2 z b)=fun p=>bs2 (t,p):=by
        funext p b
        have:jv fn.ntmps no qs (t,p)=some (t,p):=by
         unfold jv;rw[if_neg (by simp only;omega),if_pos (by simp only;omega)]
        simp[this]
       rw[hb];exact this
      ·have htt:t=fn.ntmps+no:=by
        have:=(List.getElem?_eq_some_iff.1 hv).1;simp[hol]at this;omega
       subst htt;rw[List.getElem?_append_right (by simp[hol])]at hv;simp only[List.length_append,List.length_replicate,hol,Nat.sub_self,List.getElem?_cons_zero,Option.some.injEq]at hv;subst hv;rw[fp]
       match qs,hpr,hvf,hvsE,hvs with
       | [q],hpr,hvf,hvsE,hvs=>
         have hv1:vs=[vf 0]:=hvsE;rw[hv1];have:=(hvf 0 q rfl).2.plain (X':=oC fn.ntmps no Vo) hpr (fun t b h1 h2=>by omega)
         have hb:(fun p b=>∃z,jv fn.ntmps no [q] (fn.ntmps+no,p)=some z∧bs2 z b)=fun p=>bs2 (fS q p):=by
          funext p b
          have:jv fn.ntmps no [q] (fn.ntmps+no,p)=some (fS q p):=by
           unfold jv;rw[if_pos rfl];rfl
          simp[this]
         rw[hb];exact this
       | [],hpr,hvf,hvsE,hvs=>
         have hv1:vs=[]:=hvsE;rw[hv1];exact⟨#[],rfl,rfl,fun i v hi=>by simp at hi⟩
       | q1::q2::qs,hpr,hvf,hvsE,hvs=>
         have hv2:vd vs= .tuple vs.toArray:=by
          have hl2:vs.length=qs.length+2:=by rw[hvsE];simp
          match vs,hl2 with
          | u1::u2::us,_=>rfl
         refine⟨vs.toArray,hv2,by rw[hvsE];simp,fun i v hi=> ?_⟩;have hpr:((q1::q2::qs).map (kf C S2)).all (lh 1 0)=true:=hpr;have hi:((q1::q2::qs).map (kf C S2))[i]? =some v:=hi;have hpv:=List.all_eq_true.1 hpr v (List.mem_of_getElem? hi);rw[List.getElem?_map]at hi;cases hq:(q1::q2::qs)[i]? with
         | none=>rw[hq]at hi;cases hi
         | some q=>
           rw[hq]at hi;cases hi;have hil:i<(q1::q2::qs).length:=(List.getElem?_eq_some_iff.1 hq).1
           refine⟨vf i,by
            have:=hvs i hil;simp only[List.getElem?_toArray]
            simpa using this,?_⟩
           have:=((hvf i q hq).2.comp hpv).plain (X':=oC fn.ntmps no Vo) hpv (fun t b h1 h2=>by omega)
           have hb:(fun p b=>∃z,jv fn.ntmps no (q1::q2::qs) (fn.ntmps+no,i::p)=some z∧bs2 z b)=fun p=>bs2 (fS q p):=by
            funext p b
            have:jv fn.ntmps no (q1::q2::qs) (fn.ntmps+no,i::p)=some (fS q p):=by
             unfold jv;rw[if_pos rfl];simp only[na,hq,Option.map_some]
            simp[this]
           rw[hb];exact this
    ·have:z=z':=hR2.km z z' b hb hb';subst this;exact zo hqn hql hz hz'
   ·exact he.elim
  ·exact he.elim
 ·exact he.elim
end
end Go.Proofs.YtmapddgocpkgeaaGreat.aa
namespace Go.Proofs.YtmapddgocpkgeaaGreat.aa
open Go.RowKit
set_option linter.unusedVariables false
set_option linter.unusedSimpArgs false
variable {P:Program} {C:Ctx}
def Ext (os os':List Obj):Prop:=∀(j:Nat) (o:Obj),os[j]? =some o→os'[j]? =some o
theorem Ext.refl (os:List Obj):Ext os os:=fun _ _ h=>h
theorem Ext.trans {a b c:List Obj} (h:Ext a b) (h':Ext b c):Ext a c:=fun j o hj=>h' j o (h j o hj)
theorem nq (os:List Obj) (o:Obj):Ext os (Obj.at os o).2∧(Obj.at os o).2[(Obj.at os o).1]? =some o:=by
 unfold Obj.at;split
 ·rename_i i hi;refine⟨Ext.refl _,?_⟩;unfold List.idxOf? at hi;rw[List.findIdx?_eq_some_iff_getElem]at hi;obtain⟨hlt,he,_⟩:=hi;have:os[i]=o:=by simpa using he
  rw[List.getElem?_eq_getElem hlt,this]
 ·exact⟨fun j o' hj=>by rw[List.getElem?_append_left (List.getElem?_eq_some_iff.1 hj).1];exact hj,by simp⟩
section
variable (C)
def jz (V:Nat→Value) (w:World):Obj→Value
 | .box q=>V q
 | .row r=>(jf V w r).getD undef
 | .nest r e i off=>match jf V w r with
   | some (.slice (some a) _ _)=>(w.cell? ⟨a.block,i.toNat*C.sz e+off,none⟩).getD undef
   | _=>undef
def ja:Obj→Bool
 | .box _=>false
 | _=>true
def sU (n:Nat) (os:List Obj) (V:Nat→Value) (w:World) (q:ao) (c:Value):Prop:=∃j o,q=(n+j,[])∧os[j]? =some o∧ja o=true∧c=jz C V w o
def sM (n:Nat) (os:List Obj) (S:St C) (V:Nat→Value) (t b:Nat):Prop:=∃j q,t=n+j∧os[j]? =some (.box q)∧cL C S V q b
def kJ (m:Mode) (S:St C) (N:Nat→Prop) (bs:ao→Nat→Prop) (rs:List ao) (b:Nat):Prop:=N b∨(m= .read∧∃r,r∈rs∧(∃dp e xs,look S r= .own dp e xs)∧bs r b)
end
theorem sP (n:Nat):∀(caps:List C.PV) (os os':List Obj) (caps':List C.PV),rX C n os caps=some (caps',os')→
 Ext os os'∧caps'.length=caps.length∧∀(i:Nat) (x:C.PV),caps'[i]? =some x→∃q o j,caps[i]? =some (.ptr q o)∧x= .ptr (n+j) o∧os'[j]? =some (.box q)
 | [],os,os',caps',h=>by cases h;exact⟨Ext.refl _,rfl,fun i x hx=>by simp at hx⟩
 | v::vs,os,os',caps',h=>by
   cases v with
   | ptr q o=>
     unfold rX at h;split at h
     ·rename_i vs' os1 h1;cases h;obtain⟨e1,l1,g1⟩:=sP n vs _ _ _ h1;obtain⟨e0,g0⟩:=nq os (.box q);refine⟨e0.trans e1,by simp[l1],fun i x hx=> ?_⟩;cases i with
      | zero=>cases hx;exact⟨q,o,_,rfl,rfl,e1 _ _ g0⟩
      | succ i=>exact g1 i x hx
     ·cases h
   | _=>cases h
section
variable {B:fK} {S:St C} {V:Nat→Value} {w:World} {N:Nat→Prop} {bs:ao→Nat→Prop}
theorem kX (h:Rel C B S V w N bs) {src:Option ao} {v v':C.PV} {c:Value} {Bo:Nat→Prop} (hv:aJ C (bL C S V w) (cL C S V) w N Bo v c)
 (hs:∀dp e xs,v= .own dp e xs→∀b,Bo b→∃q,src=some q∧look S q=v∧bs q b) {os os':List Obj} (hr:(fX C S v).map (·,os)=some (v',os')) {N0:Nat→Prop} (hN:∀b,behind S N bs (bC C src v) b→N0 b)
 (A:ao→Value→Prop) (X:Nat→Nat→Prop) (B':Nat→Prop):os'=os∧aJ C A X w N0 B' v' c:=by
 rw[Option.map_eq_some_iff]at hr;obtain⟨u,hu,he⟩:=hr;cases he;refine⟨rfl,?_⟩;have:=mI h src v v' c hv (fun dp e xs hvv b hb=>let⟨q,h1,h2,h3⟩:=hs dp e xs hvv b hb;⟨q,h1,⟨dp,e,xs,by rw[h2,hvv]⟩,h3⟩) hu;exact gC.rep (this.mono (fun _ _=>rfl) hN) B'
theorem qI (h:Rel C B S V w N bs) {n:Nat} {m:Mode} {src:Option ao} {v v':C.PV} {c:Value} {Bo:Nat→Prop} {os os':List Obj} (hv:aJ C (bL C S V w) (cL C S V) w N Bo v c)
 (hs:∀dp e xs,v= .own dp e xs→∀b,Bo b→∃q,src=some q∧look S q=v∧bs q b) (hsrc:∀dp e xs q,v= .own dp e xs→src=some q→look S q=v∧jf V w q=some c) (hl:ib C n m S src os v=some (v',os')):
 Ext os os'∧∀osF,Ext os' osF→∀N0:Nat→Prop,(∀b,kJ C m S N bs (bC C src v) b→N0 b)→
  aJ C (sU C n osF V w) (sM C n osF S V) w N0 (fun b=>m= .take∧∃q,q∈bC C src v∧bs q b) v' c:=by
 have plainRead:(fX C S v).map (·,os)=some (v',os')→(∀b,behind S N bs (bC C src v) b→kJ C m S N bs (bC C src v) b)→Ext os os'∧∀osF,Ext os' osF→∀N0:Nat→Prop,(∀b,kJ C m S N bs (bC C src v) b→N0 b)→
  aJ C (sU C n osF V w) (sM C n osF S V) w N0 (fun b=>m= .take∧∃q,q∈bC C src v∧bs q b) v' c:=fun hr hb=>by
  have:=fun(A:ao→Value→Prop) (X:Nat→Nat→Prop) (N0:Nat→Prop) (hN:∀b,kJ C m S N bs (bC C src v) b→N0 b) (B':Nat→Prop)=>kX h hv hs hr (fun b h'=>hN b (hb b h')) A X B';have e:os'=os:=(this (fun _ _=>True) (fun _ _=>True) (fun _=>True) (fun _ _=>trivial) (fun _=>True)).1;subst e;exact⟨Ext.refl _,fun osF _ N0 hN=>(this _ _ N0 hN _).2⟩
 have noOwn:(∀q,q∈bC C src v→∀dp e xs,look S q≠ .own dp e xs)→∀b,behind S N bs (bC C src v) b→kJ C m S N bs (bC C src v) b:=fun hno b hb=>by
  rcases hb with hb | ⟨r,hr,⟨dp,e,xs,ho⟩,_⟩
  ·exact .inl hb
  ·exact absurd ho (hno r hr dp e xs)
 have isRead:m= .read→∀b,behind S N bs (bC C src v) b→kJ C m S N bs (bC C src v) b:=fun hm b hb=>hb.imp id (fun hx=>⟨hm,hx⟩)
 have taken:∀dp e xs,m= .take→fk C w N (fun b=>∃q,q∈bC C src v∧bs q b) dp e xs c→∀N0:Nat→Prop,(∀b,kJ C m S N bs (bC C src v) b→N0 b)→∀osF,
  aJ C (sU C n osF V w) (sM C n osF S V) w N0 (fun b=>m= .take∧∃q,q∈bC C src v∧bs q b) (.own dp e xs) c:=fun dp e xs hm ho N0 hN osF=>
  fk.move (w':=w) ho (fun _ _=>rfl) (fun b hb=>hN b (.inl hb)) (fun b hb=>⟨hm,hb⟩)
 cases v with
 | ptr q o=>
   cases hl;obtain⟨e0,g0⟩:=nq os (.box q);obtain⟨b,hb,hc⟩:=hv;exact⟨e0,fun osF hF N0 hN=>⟨b,⟨_,q,rfl,hF _ _ g0,hb⟩,hc⟩⟩
 | fn f caps=>
   simp only[ib]at hl;split at hl
   ·rename_i caps' os1 h1;cases hl;obtain⟨e1,l1,g1⟩:=sP n _ _ _ _ h1;obtain⟨cs,hc,hs',hl'⟩:=hv;refine⟨e1,fun osF hF N0 hN=>⟨cs,hc,by rw[l1];exact hs',fun i x hx=> ?_⟩⟩;obtain⟨q,o,j,k1,k2,k3⟩:=g1 i x hx;obtain⟨t,off,b,k4,k5,k6⟩:=hl' i _ k1;cases k4;exact⟨_,_,b,k2,⟨j,q,rfl,hF _ _ k3,k5⟩,k6⟩
   ·cases hl
 | iV q=>
   obtain⟨hrow,hconc⟩:=hv;cases m with
   | read=>exact plainRead hl (isRead rfl)
   | edit=>
     simp only[ib]at hl;split at hl
     ·rename_i dp e xs hlq;cases hl;obtain⟨e0,g0⟩:=nq os (.row q);exact⟨e0,fun osF hF N0 hN=>⟨_,_,rfl,hF _ _ g0,rfl,by simp only[jz,hconc,Option.getD_some]⟩⟩
     ·rename_i hno;refine plainRead hl (noOwn fun r hr dp e xs=> ?_);simp only[bC,List.mem_singleton]at hr;subst hr;exact hno dp e xs
   | take=>
     simp only[ib]at hl;split at hl
     ·rename_i dp e xs hlq;cases hl;refine⟨Ext.refl _,fun osF hF N0 hN=>taken dp e xs rfl ?_ N0 hN osF⟩;obtain⟨c',hc',hrep⟩:=eH.look h q (cc hrow);rw[hconc]at hc';cases hc';rw[hlq]at hrep;exact fk.move (w':=w) hrep (fun _ _=>rfl) (fun _ hb=>hb) (fun b hb=>⟨q,by simp[bC],hb⟩)
     ·rename_i hno;refine plainRead hl (noOwn fun r hr dp e xs=> ?_);simp only[bC,List.mem_singleton]at hr;subst hr;exact hno dp e xs
 | own dp e xs=>
   cases m with
   | read=>exact plainRead hl (isRead rfl)
   | edit=>
     simp only[ib]at hl;split at hl
     ·rename_i q;cases hl;obtain⟨hlq,hconc⟩:=hsrc dp e xs q rfl rfl;obtain⟨e0,g0⟩:=nq os (.row q);exact⟨e0,fun osF hF N0 hN=>⟨_,_,rfl,hF _ _ g0,rfl,by simp only[jz,hconc,Option.getD_some]⟩⟩
     ·exact plainRead hl (noOwn fun r hr=>by simp[bC]at hr)
   | take=>
     simp only[ib]at hl;cases hl;refine⟨Ext.refl _,fun osF hF N0 hN=>taken dp e xs rfl ?_ N0 hN osF⟩;refine fk.move (w':=w) hv (fun _ _=>rfl) (fun _ hb=>hb) (fun b hb=> ?_);obtain⟨q,hq1,_,hq2⟩:=hs dp e xs rfl b hb;exact⟨q,by rw[hq1];simp[bC],hq2⟩
 | kB q e i off=>
   cases m with
   | read=>exact plainRead hl (isRead rfl)
   | take=>cases hl
   | edit=>
     simp only[ib]at hl;cases hl;obtain⟨e0,g0⟩:=nq os (.nest q e i off);obtain⟨b,k,cap,⟨hrow,hconc⟩,hi,hcell⟩:=hv;exact⟨e0,fun osF hF N0 hN=>⟨_,_,rfl,hF _ _ g0,rfl,by simp only[jz,hconc,hcell,Option.getD_some]⟩⟩
 | undef=>cases m<;>(simp[ib,fX]at hl)
 | void=>cases m<;>(simp[ib,fX]at hl)
 | agg ls=>exact hv.elim
 | box ls=>exact hv.elim
 | gG ls=>exact hv.elim
 | nR q e i o=>cases m<;>(simp[ib,fX]at hl)
 | vw q e i o=>cases m<;>(simp[ib,fX]at hl)
 | rd x o=>cases m<;>(simp[ib,fX]at hl)
 | int k i=>cases m<;>exact plainRead hl (noOwn fun r hr=>by simp[bC]at hr)
 | bool b=>cases m<;>exact plainRead hl (noOwn fun r hr=>by simp[bC]at hr)
 | str s=>cases m<;>exact plainRead hl (noOwn fun r hr=>by simp[bC]at hr)
 | sl e xs=>cases m<;>exact plainRead hl (noOwn fun r hr=>by simp[bC]at hr)
theorem oP (h:Rel C B S V w N bs) {n:Nat} {m:Mode} {t:Option Nat} {Bo:Nat→Nat→Prop} {cs:Array Value} {N1:Nat→Prop}:
 ∀(ls:List C.PV) (k:Nat) {ls':List C.PV} {os os':List Obj},(∀(i:Nat) (v:C.PV),ls[i]? =some v→∃u,cs[k+i]? =some u∧aJ C (bL C S V w) (cL C S V) w N (Bo (k+i)) v u∧
  (∀dp e xs,v= .own dp e xs→∀b,Bo (k+i) b→∃q,t.map (fun q=>(q,[k+i]))=some q∧look S q=v∧bs q b)∧(∀dp e xs q,v= .own dp e xs→t.map (fun q=>(q,[k+i]))=some q→look S q=v∧jf V w q=some u)∧
  (∀b,kJ C m S N bs (bC C (t.map fun q=>(q,[k+i])) v) b→N1 b))→
  mM C n m S t k os ls=some (ls',os')→Ext os os'∧ls'.length=ls.length∧∀osF,Ext os' osF→∀(i:Nat) (v':C.PV),ls'[i]? =some v'→∃u v,cs[k+i]? =some u∧ls[i]? =some v∧aJ C (sU C n osF V w) (sM C n osF S V) w N1 (fun b=>m= .take∧∃q,q∈bC C (t.map fun q=>(q,[k+i])) v∧bs q b) v' u
 | [],k,ls',os,os',_,hl=>by cases hl;exact⟨Ext.refl _,rfl,fun osF _ i v' hi=>by simp at hi⟩
 | v::vs,k,ls',os,os',hall,hl=>by
   unfold mM at hl;split at hl
   ·rename_i v1 os1 h1;split at hl
    ·rename_i vs1 os2 h2;cases hl;obtain⟨u,hu,hv,hs,hsrc,hN⟩:=hall 0 v rfl;simp only[Nat.add_zero]at hu hv hs hsrc hN;obtain⟨e1,g1⟩:=qI h hv hs hsrc h1
     obtain⟨e2,l2,g2⟩:=oP h vs (k+1) (fun i x hx=>by
      have:=hall (i+1) x hx
      rwa [show k+(i+1)=k+1+i by omega]at this) h2
     refine⟨e1.trans e2,by simp[l2],fun osF hF i v' hi=> ?_⟩;cases i with
     | zero=>
       cases hi;exact⟨u,v,hu,rfl,g1 osF (e2.trans hF) N1 hN⟩
     | succ i=>
       have:=g2 osF hF i v' hi;rw[show k+1+i=k+(i+1) by omega]at this;exact this
    ·cases hl
   ·cases hl
variable (C)in
def gd (src:Option Nat):C.PV→List Nat→List ao
 | .agg ls,[i]=>match ls[i]? with
   | some v=>bC C (src.map fun q=>(q,[i])) v
   | none=>[]
 | .agg _,_=>[]
 | v,[]=>bC C (src.map fun q=>(q,[])) v
 | _,_=>[]
theorem kD {src:Option Nat} {v:C.PV} {x:List Nat} {q:ao} (h:q∈gd C src v x):q∈aZ C src v:=by
 have leaf:∀v:C.PV,aQ v=true→q∈gd C src v x→q∈aZ C src v:=fun v hl h=>by
  cases x with
  | nil=>cases v<;>first | exact h | simp[aQ]at hl
  | cons i x=>cases v<;>first | (simp[gd]at h;done) | simp[aQ]at hl
 cases v with
 | agg ls=>
   match x,h with
   | [i],h=>
     simp only[gd]at h;split at h
     ·rename_i v hv;exact iu ls 0 i v hv (by rw[Nat.zero_add];exact h)
     ·simp at h
   | [],h=>simp[gd]at h
   | _::_::_,h=>simp[gd]at h
 | box ls=>cases x<;>simp[gd,bC]at h
 | gG ls=>cases x<;>simp[gd,bC]at h
 | _=>exact leaf _ rfl h
theorem py {t:Option Nat} {q:ao}:∀(ls:List C.PV) (k i j:Nat) (v v':C.PV),(gY C t k ls).Nodup→ls[i]? =some v→ls[j]? =some v'→q∈bC C (t.map fun q=>(q,[k+i])) v→q∈bC C (t.map fun q=>(q,[k+j])) v'→i=j
 | [],k,i,j,v,v',_,h,_,_,_=>by simp at h
 | x::xs,k,i,j,v,v',hd,h,h',hq,hq'=>by
   unfold gY at hd;rw[List.nodup_append]at hd;obtain⟨_,hd2,hd3⟩:=hd;have tail:∀{i:Nat} {v:C.PV},xs[i]? =some v→q∈bC C (t.map fun q=>(q,[k+(i+1)])) v→q∈gY C t (k+1) xs:=fun{i v} h hq=>iu xs (k+1) i v h (by rw[show k+1+i=k+(i+1) by omega];exact hq);cases i with
   | zero=>
     cases j with
     | zero=>rfl
     | succ j=>cases h;exact absurd rfl (hd3 q (by simpa using hq) q (tail h' hq'))
   | succ i=>
     cases j with
     | zero=>cases h';exact absurd rfl (hd3 q (by simpa using hq') q (tail h hq))
     | succ j=>
       have:=py xs (k+1) i j v v' hd2 h h' (by rw[show k+1+i=k+(i+1) by omega];exact hq) (by rw[show k+1+j=k+(j+1) by omega];exact hq');omega
theorem zf {src:Option Nat} {v:C.PV} {x x':List Nat} {q:ao} (hd:(aZ C src v).Nodup) (h:q∈gd C src v x) (h':q∈gd C src v x'):x=x':=by
 have leaf:∀(v:C.PV) (x:List Nat),(∀ls,v≠ .agg ls)→q∈gd C src v x→x=[]:=fun v x hl h=>by
  cases x with
  | nil=>rfl
  | cons i x=>cases v<;>first | (simp[gd]at h;done) | exact absurd rfl (hl _)
 cases v with
 | agg ls=>
   match x,x',h,h' with
   | [i],[j],h,h'=>
     simp only[gd]at h h';split at h
     ·rename_i v hv;split at h'
      ·rename_i v' hv';rw[py ls 0 i j v v' hd hv hv' (by rw[Nat.zero_add];exact h) (by rw[Nat.zero_add];exact h')]
      ·simp at h'
     ·simp at h
   | [],_,h,_=>simp[gd]at h
   | _::_::_,_,h,_=>simp[gd]at h
   | [_],[],_,h'=>simp[gd]at h'
   | [_],_::_::_,_,h'=>simp[gd]at h'
 | _=>rw[leaf _ _ (fun ls e=>by cases e) h,leaf _ _ (fun ls e=>by cases e) h']
theorem yq (h:Rel C B S V w N bs) {n:Nat} {m:Mode} {src:Option Nat} {v v':C.PV} {c:Value} {Bo:List Nat→Nat→Prop} {os os':List Obj} (hv:aR C (bL C S V w) (cL C S V) w N Bo v c)
 (hs:∀p b,Bo p b→∃q,src=some q∧bs (q,p) b) (hsrc:∀q,src=some q→get S q=v∧V q=c) (hl:qC C n m S src os v=some (v',os')):
 Ext os os'∧∀osF,Ext os' osF→∀N0:Nat→Prop,(∀b,kJ C m S N bs (aZ C src v) b→N0 b)→
  aR C (sU C n osF V w) (sM C n osF S V) w N0 (fun p b=>m= .take∧∃q,q∈gd C src v p∧bs q b) v' c:=by
 have leaf:aQ v=true→ib C n m S (src.map fun q=>(q,[])) os v=some (v',os')→Ext os os'∧∀osF,Ext os' osF→∀N0:Nat→Prop,(∀b,kJ C m S N bs (aZ C src v) b→N0 b)→
  aR C (sU C n osF V w) (sM C n osF S V) w N0 (fun p b=>m= .take∧∃q,q∈gd C src v p∧bs q b) v' c:=fun hlv hl=>by
  have hr:aZ C src v=bC C (src.map fun q=>(q,[])) v:=by cases v<;>first | rfl | simp[aQ]at hlv
  have hv':aJ C (bL C S V w) (cL C S V) w N (Bo []) v c:=by cases v<;>first | exact hv | simp[aQ]at hlv
  obtain⟨e1,g1⟩:=qI h hv' (src:=src.map fun q=>(q,[])) (fun dp e xs hvv b hb=>by
   obtain⟨q,hq,hb'⟩:=hs [] b hb;exact⟨(q,[]),by rw[hq];rfl,by unfold look;exact(hsrc q hq).1,hb'⟩) (fun dp e xs q hvv hq=>by
   cases src with
   | none=>cases hq
   | some q'=>cases hq;exact⟨(hsrc q' rfl).1,by unfold jf;simp only[walk];rw[(hsrc q' rfl).2]⟩) hl
  have hra:gd C src v []=bC C (src.map fun q=>(q,[])) v:=by cases v<;>first | rfl | simp[aQ]at hlv
  refine⟨e1,fun osF hF N0 hN=>aR.gJ ?_⟩;rw[hr]at hN;rw[hra];exact g1 osF hF N0 hN
 cases v with
 | agg ls=>
   simp only[qC]at hl;split at hl
   ·rename_i ls' os1 h1;cases hl;obtain⟨cs,rfl,hsz,hag⟩:=hv
    have key:=fun(N1:Nat→Prop) (hN1:∀b,kJ C m S N bs (aZ C src (.agg ls)) b→N1 b)=>oP h (t:=src) (Bo:=fun i=>Bo [i]) (cs:=cs) (N1:=N1) ls 0 (fun i v hi=>by
     obtain⟨u,hu,hrep⟩:=hag i v hi;refine⟨u,by rw[Nat.zero_add];exact hu,by rw[Nat.zero_add];exact hrep,fun dp e xs hvv b hb=> ?_,fun dp e xs q hvv hq=> ?_,fun b hb=>hN1 b ?_⟩
     ·rw[Nat.zero_add]at hb;obtain⟨q,hq,hb'⟩:=hs [i] b hb;refine⟨(q,[i]),by rw[hq,Nat.zero_add];rfl,?_,hb'⟩;unfold look;rw[(hsrc q hq).1];simp only[bc];rw[get_at hi]
     ·cases src with
      | none=>cases hq
      | some q'=>
        rw[Nat.zero_add]at hq;cases hq;refine⟨?_,?_⟩
        ·unfold look;rw[(hsrc q' rfl).1];simp only[bc];rw[get_at hi]
        ·unfold jf;rw[(hsrc q' rfl).2];simp only[walk,hu,Option.bind_some]
     ·refine hb.imp id (fun⟨hm',r,hr,ho,hb'⟩=>⟨hm',r,?_,ho,hb'⟩);exact iu ls 0 i v hi hr) h1
    have e1:=(key (fun _=>True) (fun _ _=>trivial)).1;refine⟨e1,fun osF hF N0 hN=> ?_⟩;obtain⟨_,l1,g1⟩:=key N0 hN;refine⟨cs,rfl,by rw[l1];exact hsz,fun i v' hi=> ?_⟩;obtain⟨u,v,hu,hv,hrep⟩:=g1 osF hF i v' hi;rw[Nat.zero_add]at hu hrep;refine⟨u,hu,?_⟩;have hra:gd C src (.agg ls) [i]=bC C (src.map fun q=>(q,[i])) v:=by simp only[gd,hv]
    simp only[hra];exact hrep
   ·cases hl
 | box ls=>
   simp only[qC]at hl;split at hl
   ·rename_i q;cases hl;obtain⟨hg,hc⟩:=hsrc q rfl;obtain⟨b,cs,ty,hcb,_⟩:=hv;obtain⟨e0,g0⟩:=nq os (.box q);exact⟨e0,fun osF hF N0 hN=>⟨b,⟨_,q,rfl,hF _ _ g0,⟨ls,hg⟩,by rw[hc,hcb]⟩,hcb⟩⟩
   ·cases hl
 | gG vs=>
   simp only[qC]at hl;cases m<;>(simp[ib,fX]at hl)
 | undef=>exact leaf rfl hl
 | void=>exact leaf rfl hl
 | int k i=>exact leaf rfl hl
 | bool b=>exact leaf rfl hl
 | str s=>exact leaf rfl hl
 | fn f caps=>exact leaf rfl hl
 | sl e xs=>exact leaf rfl hl
 | own dp e xs=>exact leaf rfl hl
 | iV q=>exact leaf rfl hl
 | ptr t o=>exact leaf rfl hl
 | nR q e i o=>exact leaf rfl hl
 | vw q e i o=>exact leaf rfl hl
 | kB q e i o=>exact leaf rfl hl
 | rd x o=>exact leaf rfl hl
theorem nA (h:Rel C B S V w N bs) {n:Nat} {m:Mode} {N0:Nat→Prop}:∀(vs:List (Option Nat×C.PV)) (cs:List Value) {os os':List Obj} {us:List C.PV},
 (∀(i:Nat) (p:Option Nat×C.PV),vs[i]? =some p→∃c Bo,cs[i]? =some c∧aR C (bL C S V w) (cL C S V) w N Bo p.2 c∧(∀x b,Bo x b→∃q,p.1=some q∧bs (q,x) b)∧(∀q,p.1=some q→get S q=p.2∧V q=c)∧
  (∀b,kJ C m S N bs (aZ C p.1 p.2) b→N0 b))→
 ow C n m S os vs=some (us,os')→Ext os os'∧us.length=vs.length∧∀osF,Ext os' osF→∀(i:Nat) (v':C.PV),us[i]? =some v'→∃p c,vs[i]? =some p∧cs[i]? =some c∧
  aR C (sU C n osF V w) (sM C n osF S V) w N0 (fun x b=>m= .take∧∃q,q∈gd C p.1 p.2 x∧bs q b) v' c
 | [],cs,os,os',us,_,hl=>by cases hl;exact⟨Ext.refl _,rfl,fun osF _ i v' hi=>by simp at hi⟩
 | (src,v)::vs,cs,os,os',us,hall,hl=>by
   unfold ow at hl;split at hl
   ·rename_i v1 os1 h1;split at hl
    ·rename_i vs1 os2 h2;cases hl;obtain⟨c,Bo,hc,hv,hs,hsrc,hN⟩:=hall 0 (src,v) rfl;obtain⟨e1,g1⟩:=yq h hv hs hsrc h1;cases cs with
     | nil=>simp at hc
     | cons c0 cs=>
       cases hc
       obtain⟨e2,l2,g2⟩:=nA h vs cs (fun i p hp=>by
        obtain⟨c',Bo',k1,k2⟩:=hall (i+1) p hp;exact⟨c',Bo',k1,k2⟩) h2
       refine⟨e1.trans e2,by simp[l2],fun osF hF i v' hi=> ?_⟩;cases i with
       | zero=>cases hi;exact⟨_,_,rfl,rfl,g1 osF (e2.trans hF) N0 hN⟩
       | succ i=>exact g2 osF hF i v' hi
    ·cases hl
   ·cases hl
end
end Go.Proofs.YtmapddgocpkgeaaGreat.aa
namespace Go.Proofs.YtmapddgocpkgeaaGreat.aa
open Go.RowKit
set_option linter.unusedVariables false
set_option linter.unusedSimpArgs false
variable {P:Program} {C:Ctx}
def sw (n:Nat) (os:List Obj) (cs cs':List C.PV):Prop:=
 cs'.length=cs.length∧∀(k:Nat) (x:C.PV),cs'[k]? =some x→(∃q o j,cs[k]? =some (.ptr q o)∧x= .ptr (n+j) o∧os[j]? =some (.box q))∨(cs[k]? =some x∧wO x=true)
theorem sw.ext {n:Nat} {os os':List Obj} {cs cs':List C.PV} (h:sw (C:=C) n os cs cs') (he:Ext os os'):sw (C:=C) n os' cs cs':=
 ⟨h.1,fun k x hx=>(h.2 k x hx).imp (fun⟨q,o,j,h1,h2,h3⟩=>⟨q,o,j,h1,h2,he _ _ h3⟩) id⟩
theorem qq (n:Nat):∀(cs:List C.PV) {os os':List Obj} {cs':List C.PV},um C n os cs=some (cs',os')→Ext os os'∧sw (C:=C) n os' cs cs'
 | [],os,os',cs',h=>by cases h;exact⟨Ext.refl _,rfl,fun k x hx=>by simp at hx⟩
 | v::vs,os,os',cs',h=>by
   unfold um at h
   have same:wO v=true→(match(some (v,os):Option (C.PV×List Obj))with
    | some (v',os')=>match um C n os' vs with
      | some (vs',os'')=>some (v'::vs',os'')
      | none=>none
    | none=>none)=some (cs',os')→Ext os os'∧sw (C:=C) n os' (v::vs) cs':=fun hi h=>by
    simp only at h;split at h
    ·rename_i vs' os2 h2;cases h;obtain⟨e2,l2,g2⟩:=qq n vs h2;refine⟨e2,by simp[l2],fun k x hx=> ?_⟩;cases k with
     | zero=>cases hx;exact .inr ⟨rfl,hi⟩
     | succ k=>exact g2 k x hx
    ·cases h
   cases v with
   | ptr q o=>
     simp only at h;split at h
     ·rename_i vs' os2 h2;cases h;obtain⟨e0,g0⟩:=nq os (.box q);obtain⟨e2,l2,g2⟩:=qq n vs h2;refine⟨e0.trans e2,by simp[l2],fun k x hx=> ?_⟩;cases k with
      | zero=>cases hx;exact .inl ⟨q,o,_,rfl,rfl,e2 _ _ g0⟩
      | succ k=>exact g2 k x hx
     ·cases h
   | int k i=>exact same rfl h
   | bool b=>exact same rfl h
   | str s=>exact same rfl h
   | sl e xs=>exact same rfl h
   | own dp e xs=>exact same rfl h
   | undef=>exact same rfl h
   | _=>cases h
def rI (n:Nat) (osF:List Obj) (S:St C):Obj→C.PV→Prop
 | .box q,v=>∃cs cs',get S q= .box cs∧v= .box cs'∧sw (C:=C) n osF cs cs'
 | .row r,v=>∃dp e xs,look S r= .own dp e xs∧v= .own dp e xs
 | .nest r e i off,v=>∃f ys,fX C S (.kB r e i off)=some (.sl f ys)∧gp C f=false∧v= .own true f ys
theorem rI.ext {n:Nat} {os os':List Obj} {S:St C} {o:Obj} {v:C.PV} (h:rI n os S o v) (he:Ext os os'):rI n os' S o v:=by
 cases o with
 | box q=>obtain⟨cs,cs',h1,h2,h3⟩:=h;exact⟨cs,cs',h1,h2,h3.ext he⟩
 | row r=>exact h
 | nest r e i off=>exact h
theorem Ext.length {os os':List Obj} (h:Ext os os'):os.length≤os'.length:=by
 cases hn:os.length with
 | zero=>exact Nat.zero_le _
 | succ k=>
   have hk:k<os.length:=by omega
   exact(List.getElem?_eq_some_iff.1 (h k _ (List.getElem?_eq_getElem hk))).1
theorem tc (n:Nat) (S:St C):∀(k i:Nat) {os osF:List Obj} {vals:List C.PV},lO C n S k i os=some (vals,osF)→i≤os.length→
 Ext os osF∧vals.length+i=osF.length∧∀j o,i≤j→osF[j]? =some o→∃v,vals[j-i]? =some v∧rI n osF S o v
 | 0,i,os,osF,vals,h,hi=>by cases h
 | k+1,i,os,osF,vals,h,hi=>by
   have step:∀{v:C.PV} {os1:List Obj} {o:Obj},os[i]? =some o→Ext os os1→rI n os1 S o v→(match lO C n S k (i+1) os1 with
    | some (vs,os')=>some (v::vs,os')
    | none=>none)=some (vals,osF)→Ext os osF∧vals.length+i=osF.length∧∀j o,i≤j→osF[j]? =some o→∃v,vals[j-i]? =some v∧rI n osF S o v:=fun{v os1 o} ho he hv h=>by
    split at h
    ·rename_i vs os' h';cases h
     have hi':i+1≤os1.length:=by
      have:=(List.getElem?_eq_some_iff.1 (he _ _ ho)).1;omega
     obtain⟨e1,l1,g1⟩:=tc n S k (i+1) h' hi';refine⟨he.trans e1,by simp only[List.length_cons];omega,fun j o' hij ho'=> ?_⟩
     by_cases hji:j=i
     ·subst hji;rw[(he.trans e1) _ _ ho]at ho';cases ho';exact⟨v,by simp,hv.ext e1⟩
     ·obtain⟨v',h1,h2⟩:=g1 j o' (by omega) ho';exact⟨v',by rw[show j-i=(j-(i+1))+1 by omega];exact h1,h2⟩
    ·cases h
   unfold lO at h;split at h
   ·rename_i hn;cases h;have:os.length≤i:=List.getElem?_eq_none_iff.1 hn;refine⟨Ext.refl _,by simp;omega,fun j o hij ho=> ?_⟩;have:=(List.getElem?_eq_some_iff.1 ho).1;omega
   ·rename_i q ho;split at h
    ·rename_i cs hq;split at h
     ·rename_i cs' os1 h1;obtain⟨e0,m0⟩:=qq n cs h1;exact step ho e0 ⟨cs,cs',hq,rfl,m0⟩ h
     ·cases h
    ·cases h
   ·rename_i r ho;split at h
    ·rename_i dp e xs hr;exact step ho (Ext.refl _) ⟨dp,e,xs,hr,rfl⟩ h
    ·cases h
   ·rename_i q e i' off ho;split at h
    ·rename_i f ys hr;split at h
     ·cases h
     ·rename_i hd;exact step ho (Ext.refl _) ⟨f,ys,hr,by simpa using hd,rfl⟩ h
    ·cases h
def iF (n:Nat) (os:List Obj) (r q:ao):Prop:=∃j o,r.1=n+j∧os[j]? =some o∧match o with
 | .box t=>q=(t,r.2)
 | o=>r.2=[]∧q=o.root
def Cn (C:Ctx) (n:Nat) (os:List Obj) (V:Nat→Value) (w:World) (r:ao) (b:Nat):Prop:=∀j q e i off,r.1=n+j→os[j]? =some (.nest q e i off)→∃k cap,jz C V w (.nest q e i off)= .slice (some ⟨b,0,none⟩) k cap
def jB (C:Ctx) (n:Nat) (m:Mode) (vs:List (Option Nat×C.PV)) (os:List Obj) (V:Nat→Value) (w:World) (bs:ao→Nat→Prop) (r:ao) (b:Nat):Prop:=
 ((∃q,iF n os r q∧bs q b)∧Cn C n os V w r b)∨(r.1<n∧m= .take∧∃p q,vs[r.1]? =some p∧q∈gd C p.1 p.2 r.2∧bs q b)
theorem iQ {o o':Obj} (h:Obj.apart o o'=true):(∀q,o= .box q→o'.root.1≠q)∧(∀q,o'= .box q→o.root.1≠q)∧o.root≠o'.root:=by
 cases o<;>cases o'<;>simp[Obj.apart,Obj.root]at h⊢<;>simp_all<;>(intro e;exact h (by first | rw[←e] | rw[e]))
theorem iT:∀{os:List Obj},dC os=true→∀(i j:Nat) (o o':Obj),os[i]? =some o→os[j]? =some o'→i<j→Obj.apart o o'=true
 | [],_,i,j,o,o',h,_,_=>by simp at h
 | x::xs,hp,i,j,o,o',h,h',hij=>by
   simp only[dC,Bool.and_eq_true]at hp;cases j with
   | zero=>omega
   | succ j=>
     cases i with
     | zero=>
       cases h;exact List.all_eq_true.1 hp.1 o' (List.mem_of_getElem? h')
     | succ i=>exact iT hp.2 i j o o' h h' (by omega)
theorem rK {n:Nat} {os:List Obj} (hp:dC os=true) {r r' q:ao} (h:iF n os r q) (h':iF n os r' q):r=r':=by
 obtain⟨t,p⟩:=r;obtain⟨t',p'⟩:=r';obtain⟨j,o,h1,h2,h3⟩:=h;obtain⟨j',o',h1',h2',h3'⟩:=h';simp only at h1 h1' h3 h3'
 have root:∀{o:Obj} {p:List Nat},(match o with | .box t=>q=(t,p) | o=>p=[]∧q=o.root)→q.1=o.root.1∧((∃t,o= .box t)∨q=o.root):=fun{o p} h=>by
  cases o with
  | box t=>exact⟨by rw[h];rfl,.inl ⟨t,rfl⟩⟩
  | row r=>exact⟨by rw[h.2],.inr h.2⟩
  | nest r e i off=>exact⟨by rw[h.2],.inr h.2⟩
 have hne:∀{o o':Obj},Obj.apart o o'=true→(q.1=o.root.1∧((∃t,o= .box t)∨q=o.root))→(q.1=o'.root.1∧((∃t,o'= .box t)∨q=o'.root))→False:=fun{o o'} ha h h'=>by
  obtain⟨k1,k2,k3⟩:=iQ ha;rcases h.2 with⟨t,rfl⟩ | e
  ·exact k1 t rfl (by rw[←h'.1,h.1];rfl)
  ·rcases h'.2 with⟨t,rfl⟩ | e'
   ·exact k2 t rfl (by rw[←h.1,h'.1];rfl)
   ·exact k3 (e.symm.trans e')
 have hj:j=j':=by
  rcases Nat.lt_trichotomy j j' with hlt | he | hgt
  ·exact(hne (iT hp j j' o o' h2 h2' hlt) (root h3) (root h3')).elim
  ·exact he
  ·exact(hne (iT hp j' j o' o h2' h2 hgt) (root h3') (root h3)).elim
 subst hj;rw[h2]at h2';cases h2'
 have hpp:p=p':=by
  cases o with
  | box t=>rw[h3]at h3';simpa using h3'
  | row r=>rw[h3.1,h3'.1]
  | nest r e i off=>rw[h3.1,h3'.1]
 rw[h1,h1',hpp]
def gv (S:St C) (V:Nat→Value) (w:World) (os:List Obj):Prop:=∀q e i off,Obj.nest q e i off∈os→∃b k cap c,bL C S V w q (.slice (some ⟨b,0,none⟩) k cap)∧(0≤i∧i.toNat<k∧off<C.sz e)∧w.cell? ⟨b,i.toNat*C.sz e+off,none⟩=some c
section
variable {S:St C} {V:Nat→Value} {w:World}
theorem gv.at {os:List Obj} {o:Obj} (h:gv S V w os) (ho:∀q e i off,o= .nest q e i off→∃b k cap c,bL C S V w q (.slice (some ⟨b,0,none⟩) k cap)∧(0≤i∧i.toNat<k∧off<C.sz e)∧w.cell? ⟨b,i.toNat*C.sz e+off,none⟩=some c):gv S V w (Obj.at os o).2:=by
 unfold Obj.at;split
 ·exact h
 ·intro q e i off hm;rcases List.mem_append.1 hm with hm | hm
  ·exact h q e i off hm
  ·exact ho q e i off (List.mem_singleton.1 hm).symm
theorem rz (n:Nat):∀(caps:List C.PV) {os os':List Obj} {caps':List C.PV},gv S V w os→rX C n os caps=some (caps',os')→gv S V w os'
 | [],os,os',caps',hn,h=>by cases h;exact hn
 | v::vs,os,os',caps',hn,h=>by
   cases v with
   | ptr q o=>
     unfold rX at h;split at h
     ·rename_i vs' os1 h1;cases h;exact rz n vs (hn.at (fun _ _ _ _ e=>by cases e)) h1
     ·cases h
   | _=>cases h
theorem rH {n:Nat} {m:Mode} {src:Option ao} {v v':C.PV} {c:Value} {N Bo:Nat→Prop} {os os':List Obj} (hv:aJ C (bL C S V w) (cL C S V) w N Bo v c) (hn:gv S V w os) (hl:ib C n m S src os v=some (v',os')):gv S V w os':=by
 have kX:(fX C S v).map (·,os)=some (v',os')→gv S V w os':=fun h=>by
  rw[Option.map_eq_some_iff]at h;obtain⟨u,_,e⟩:=h;cases e;exact hn
 cases v with
 | ptr q o=>cases hl;exact hn.at (fun _ _ _ _ e=>by cases e)
 | fn f caps=>
   simp only[ib]at hl;split at hl
   ·rename_i caps' os1 h1;cases hl;exact rz n _ hn h1
   ·cases hl
 | iV q=>
   cases m with
   | read=>exact kX hl
   | edit=>
     simp only[ib]at hl;split at hl
     ·cases hl;exact hn.at (fun _ _ _ _ e=>by cases e)
     ·exact kX hl
   | take=>
     simp only[ib]at hl;split at hl
     ·cases hl;exact hn
     ·exact kX hl
 | own dp e xs=>
   cases m with
   | read=>exact kX hl
   | edit=>
     simp only[ib]at hl;split at hl
     ·cases hl;exact hn.at (fun _ _ _ _ e=>by cases e)
     ·exact kX hl
   | take=>cases hl;exact hn
 | kB q e i off=>
   cases m with
   | read=>exact kX hl
   | take=>cases hl
   | edit=>
     cases hl;refine hn.at (fun _ _ _ _ e=> ?_);cases e;obtain⟨b,k,cap,h1,h2,h3⟩:=hv;exact⟨b,k,cap,c,h1,h2,h3⟩
 | _=>cases m<;>exact kX hl
theorem od {n:Nat} {m:Mode} {t:Option Nat} {N:Nat→Prop}:∀(ls:List C.PV) (k:Nat) {ls':List C.PV} {os os':List Obj},(∀v,v∈ls→∃u Bo,aJ C (bL C S V w) (cL C S V) w N Bo v u)→gv S V w os→mM C n m S t k os ls=some (ls',os')→gv S V w os'
 | [],k,ls',os,os',_,hn,hl=>by cases hl;exact hn
 | v::vs,k,ls',os,os',hall,hn,hl=>by
   unfold mM at hl;split at hl
   ·rename_i v1 os1 h1;split at hl
    ·rename_i vs1 os2 h2;cases hl;obtain⟨u,Bo,hv⟩:=hall v (by simp);exact od vs (k+1) (fun x hx=>hall x (by simp[hx])) (rH hv hn h1) h2
    ·cases hl
   ·cases hl
theorem zC {n:Nat} {m:Mode} {src:Option Nat} {v v':C.PV} {c:Value} {N:Nat→Prop} {Bo:List Nat→Nat→Prop} {os os':List Obj} (hv:aR C (bL C S V w) (cL C S V) w N Bo v c) (hn:gv S V w os) (hl:qC C n m S src os v=some (v',os')):gv S V w os':=by
 cases v with
 | agg ls=>
   simp only[qC]at hl;split at hl
   ·rename_i ls' os1 h1;cases hl;obtain⟨cs,_,_,hag⟩:=hv
    exact od ls 0 (fun x hx=>by
     obtain⟨i,hi⟩:=List.getElem?_of_mem hx;obtain⟨u,_,hr⟩:=hag i x hi;exact⟨u,_,hr⟩) hn h1
   ·cases hl
 | box ls=>
   simp only[qC]at hl;split at hl
   ·cases hl;exact hn.at (fun _ _ _ _ e=>by cases e)
   ·cases hl
 | gG vs=>
   simp only[qC]at hl;cases m<;>(simp[ib,fX]at hl)
 | _=>exact rH (n:=n) (m:=m) (src:=src.map fun q=>(q,[])) (aR.k8 hv rfl) hn hl
theorem rG {n:Nat} {m:Mode} {N:Nat→Prop}:∀(vs:List (Option Nat×C.PV)) {os os':List Obj} {us:List C.PV},(∀p,p∈vs→∃c Bo,aR C (bL C S V w) (cL C S V) w N Bo p.2 c)→gv S V w os→ow C n m S os vs=some (us,os')→gv S V w os'
 | [],os,os',us,_,hn,hl=>by cases hl;exact hn
 | (src,v)::vs,os,os',us,hall,hn,hl=>by
   unfold ow at hl;split at hl
   ·rename_i v1 os1 h1;split at hl
    ·rename_i vs1 os2 h2;cases hl;obtain⟨c,Bo,hv⟩:=hall (src,v) (by simp);exact rG vs (fun x hx=>hall x (by simp[hx])) (zC hv hn h1) h2
    ·cases hl
   ·cases hl
theorem td (n:Nat):∀(cs:List C.PV) {os os':List Obj} {cs':List C.PV},gv S V w os→um C n os cs=some (cs',os')→gv S V w os'
 | [],os,os',cs',hn,h=>by cases h;exact hn
 | v::vs,os,os',cs',hn,h=>by
   unfold um at h;split at h
   ·rename_i v' os1 h1;split at h
    ·rename_i vs' os2 h2;cases h;refine td n vs ?_ h2;split at h1<;>first | (cases h1;exact hn) | (cases h1;exact hn.at (fun _ _ _ _ e=>by cases e)) | cases h1
    ·cases h
   ·cases h
theorem lf (n:Nat):∀(k i:Nat) {os osF:List Obj} {vals:List C.PV},gv S V w os→lO C n S k i os=some (vals,osF)→gv S V w osF
 | 0,i,os,osF,vals,hn,h=>by cases h
 | k+1,i,os,osF,vals,hn,h=>by
   unfold lO at h;split at h
   ·cases h;exact hn
   ·split at h
    ·rename_i cs hq;split at h
     ·rename_i cs' os1 h1;split at h
      ·rename_i h2;cases h;exact lf n k (i+1) (td n cs hn h1) h2
      ·cases h
     ·cases h
    ·cases h
   ·split at h
    ·split at h
     ·rename_i h2;cases h;exact lf n k (i+1) hn h2
     ·cases h
    ·cases h
   ·split at h
    ·split at h
     ·cases h
     ·split at h
      ·rename_i h2;cases h;exact lf n k (i+1) hn h2
      ·cases h
    ·cases h
end
end Go.Proofs.YtmapddgocpkgeaaGreat.aa
namespace Go.Proofs.YtmapddgocpkgeaaGreat.aa
open Go.RowKit
set_option linter.unusedVariables false
set_option linter.unusedSimpArgs false
variable {P:Program} {C:Ctx}
def kR (C:Ctx) (n:Nat) (os:List Obj) (V:Nat→Value) (w:World) (args:Array Value) (t:Nat):Value:=
 if t<n then args.getD t undef else match os[t-n]? with
  | some o=>jz C V w o
  | none=>undef
theorem xe {n:Nat} {os:List Obj} {V:Nat→Value} {w:World} {args:Array Value} {t:Nat} (h:t<n):kR C n os V w args t=args.getD t undef:=by unfold kR;rw[if_pos h]
theorem mN {n:Nat} {os:List Obj} {V:Nat→Value} {w:World} {args:Array Value} {j:Nat} {o:Obj} (h:os[j]? =some o):kR C n os V w args (n+j)=jz C V w o:=by
 unfold kR;rw[if_neg (by omega),show n+j-n=j by omega,h]
theorem vI {n:Nat} {us vals:List C.PV} (h:us.length≤n) (j:Nat):(start C n us vals)[n+j]? =vals[j]? :=by
 unfold start;rw[List.getElem?_append_right (by simp;omega)];simp only[List.length_append,List.length_replicate];rw[show n+j-(us.length+(n-us.length))=j by omega]
theorem yJ {n:Nat} {us vals:List C.PV} {t:Nat} (ht:t<n) {v:C.PV} (h:(start C n us vals)[t]? =some v):us[t]? =some v∨v= .undef:=by
 unfold start at h;rw[List.getElem?_append_left (by simp;omega)]at h
 by_cases hu:t<us.length
 ·rw[List.getElem?_append_left hu]at h;exact .inl h
 ·rw[List.getElem?_append_right (by omega),List.getElem?_replicate]at h;split at h
  ·cases h;exact .inr rfl
  ·cases h
theorem oV:∀{rs:List ao},AP rs=true→rs.Nodup
 | [],_=>List.nodup_nil
 | q::qs,h=>by
   simp only[AP,Bool.and_eq_true,Bool.not_eq_true',List.any_eq_false,decide_eq_true_eq]at h;exact List.nodup_cons.2 ⟨fun hm=>h.1 q hm rfl,oV h.2⟩
theorem wM {α:Type} (f:α→List ao):∀(vs:List α),(vs.flatMap f).Nodup→∀(i i':Nat) (p p':α) (q:ao),vs[i]? =some p→vs[i']? =some p'→q∈f p→q∈f p'→i=i'∧(f p).Nodup
 | [],_,i,i',p,p',q,h,_,_,_=>by simp at h
 | v::vs,hl,i,i',p,p',q,h,h',hq,hq'=>by
   rw[List.flatMap_cons,List.nodup_append]at hl;obtain⟨hd1,hd2,hd3⟩:=hl;have inTail:∀{i:Nat} {p:α},vs[i]? =some p→q∈f p→q∈vs.flatMap f:=fun h hq=>List.mem_flatMap.2 ⟨_,List.mem_of_getElem? h,hq⟩;cases i with
   | zero=>
     cases h;cases i' with
     | zero=>exact⟨rfl,hd1⟩
     | succ i'=>exact absurd rfl (hd3 q hq q (inTail h' hq'))
   | succ i=>
     cases i' with
     | zero=>cases h';exact absurd rfl (hd3 q hq' q (inTail h hq))
     | succ i'=>
       obtain⟨e,hn⟩:=wM f vs hd2 i i' p p' q h h' hq hq';exact⟨by rw[e],hn⟩
theorem ka {n:Nat} {os:List Obj} {r q:ao} (h:iF n os r q) (ha:os.all (Obj.apart (.row q))=true):False:=by
 obtain⟨j,o,h1,h2,h3⟩:=h;have:=iQ (List.all_eq_true.1 ha o (List.mem_of_getElem? h2));cases o with
 | box t=>exact this.2.1 t rfl (by simp only at h3;rw[h3];rfl)
 | row r=>exact this.2.2 h3.2
 | nest r e i off=>exact this.2.2 h3.2
section
variable {B:fK} {S:St C} {V:Nat→Value} {w:World} {N:Nat→Prop} {bs:ao→Nat→Prop}
theorem kj.Eh (G:Good P C) {Bo:Nat→Prop} {e:TypeId} {xs:List (C.U.T e)} {c:Value} (h:kj C w Bo e xs c) (hd:gp C e=false) (N:Nat→Prop):fk C w N Bo true e xs c:=by
 rcases h with h | ⟨b,cap,cur,hc,hb,hh,h1,h2,h3,h4⟩
 ·exact .inl h
 ·refine .inr ⟨b,cap,cur,fun _=>none,hc,hb,rfl,hh,h1,h2,h3,fun j x hx i v hi=> ?_⟩;obtain⟨u,hu,him⟩:=h4 j x hx i v hi;refine⟨u,hu,?_⟩;have hn:=G.jg e hd x v (List.mem_of_getElem? hi);have him:=him.mono (N':=N) (fun _ _=>rfl) (fun _ h=>h.elim);cases v with
  | sl f ys=>exact absurd rfl (hn f ys)
  | _=>exact him
theorem qD (h:Rel C B S V w N bs) {r:ao} {e:TypeId} {i:Int} {off:Nat} {os:List Obj} (hn:gv S V w os) (hm:Obj.nest r e i off∈os) {f:TypeId} {ys:List (C.U.T f)} (hr:fX C S (.kB r e i off)=some (.sl f ys)):
 ∃b k cap c xs cur,∃lab:Nat→Option (Nat×Nat),look S r= .own true e xs∧jf V w r=some (.slice (some ⟨b,0,none⟩) k cap)∧k=xs.length∧(0≤i∧i.toNat<k∧off<C.sz e)∧w.cell? ⟨b,i.toNat*C.sz e+off,none⟩=some c∧jz C V w (.nest r e i off)=c∧
  bs r b∧lab b=none∧w.heap[b]? =some (.cells cur e (0,0))∧xs.length≤cap∧cap≤maxLen∧cur.size=cap*C.sz e∧
  (∀j x,xs[j]? =some x→∀i v,(leaves (C.enc e x))[i]? =some v→∃u,cur[j*C.sz e+i]? =some u∧nI C w N (fun b'=>bs r b'∧lab b'=some (j,i)) true v u)∧
  (leaves (elemAt C e xs i))[off]? =some (.sl f ys)∧cur[i.toNat*C.sz e+off]? =some c∧kj C w (fun b'=>bs r b'∧lab b'=some (i.toNat,off)) f ys c:=by
 obtain⟨b,k,cap,c,⟨hrow,hconc⟩,hi,hcell⟩:=hn r e i off hm;obtain⟨c',hc',hrep⟩:=eH.look h r (cc hrow);rw[hconc]at hc';cases hc';simp only[fX]at hr;split at hr
 ·rename_i e' xs hl;split at hr
  ·rename_i he;subst he;split at hr
   ·rename_i f' ys' hg;cases hr;rw[hl]at hrep;obtain⟨cur,lab,hk,hb,hlb,hh,h1,h2,h3,h4⟩:=fk.slot hrep;have hlt:i.toNat<xs.length:=hk▸hi.2.1;have hx:xs[i.toNat]? =some (xs[i.toNat]'hlt):=List.getElem?_eq_getElem hlt
    have he:elemAt C e' xs i=C.enc e' (xs[i.toNat]'hlt):=by
     unfold elemAt;rw[List.getD_eq_getElem?_getD,hx];rfl
    have hg':(leaves (elemAt C e' xs i))[off]? =some (.sl f ys):=iz hg (by simp);obtain⟨u,hu,hin⟩:=h4 _ _ hx off _ (by rw[←he];exact hg')
    have hcu:c=u:=by
     simp only[World.cell?,hh,hu]at hcell
     simpa using hcell.symm
    subst hcu;exact⟨b,k,cap,c,xs,cur,lab,hl,hconc,hk,hi,hcell,by simp only[jz,hconc,hcell,Option.getD_some],hb,hlb,hh,h1,h2,h3,h4,hg',hu,hin⟩
   ·cases hr
  ·cases hr
 ·cases hr
theorem Bc (G:Good P C) (h:Rel C B S V w N bs) {n:Nat} {m:Mode} {vs:List (Option Nat×C.PV)} {us vals:List C.PV} {os0 os:List Obj} {args:Array Value}
 (hall:∀(i:Nat) (p:Option Nat×C.PV),vs[i]? =some p→∃c Bo,args[i]? =some c∧aR C (bL C S V w) (cL C S V) w N Bo p.2 c∧(∀x b,Bo x b→∃q,p.1=some q∧bs (q,x) b)∧(∀q,p.1=some q→get S q=p.2∧V q=c))
 (ha:ow C n m S [] vs=some (us,os0)) (ho:lO C n S 64 0 os0=some (vals,os)) (hlen:us.length≤n) (hap:iW m os (vs.flatMap fun p=>aZ C p.1 p.2)=true):
 Rel C ⟨w,fun b=>∃r,jB C n m vs os V w bs r b,kJ C m S N bs (vs.flatMap fun p=>aZ C p.1 p.2)⟩ (start C n us vals) (kR C n os V w args) w (kJ C m S N bs (vs.flatMap fun p=>aZ C p.1 p.2)) (jB C n m vs os V w bs)∧
  vals.length=os.length∧gv S V w os∧∀(j:Nat) (o:Obj),os[j]? =some o→∃v,vals[j]? =some v∧rI n os S o v:=by
 have hnests:gv S V w os:=by
  refine lf n 64 0 (rG (N:=N) vs (fun p hp=> ?_) (fun _ _ _ _ h=>by simp at h) ha) ho;obtain⟨i,hi⟩:=List.getElem?_of_mem hp;obtain⟨c,Bo,_,hr,_⟩:=hall i p hi;exact⟨c,Bo,hr⟩
 obtain⟨e1,l1,g1⟩:=tc n S 64 0 ho (Nat.zero_le _);have hvals:∀(j:Nat) (o:Obj),os[j]? =some o→∃v,vals[j]? =some v∧rI n os S o v:=fun j o hj=>g1 j o (Nat.zero_le _) hj
 obtain⟨_,lu,gu⟩:=nA h (n:=n) (m:=m) (N0:=kJ C m S N bs (vs.flatMap fun p=>aZ C p.1 p.2)) vs args.toList (fun i p hp=>by
  obtain⟨c,Bo,h1,h2,h3,h4⟩:=hall i p hp;refine⟨c,Bo,by simpa using h1,h2,h3,h4,fun b hb=>hb.imp id (fun⟨k1,r,k2,k3⟩=>⟨k1,r,List.mem_flatMap.2 ⟨p,List.mem_of_getElem? hp,k2⟩,k3⟩)⟩) ha
 refine⟨?_,by simpa using l1,hnests,hvals⟩;simp only[iW,Bool.and_eq_true]at hap;obtain⟨hpairs,hmode⟩:=hap
 have hA:∀q c,sU C n os V w q c→bL C (start C n us vals) (kR C n os V w args) w q c:=fun q c ⟨j,o,hq,hj,hro,hc⟩=>by
  subst hq;obtain⟨v,hv,his⟩:=hvals j o hj;refine⟨?_,by unfold jf;simp only[walk];rw[mN hj,hc]⟩;unfold look;rw[get_some ((vI hlen j).trans hv)];cases o with
  | box q=>cases hro
  | row r=>obtain⟨dp,e,xs,_,rfl⟩:=his;rfl
  | nest r e i off=>obtain⟨f,ys,_,_,rfl⟩:=his;rfl
 have hX:∀t b,sM C n os S V t b→cL C (start C n us vals) (kR C n os V w args) t b:=fun t b ⟨j,q,ht,hj,⟨_,hVq⟩⟩=>by
  subst ht;obtain⟨v,hv,cs,cs',_,rfl,_⟩:=hvals j _ hj;exact⟨⟨cs',get_some ((vI hlen j).trans hv)⟩,by rw[mN hj];exact hVq⟩
 have hread:∀q q' r b,m= .read→iF n os r q→bs q b→q'∈vs.flatMap (fun p=>aZ C p.1 p.2)→bs q' b→False:=fun q q' r b hm hfr hb hq' hb'=>by
  have:=h.km q q' b hb hb';subst this;rw[hm]at hmode;exact ka hfr (List.all_eq_true.1 hmode q hq')
 refine⟨fun t v hv=> ?_,fun r r' b hb hb'=> ?_,fun r b hb=> ?_,fun b hb=> ?_,⟨rfl,rfl,rfl,Nat.le_refl _,fun _ _ _=>rfl⟩⟩
 ·by_cases ht:t<n
  ·rcases yJ ht hv with hu | rfl
   ·obtain⟨p,c,k1,k2,k3⟩:=gu os e1 t v hu
    have hc:kR C n os V w args t=c:=by
     rw[xe ht,Array.getD_eq_getD_getElem?];have:args[t]? =some c:=by simpa using k2
     rw[this];rfl
    rw[hc];have hbb:∀x b,(m= .take∧∃q,q∈gd C p.1 p.2 x∧bs q b)→jB C n m vs os V w bs (t,x) b:=fun x b ⟨hm,q,hq,hb⟩=> .inr ⟨ht,hm,p,q,k1,hq,hb⟩;exact k3.move (fun x u c' _ hr=>hr.move hA hX (fun _ _=>rfl) (fun _ _ _ _ _ _=>rfl) (fun _ h=>h) (hbb x)) (fun b _ hb=>⟨hbb [] b hb,rfl⟩)
   ·trivial
  ·obtain⟨j,rfl⟩:∃j,t=n+j:=⟨t-n,by omega⟩;rw[vI hlen]at hv
   have hj:j<os.length:=by
    have:=(List.getElem?_eq_some_iff.1 hv).1;omega
   obtain⟨o,hoj⟩:∃o,os[j]? =some o:=⟨_,List.getElem?_eq_getElem hj⟩;obtain⟨v',hv',his⟩:=hvals j o hoj;rw[hv]at hv';cases hv';rw[mN hoj]
   have hown:∀p q b,(match o with | .box t=>q=(t,p) | o=>p=[]∧q=o.root)→bs q b→(∀q' e i off,o= .nest q' e i off→∃k cap,jz C V w o= .slice (some ⟨b,0,none⟩) k cap)→jB C n m vs os V w bs (n+j,p) b:=fun p q b hq hb hh=>
    .inl ⟨⟨q,⟨j,o,rfl,hoj,hq⟩,hb⟩,fun j' q' e i off hj' ho'=>by
     have:j'=j:=by simp only at hj';omega
     subst this;rw[hoj]at ho';cases ho';exact hh q' e i off rfl⟩
   cases o with
   | box q=>
     obtain⟨cs,cs',hq,rfl,hm1,hm2⟩:=his;have hrep:=h.fo q _ (iz hq (by simp));obtain⟨b,vals',ty,hVq,hb,hheap,hsz,hag⟩:=hrep;refine⟨b,vals',ty,hVq,hown [] (q,[]) b rfl hb (fun _ _ _ _ e=>by cases e),hheap,by rw[hm1];exact hsz,fun k x hx=> ?_⟩;rcases hm2 k x hx with⟨q',off,j',k1,rfl,k3⟩ | ⟨k1,k2⟩
     ·obtain⟨u,hu,b',hb',hcu⟩:=hag k _ k1;exact⟨u,hu,b',hX _ _ ⟨j',q',rfl,k3,hb'⟩,hcu⟩
     ·obtain⟨u,hu,hr⟩:=hag k _ k1;refine⟨u,hu,?_⟩;have hbb:∀b,bs (q,[k]) b→jB C n m vs os V w bs (n+j,[k]) b:=fun b hb=>hown [k] (q,[k]) b rfl hb (fun _ _ _ _ e=>by cases e)
      cases x<;>first
       | exact fk.move (w':=w) hr (fun _ _=>rfl) (fun b hb=> .inl hb) hbb
       | exact gC.mono hr (fun _ _=>rfl) (fun b hb=> .inl hb)
       | exact hr
       | simp[wO]at k2
   | row r=>
     obtain⟨dp,e,xs,hl,rfl⟩:=his;obtain⟨c,hc,hrep⟩:=eH.look h r (cc (ik hl));rw[hl]at hrep;have:jz C V w (.row r)=c:=by simp only[jz,hc,Option.getD_some]
     rw[this];exact fk.move (w':=w) hrep (fun _ _=>rfl) (fun b hb=> .inl hb) (fun b hb=>hown [] r b ⟨rfl,rfl⟩ hb (fun _ _ _ _ e=>by cases e))
   | nest r e i off=>
     obtain⟨f,ys,hr,hd,rfl⟩:=his;obtain⟨b,k,cap,c,xs,cur,lab,_,_,_,_,_,hval,_,_,_,_,_,_,_,_,_,hflat⟩:=qD h hnests (List.mem_of_getElem? hoj) hr;rw[hval];rcases hflat with⟨rfl,rfl⟩ | ⟨b',cap',cur',rfl,hb',hh',h1,h2,h3,h4⟩
     ·exact fk.nil _ _ _ _ _
     ·have hfl:kj C w (jB C n m vs os V w bs (n+j,[])) f ys (.slice (some ⟨b',0,none⟩) ys.length cap'):=
       .inr ⟨b',cap',cur',rfl,hown [] r b' ⟨rfl,rfl⟩ hb'.1 (fun _ _ _ _ _=>⟨_,_,hval⟩),hh',h1,h2,h3,h4⟩
      exact kj.Eh G hfl hd _
 ·rcases hb with⟨⟨q,hq,hqb⟩,_⟩ | ⟨ht,hm,p,q,k1,k2,k3⟩
  ·rcases hb' with⟨⟨q',hq',hqb'⟩,_⟩ | ⟨ht',hm',p',q',k1',k2',k3'⟩
   ·have:=h.km q q' b hqb hqb';subst this;exact rK hpairs hq hq'
   ·have:=h.km q q' b hqb k3';subst this;rw[hm']at hmode;simp only[Bool.and_eq_true]at hmode;exact(ka hq (List.all_eq_true.1 hmode.2 q (List.mem_flatMap.2 ⟨p',List.mem_of_getElem? k1',kD k2'⟩))).elim
  ·rcases hb' with⟨⟨q',hq',hqb'⟩,_⟩ | ⟨ht',hm',p',q',k1',k2',k3'⟩
   ·have:=h.km q q' b k3 hqb';subst this;rw[hm]at hmode;simp only[Bool.and_eq_true]at hmode;exact(ka hq' (List.all_eq_true.1 hmode.2 q (List.mem_flatMap.2 ⟨p,List.mem_of_getElem? k1,kD k2⟩))).elim
   ·rw[hm]at hmode;simp only[Bool.and_eq_true]at hmode;have:=h.km q q' b k3 k3';subst this;obtain⟨e,hnd⟩:=wM (fun p:Option Nat×C.PV=>aZ C p.1 p.2) vs (oV hmode.1) r.1 r'.1 p p' q k1 k1' (kD k2) (kD k2');rw[e]at k1;rw[k1]at k1';cases k1';exact Prod.ext e (zf hnd k2 k2')
 ·have hq:∃q,bs q b∧∀q',m= .read→q'∈vs.flatMap (fun p=>aZ C p.1 p.2)→bs q' b→False:=by
   rcases hb with⟨⟨q,hq,hqb⟩,_⟩ | ⟨ht,hm,p,q,k1,k2,k3⟩
   ·exact⟨q,hqb,fun q' hm hq' hb'=>hread q q' r b hm hq hqb hq' hb'⟩
   ·exact⟨q,k3,fun q' hm' _ _=>by rw[hm]at hm';cases hm'⟩
  obtain⟨q,hqb,hno⟩:=hq;obtain⟨o1,o2,o3⟩:=h.own q b hqb;refine⟨fun hn=> ?_,o2,.inl ⟨r,hb⟩⟩;rcases hn with hn | ⟨hm,q',hq',_,hb'⟩
  ·exact o1 hn
  ·exact hno q' hm hq' hb'
 ·refine⟨?_,.inl hb⟩;rcases hb with hb | ⟨_,q',_,_,hb'⟩
  ·exact(h.kd b hb).1
  ·exact(h.own q' b hb').2.1
end
end Go.Proofs.YtmapddgocpkgeaaGreat.aa
namespace Go.Proofs.YtmapddgocpkgeaaGreat.aa
open Go.RowKit
set_option linter.unusedVariables false
set_option linter.unusedSimpArgs false
variable {P:Program} {C:Ctx}
def mq (o:Obj) (q:ao):Prop:=match o with
 | .box t=>q.1=t
 | o=>q=o.root
def jT {U:gm} (S:List (PV U)) (os:List Obj):Prop:=∀o,o∈os→ja o=true→fN S o.root
theorem BZ {U:gm} {S:List (PV U)} {q:ao} {d:Nat} {v:PV U} (h:fN S q) (hne:q.1≠d):fN (S.set d v) q:=by
 obtain⟨s,hs,ho⟩:=h;exact⟨s,by rw[List.getElem?_set_ne (Ne.symm hne)];exact hs,ho⟩
theorem sf {U:gm} {S:List (PV U)} {o:Obj} {v:PV U} (ho:ja o=true→fN S o.root) (hv:ja o=true→aQ v=true) {q:ao} (hq:fN S q) (hb:∀t,o= .box t→q.1≠t):fN (hP S o v) q:=by
 cases o with
 | box t=>exact BZ hq (hb t rfl)
 | row r=>exact fN.put v (hv rfl) (ho rfl) hq
 | nest r e i off=>exact fN.put v (hv rfl) (ho rfl) hq
theorem zy {U:gm} {S:List (PV U)} {o:Obj} {v:PV U} (ho:ja o=true→fN S o.root) {q:ao} (hq:fN S q) (hc:¬mq o q):look (hP S o v) q=look S q:=by
 cases o with
 | box t=>exact kI _ _ _ _ hc
 | row r=>exact jN v (ho rfl) hq hc
 | nest r e i off=>exact jN v (ho rfl) hq hc
theorem xq {o o':Obj} (h:Obj.apart o o'=true) (hr:ja o'=true):¬mq o o'.root∧∀t,o= .box t→o'.root.1≠t:=by
 obtain⟨h1,h2,h3⟩:=iQ h;refine⟨?_,h1⟩;cases o with
 | box t=>exact h1 t rfl
 | row r=>exact fun e=>h3 (by rw[show o'.root=r from e];rfl)
 | nest r e i off=>exact fun e'=>h3 (by rw[show o'.root=r from e'];rfl)
theorem jT.tail {U:gm} {S:List (PV U)} {o:Obj} {os:List Obj} {v:PV U} (h:jT S (o::os)) (hp:dC (o::os)=true) (hv:ja o=true→aQ v=true):jT (hP S o v) os:=fun o' ho' hr=>by
 simp only[dC,Bool.and_eq_true]at hp;exact sf (h o (by simp)) hv (h o' (by simp[ho']) hr) (xq (List.all_eq_true.1 hp.1 o' ho') hr).2
def jS {U:gm} (os:List Obj) (vs:List (PV U)):Prop:=∀(i:Nat) (o:Obj) (v:PV U),os[i]? =some o→vs[i]? =some v→ja o=true→aQ v=true
theorem jS.tail {U:gm} {o:Obj} {os:List Obj} {v:PV U} {vs:List (PV U)} (h:jS (o::os) (v::vs)):jS os vs:=fun i o' v' h1 h2=>h (i+1) o' v' h1 h2
theorem lT {U:gm}:∀(os:List Obj) (vs:List (PV U)) {S:List (PV U)} {q:ao},dC os=true→jT S os→jS os vs→fN S q→(∀o,o∈os→¬mq o q)→look (fZ S os vs) q=look S q∧fN (fZ S os vs) q
 | [],vs,S,q,_,_,_,hq,_=>by cases vs<;>exact⟨rfl,hq⟩
 | o::os,[],S,q,_,_,_,hq,_=>⟨rfl,hq⟩
 | o::os,v::vs,S,q,hp,hr,hv,hq,hc=>by
   have hp':dC os=true:=by simp only[dC,Bool.and_eq_true]at hp;exact hp.2
   have hv0:=hv 0 o v rfl rfl;have hco:=hc o (by simp);have hq1:fN (hP S o v) q:=sf (hr o (by simp)) hv0 hq (fun t ht=>by subst ht;exact hco);obtain⟨h1,h2⟩:=lT os vs hp' (hr.tail hp hv0) hv.tail hq1 (fun o' ho'=>hc o' (by simp[ho']));exact⟨by show look (fZ (hP S o v) os vs) q=_;rw[h1,zy (hr o (by simp)) hq hco],h2⟩
theorem r9 {U:gm}:∀(os:List Obj) (vs:List (PV U)) {S:List (PV U)},dC os=true→jT S os→jS os vs→∀(i:Nat) (o:Obj) (v:PV U),os[i]? =some o→vs[i]? =some v→ja o=true→look (fZ S os vs) o.root=v∧fN (fZ S os vs) o.root
 | [],vs,S,_,_,_,i,o,v,h,_,_=>by simp at h
 | o0::os,[],S,_,_,_,i,o,v,_,h,_=>by simp at h
 | o0::os,v0::vs,S,hp,hr,hv,i,o,v,ho,hvi,hro=>by
   have hpp:=hp;simp only[dC,Bool.and_eq_true]at hpp;have hv0:=hv 0 o0 v0 rfl rfl;cases i with
   | succ i=>exact r9 os vs hpp.2 (hr.tail hp hv0) hv.tail i o v ho hvi hro
   | zero=>
     cases ho;cases hvi;have hok:=hr o0 (by simp) hro
     have h1:look (hP S o0 v0) o0.root=v0:=by
      cases o0 with
      | box t=>cases hro
      | row r=>exact fr S r v0 hok
      | nest r e i off=>exact fr S r v0 hok
     have h2:fN (hP S o0 v0) o0.root:=sf (hr o0 (by simp)) hv0 hok (fun t ht=>by subst ht;cases hro)
     obtain⟨h3,h4⟩:=lT os vs (S:=hP S o0 v0) hpp.2 (hr.tail hp hv0) hv.tail h2 (fun o' ho' hc=>by
      have:=iQ (List.all_eq_true.1 hpp.1 o' ho');cases o' with
      | box t=>exact this.2.1 t rfl hc
      | row r=>exact this.2.2 hc
      | nest r e i off=>exact this.2.2 hc)
     exact⟨h3.trans h1,h4⟩
def gP {U:gm} (S:List (PV U)) (t:Nat):Prop:=∃ls,get S t= .box ls
theorem tL {U:gm} {S:List (PV U)} {q:ao} (v:PV U) {t:Nat} (h:gP S t) (ho:fN S q):gP (put S q v) t:=by
 obtain⟨ls,hg⟩:=h;unfold gP put;rw[fj];split
 ·rename_i e;obtain⟨s,hs,hok⟩:=ho;rw[get_some hs];refine wY v q.2 s hok ls ?_;have:=get_some hs;rw[e.1,hg]at this;exact this.symm
 ·exact⟨ls,hg⟩
theorem qg {U:gm}:∀(os:List Obj) (vs:List (PV U)) {S:List (PV U)} {t:Nat},dC os=true→jT S os→jS os vs→t<S.length→os.length=vs.length→(∀(i:Nat) (v:PV U),os[i]? =some (.box t)→vs[i]? =some v→∃ls,v= .box ls)→(gP S t∨ .box t∈os)→gP (fZ S os vs) t
 | [],vs,S,t,_,_,_,_,_,_,h=>by
   have:gP S t:=h.resolve_right (by simp);cases vs<;>exact this
 | o::os,[],S,t,_,_,_,_,hl,_,_=>by simp at hl
 | o::os,v::vs,S,t,hp,hr,hv,hlt,hl,hb,h=>by
   have hpp:=hp;simp only[dC,Bool.and_eq_true]at hpp;have hv0:=hv 0 o v rfl rfl;have hlen:(hP S o v).length=S.length:=by cases o<;>simp[hP,put]
   refine qg os vs (S:=hP S o v) hpp.2 (hr.tail hp hv0) hv.tail (by rw[hlen];exact hlt) (by simpa using hl) (fun i v' h1 h2=>hb (i+1) v' h1 h2) ?_;cases o with
   | box t'=>
     by_cases e:t'=t
     ·subst e;obtain⟨ls,rfl⟩:=hb 0 v rfl rfl;exact .inl ⟨ls,by show get (S.set t' _) t'=_;rw[fj,if_pos ⟨rfl,hlt⟩]⟩
     ·rcases h with⟨ls,hg⟩ | h
      ·exact .inl ⟨ls,by show get (S.set t' _) t=_;rw[fj,if_neg (fun h=>e h.1)];exact hg⟩
      ·exact .inr (by
        rcases List.mem_cons.1 h with h | h
        ·cases h;exact absurd rfl e
        ·exact h)
   | row r=>
     rcases h with h | h
     ·exact .inl (tL v h (hr (.row r) (by simp) rfl))
     ·exact .inr (by simpa using h)
   | nest r e i off=>
     rcases h with h | h
     ·exact .inl (tL v h (hr (.nest r e i off) (by simp) rfl))
     ·exact .inr (by simpa using h)
theorem qV {U:gm}:∀(os:List Obj) (k:Nat) {S:List (PV U)} {q:ao},dC os=true→jT S os→os.length≤k→isRow (look (fZ S os (List.replicate k .undef)) q)=true→
 look S q=look (fZ S os (List.replicate k .undef)) q∧∀o,o∈os→¬mq o q
 | [],k,S,q,_,_,_,h=>by
   have e:fZ S [] (List.replicate k (.undef:PV U))=S:=by cases k<;>rfl
   rw[e];exact⟨rfl,fun o ho=>by simp at ho⟩
 | o::os,0,S,q,_,_,hl,h=>by simp at hl
 | o::os,k+1,S,q,hp,hr,hl,h=>by
   have hpp:=hp;simp only[dC,Bool.and_eq_true]at hpp;have ee:fZ S (o::os) (List.replicate (k+1) (.undef:PV U))=fZ (hP S o .undef) os (List.replicate k .undef):=rfl;rw[ee]at h⊢;have hr':=hr.tail (v:= .undef) hp (fun _=>rfl);obtain⟨h1,h2⟩:=qV os k hpp.2 hr' (by simpa using hl) h;rw[←h1]at h⊢
   have hco:¬mq o q:=fun hc=>by
    cases o with
    | box t=>
      have hc:q.1=t:=hc
      have:look (S.set t .undef) q= .undef:=by
       unfold look;rw[hc,fj];split
       ·exact gf _
       ·rename_i hlt;unfold get;rw[List.getD_eq_getElem?_getD,List.getElem?_eq_none (by omega)];exact gf _
      rw[show hP S (.box t) (.undef:PV U)=S.set t .undef from rfl,this]at h;cases h
    | row r=>
      have hc:q=r:=hc;subst hc;rw[show hP S (.row q) (.undef:PV U)=put S q .undef from rfl,fr S q _ (hr (.row q) (by simp) rfl)]at h;cases h
    | nest r e i off=>
      have hc:q=r:=hc;subst hc;rw[show hP S (.nest q e i off) (.undef:PV U)=put S q .undef from rfl,fr S q _ (hr (.nest q e i off) (by simp) rfl)]at h;cases h
   refine⟨?_,fun o' ho'=> ?_⟩
   ·cases o with
    | box t=>exact(kI _ _ _ _ hco).symm
    | row r=>exact me S r q .undef (hr (.row r) (by simp) rfl) h hco
    | nest r e i off=>exact me S r q .undef (hr (.nest r e i off) (by simp) rfl) h hco
   ·rcases List.mem_cons.1 ho' with rfl | ho'
    ·exact hco
    ·exact h2 o' ho'
theorem u4 {U:gm} {v:PV U} {p:List Nat} {s:PV U} {ls:List (PV U)} (hv:∀ls,v≠ .box ls) (h:gN v p s= .box ls):∃ls',s= .box ls':=by
 cases p with
 | nil=>exact absurd h (hv ls)
 | cons i p=>
   cases s<;>first | exact⟨_,rfl⟩ | (simp[gN]at h)
theorem qG {U:gm}:∀(os:List Obj) (k:Nat) {S:List (PV U)} {t:Nat} {ls:List (PV U)},dC os=true→jT S os→os.length≤k→get (fZ S os (List.replicate k .undef)) t= .box ls→gP S t∧ .box t ∉ os∧∀o,o∈os→ja o=true→o.root≠(t,[])
 | [],k,S,t,ls,_,_,_,h=>by
   have e:fZ S [] (List.replicate k (.undef:PV U))=S:=by cases k<;>rfl
   rw[e]at h;exact⟨⟨ls,h⟩,by simp,fun o ho=>by simp at ho⟩
 | o::os,0,S,t,ls,_,_,hl,h=>by simp at hl
 | o::os,k+1,S,t,ls,hp,hr,hl,h=>by
   have hpp:=hp;simp only[dC,Bool.and_eq_true]at hpp;have e:fZ S (o::os) (List.replicate (k+1) (.undef:PV U))=fZ (hP S o .undef) os (List.replicate k .undef):=rfl;rw[e]at h;obtain⟨⟨ls1,h1⟩,h2,h3⟩:=qG os k hpp.2 (hr.tail (v:= .undef) hp (fun _=>rfl)) (by simpa using hl) h
   have row:∀r:ao,get (put S r .undef) t= .box ls1→gP S t∧r≠(t,[]):=fun r h1=>by
    unfold put at h1;rw[fj]at h1;split at h1
    ·rename_i e;obtain⟨ls',h'⟩:=u4 (fun _ h=>by cases h) h1;refine⟨⟨ls',by rw[←e.1];exact h'⟩,fun er=> ?_⟩;rw[er]at h1;cases h1
    ·rename_i e
     exact⟨⟨ls1,h1⟩,fun er=>e ⟨by rw[er],by
      rw[er];have:=iz h1 (by simp);exact(List.getElem?_eq_some_iff.1 this).1⟩⟩
   cases o with
   | box t'=>
     have h1:get (S.set t' .undef) t= .box ls1:=h1;rw[fj]at h1;split at h1
     ·cases h1
     ·rename_i e;refine⟨⟨ls1,h1⟩,fun hm=> ?_,fun o' ho' hro=> ?_⟩
      ·rcases List.mem_cons.1 hm with hm | hm
       ·cases hm
        exact e ⟨rfl,by
         have:=(List.getElem?_eq_some_iff.1 (iz h1 (by simp))).1
         simpa [hP]using this⟩
       ·exact h2 hm
      ·rcases List.mem_cons.1 ho' with rfl | ho'
       ·cases hro
       ·exact h3 o' ho' hro
   | row r=>
     obtain⟨k1,k2⟩:=row r h1;refine⟨k1,fun hm=>by rcases List.mem_cons.1 hm with hm | hm;cases hm;exact h2 hm,fun o' ho' hro=> ?_⟩;rcases List.mem_cons.1 ho' with rfl | ho'
     ·exact k2
     ·exact h3 o' ho' hro
   | nest r e i off=>
     obtain⟨k1,k2⟩:=row r h1;refine⟨k1,fun hm=>by rcases List.mem_cons.1 hm with hm | hm;cases hm;exact h2 hm,fun o' ho' hro=> ?_⟩;rcases List.mem_cons.1 ho' with rfl | ho'
     ·exact k2
     ·exact h3 o' ho' hro
theorem pz {U:gm}:∀(os:List Obj) (k:Nat) {S:List (PV U)} {t:Nat},get S t= .undef→(∀o,o∈os→ja o=true→o.root.1≠t)→get (fZ S os (List.replicate k .undef)) t= .undef
 | [],k,S,t,h,_=>by
   have e:fZ S [] (List.replicate k (.undef:PV U))=S:=by cases k<;>rfl
   rw[e];exact h
 | o::os,0,S,t,h,_=>h
 | o::os,k+1,S,t,h,hr=>by
   have ee:fZ S (o::os) (List.replicate (k+1) (.undef:PV U))=fZ (hP S o .undef) os (List.replicate k .undef):=rfl;rw[ee];refine pz os k ?_ (fun o' ho'=>hr o' (by simp[ho']));cases o with
   | box t'=>
     show get (S.set t' .undef) t=_;rw[fj];split
     ·rfl
     ·exact h
   | row r=>
     show get (S.set r.1 _) t=_;rw[fj,if_neg (fun e=>hr (.row r) (by simp) rfl e.1)];exact h
   | nest r e i off=>
     show get (S.set r.1 _) t=_;rw[fj,if_neg (fun e'=>hr (.nest r e i off) (by simp) rfl e'.1)];exact h
theorem qR {U:gm}:∀(os:List Obj) (k:Nat) {S:List (PV U)} {t:Nat},dC os=true→os.length≤k→ .box t∈os→get (fZ S os (List.replicate k .undef)) t= .undef
 | [],k,S,t,_,_,h=>by simp at h
 | o::os,0,S,t,_,hl,_=>by simp at hl
 | o::os,k+1,S,t,hp,hl,h=>by
   have ee:fZ S (o::os) (List.replicate (k+1) (.undef:PV U))=fZ (hP S o .undef) os (List.replicate k .undef):=rfl;rw[ee];simp only[dC,Bool.and_eq_true]at hp;rcases List.mem_cons.1 h with h | h
   ·subst h;refine pz os k ?_ (fun o' ho' _=>(iQ (List.all_eq_true.1 hp.1 o' ho')).1 t rfl);show get (S.set t .undef) t=_;rw[fj];split
    ·rfl
    ·rename_i hlt;unfold get;rw[List.getD_eq_getElem?_getD,List.getElem?_eq_none (by omega)];rfl
   ·exact qR os k hp.2 (by simpa using hl) h
theorem qf {A:ao→Value→Prop} {X:Nat→Nat→Prop} {B:fK} {V:Nat→Value} {w:World} {N:Nat→Prop} {bs:ao→Nat→Prop}:∀(os:List Obj) (vs:List C.PV) {S:St C},eH C A X B S V w N bs→dC os=true→jT S os→jS os vs→
 (∀(i:Nat) (t:Nat) (v:C.PV),os[i]? =some (.box t)→vs[i]? =some v→aR C A X w N (fun p=>bs (t,p)) v (V t))→(∀(i:Nat) (o:Obj) (v:C.PV),os[i]? =some o→vs[i]? =some v→ja o=true→∀c,jf V w o.root=some c→aJ C A X w N (bs o.root) v c)→
 eH C A X B (fZ S os vs) V w N bs
 | [],vs,S,h,_,_,_,_,_=>by cases vs<;>exact h
 | o::os,[],S,h,_,_,_,_,_=>h
 | o::os,v::vs,S,h,hp,hr,hv,hb,hl=>by
   have hpp:=hp;simp only[dC,Bool.and_eq_true]at hpp;have hv0:=hv 0 o v rfl rfl
   have h1:eH C A X B (hP S o v) V w N bs:=by
    cases o with
    | box t=>exact h.set t v (fun _ _=>rfl) (hb 0 t v rfl rfl)
    | row r=>exact h.put r v (hr (.row r) (by simp) rfl) (hl 0 (.row r) v rfl rfl rfl)
    | nest r e i off=>exact h.put r v (hr (.nest r e i off) (by simp) rfl) (hl 0 (.nest r e i off) v rfl rfl rfl)
   exact qf os vs h1 hpp.2 (hr.tail hp hv0) hv.tail (fun i t v' h2 h3=>hb (i+1) t v' h2 h3) (fun i o' v' h2 h3=>hl (i+1) o' v' h2 h3)
end Go.Proofs.YtmapddgocpkgeaaGreat.aa
namespace Go.Proofs.YtmapddgocpkgeaaGreat.aa
open Go.RowKit
set_option linter.unusedVariables false
set_option linter.unusedSimpArgs false
variable {P:Program} {C:Ctx}
theorem s7 (n:Nat) (os:List Obj):∀(cs cs':List C.PV),uz C n os cs=some cs'→cs'.length=cs.length∧∀(k:Nat) (x:C.PV),cs'[k]? =some x→(∃t o q,cs[k]? =some (.ptr t o)∧n≤t∧os[t-n]? =some (.box q)∧x= .ptr q o)∨(cs[k]? =some x∧wO x=true)
 | [],cs',h=>by cases h;exact⟨rfl,fun k x hx=>by simp at hx⟩
 | v::vs,cs',h=>by
   unfold uz at h;split at h
   ·rename_i v' hv;split at h
    ·rename_i vs' h';cases h;obtain⟨l1,g1⟩:=s7 n os vs vs' h';refine⟨by simp[l1],fun k x hx=> ?_⟩;cases k with
     | succ k=>exact g1 k x hx
     | zero=>
       cases hx;split at hv
       ·rename_i t o;split at hv
        ·rename_i q hq;cases hv;split at hq
         ·rename_i hnt;exact .inl ⟨t,o,q,rfl,hnt,hq,rfl⟩
         ·cases hq
        ·cases hv
       ·split at hv
        ·rename_i hi;cases hv;exact .inr ⟨rfl,hi⟩
        ·cases hv
    ·cases h
   ·cases h
theorem rp (n:Nat) (all:List Obj) (S:St C):∀(os:List Obj) (vs us:List C.PV),tO C n all S os vs=some us→us.length=os.length∧∀(i:Nat) (o:Obj),os[i]? =some o→∃v u,vs[i]? =some v∧us[i]? =some u∧mj C n all S o v=some u
 | [],[],us,h=>by cases h;exact⟨rfl,fun i o ho=>by simp at ho⟩
 | [],_::_,us,h=>by cases h
 | _::_,[],us,h=>by cases h
 | o::os,v::vs,us,h=>by
   unfold tO at h;split at h
   ·rename_i u hu;split at h
    ·rename_i us' h';cases h;obtain⟨l1,g1⟩:=rp n all S os vs us' h';refine⟨by simp[l1],fun i o' ho=> ?_⟩;cases i with
     | zero=>cases ho;exact⟨v,u,rfl,rfl,hu⟩
     | succ i=>exact g1 i o' ho
    ·cases h
   ·cases h
theorem rO {U:gm} (os:List Obj) (v:PV U) (h:stays v=true):gg os v=v:=by cases v<;>first | rfl | simp[stays]at h
theorem nK {U:gm} (os:List Obj) (v:PV U):aQ (gg os v)=aQ v:=by
 cases v<;>first | rfl | (simp only[gg];split<;>rfl)
theorem tv {n:Nat} {os:List Obj} {z q:ao} (h:iF n os z q):∃o,o∈os∧mq o q:=by
 obtain⟨j,o,h1,h2,h3⟩:=h;refine⟨o,List.mem_of_getElem? h2,?_⟩;cases o with
 | box t=>exact(by rw[h3]:q.1=t)
 | row r=>exact h3.2
 | nest r e i off=>exact h3.2
theorem xK {n:Nat} {os:List Obj} {z q q':ao} (h:iF n os z q) (h':iF n os z q'):q=q':=by
 obtain⟨j,o,h1,h2,h3⟩:=h;obtain⟨j',o',h1',h2',h3'⟩:=h';have:j=j':=by omega
 subst this;rw[h2]at h2';cases h2';cases o with
 | box t=>exact h3.trans h3'.symm
 | row r=>exact h3.2.trans h3'.2.symm
 | nest r e i off=>exact h3.2.trans h3'.2.symm
theorem mg {os:List Obj} {r:ao} (h:nj os r=false):∀t,.box t∈os→r.1≠t:=fun t ht e=>by
 have:nj os r=true:=List.any_eq_true.2 ⟨_,ht,by simp[e]⟩;rw[h]at this;cases this
theorem vu {os:List Obj} {r:ao} (h:uS os r=false): .row r ∉ os:=fun ht=>by
 have:uS os r=true:=List.any_eq_true.2 ⟨_,ht,by simp⟩;rw[h]at this;cases this
section
variable {B:fK} {S:St C} {V:Nat→Value} {w:World} {N:Nat→Prop} {bs:ao→Nat→Prop}
theorem CU {S:St C} (q:ao) {t:Nat} (h:gP S t):gP (xW S q) t:=by
 unfold xW;split
 ·rename_i dp e xs hl;exact tL _ h (cc (ik hl))
 ·exact h
theorem uN:∀(rs:List ao) {S:St C} {t:Nat},gP S t→gP (ij C S rs) t
 | [],S,t,h=>h
 | q::qs,S,t,h=>uN qs (CU q h)
theorem Ca (h:Rel C B S V w N bs) (q:ao) (hr:isRow (look S q)=true) {t:Nat} (hb:gP S t):gP (drop S q) t:=by
 have hf:∀v:C.PV,stays v=true→forget (fun r=>r==q) (fun _=>false) v=v:=fun v hv=>gO _ _ hv;obtain⟨ls,hg⟩:=hb;exact tL _ ⟨_,gX hf hg⟩ (eH.kF h hf (fun v=>l8 _ _ v) q (cc hr)).2
theorem sX:∀(rs:List ao) {S:St C},Rel C B S V w N bs→rs.Nodup→(∀q,q∈rs→isRow (look S q)=true)→∀{t:Nat},gP S t→gP (gr C S rs) t
 | [],_,_,_,_,_,hb=>hb
 | r::rs,S,h,hn,hrow,t,hb=>sX rs (h.drop r (hrow r (by simp))) (List.nodup_cons.1 hn).2 (fun q hq=>by
    rw[kb (hrow r (by simp)) (hrow q (List.mem_cons_of_mem _ hq)) (fun e=>(List.nodup_cons.1 hn).1 (by rw[←e];exact hq))];exact hrow q (List.mem_cons_of_mem _ hq)) (Ca h r (hrow r (by simp)) hb)
theorem zF {src:Option Nat} {v:C.PV} {c:Value} {Bo:List Nat→Nat→Prop} (hv:aR C (bL C S V w) (cL C S V) w N Bo v c) (hsrc:∀q,src=some q→get S q=v):∀q,q∈aZ C src v→isRow (look S q)=true:=by
 have one:∀(sr:Option ao) (x:C.PV) (u:Value) (Bx:Nat→Prop),aJ C (bL C S V w) (cL C S V) w N Bx x u→(∀q,sr=some q→look S q=x)→∀q,q∈bC C sr x→isRow (look S q)=true:=fun sr x u Bx hx hs q hq=>by
  cases x with
  | own dp e xs=>
    cases sr with
    | none=>simp[bC]at hq
    | some q'=>
      simp only[bC,List.mem_singleton]at hq;rw[hq,hs q' rfl];rfl
  | iV q'=>
    simp only[bC,List.mem_singleton]at hq;rw[hq];exact hx.1
  | kB q' e i off=>
    simp only[bC,List.mem_singleton]at hq;rw[hq];obtain⟨_,_,_,h1,_⟩:=hx;exact h1.1
  | _=>simp[bC]at hq
 intro q hq
 by_cases hl:aQ v=true
 ·have e:aZ C src v=bC C (src.map fun q=>(q,[])) v:=by cases v<;>first | rfl | simp[aQ]at hl
  rw[e]at hq;refine one _ v c (Bo []) (hv.k8 hl) (fun q' hq'=> ?_) q hq;cases src with
  | none=>cases hq'
  | some t=>cases hq';exact hsrc t rfl
 ·cases v with
  | agg ls=>
    obtain⟨k,x,hk,hq⟩:=j0 ls 0 hq;obtain⟨cs,_,_,hag⟩:=hv;obtain⟨u,_,hx⟩:=hag k x hk;refine one _ x u _ hx (fun q' hq'=> ?_) q hq;cases src with
    | none=>cases hq'
    | some t=>
      cases hq';unfold look;rw[hsrc t rfl,Nat.zero_add];simp only[bc];exact get_at hk
  | box ls=>simp[aZ,bC]at hq
  | gG vs=>simp[aZ,bC]at hq
  | _=>simp[aQ]at hl
theorem zS (h:Rel C B S V w N bs) {Q:bE C} {g:FuncId} {rs:List ao} {os:List Obj} {vs:List C.PV} {r:C.PV} (hroots:∀q,q∈rs→isRow (look S q)=true) (hap:iW (Q.mode g) os rs=true):
 ∃N1 bs1,Rel C B (oS C Q g rs vs r S) V w N1 bs1∧(∀q b,bs1 q b→bs q b)∧(∀b,N b→N1 b)∧(∀b,N1 b→N b∨(Q.mode g= .read∧∃q,q∈rs∧bs q b))∧
  ((Q.mode g= .read→(oD C r || vs.any (oD C))=true)→∀b,kJ C (Q.mode g) S N bs rs b→N1 b)∧(∀q dp e xs,look S q= .own dp e xs→(Q.mode g= .edit∨q ∉ rs)→look (oS C Q g rs vs r S) q= .own dp e xs)∧
  (∀q b,(Q.mode g= .edit∨q ∉ rs)→bs q b→bs1 q b)∧(Q.mode g= .take→∀q,q∈rs→look (oS C Q g rs vs r S) q= .undef)∧∀t,gP S t→gP (oS C Q g rs vs r S) t:=by
 unfold oS;split
 ·rename_i hm
  have hnd:rs.Nodup:=by
   simp only[iW,hm,Bool.and_eq_true]at hap;exact oV hap.2.1
  obtain⟨k1,k2,k3,k4⟩:=Rel.gr rs h hnd hroots;refine⟨N,bs,k1,fun _ _ h=>h,fun _ h=>h,fun _ h=> .inl h,fun _ b hb=>hb.elim id (fun hx=>by rw[hm]at hx;cases hx.1),fun q dp e xs hl hq=> ?_,fun _ _ _ h=>h,fun _ q hq=>(k2 q hq).1,fun t hb=> ?_⟩
  ·rw[k3 q (ik hl) (hq.resolve_left (by rw[hm];exact fun e=>by cases e)),hl]
  ·exact sX rs h hnd hroots hb
 ·rename_i hm;split
  ·rename_i hr;obtain⟨N1,bs1,k1,k2,k3,k4,k5,k6⟩:=Rel.ij rs h;refine⟨N1,bs1,k1,k4,k2,fun b hb=>(k6 b hb).imp id (fun hx=>⟨hr.1,hx⟩),fun _ b hb=>hb.elim (k2 b) (fun⟨_,q,hq,ho,hb⟩=>k3 q hq ho b hb),fun q dp e xs hl hq=>kT rs hl (hq.resolve_left (by rw[hr.1];exact fun e=>by cases e)),fun q b hq hb=>k5 q b (hq.resolve_left (by rw[hr.1];exact fun e=>by cases e)) hb,fun e=>absurd e hm,fun t hb=>uN rs hb⟩
  ·rename_i hr;refine⟨N,bs,h,fun _ _ h=>h,fun _ h=>h,fun _ h=> .inl h,fun hu b hb=>hb.elim id (fun hx=>absurd ⟨hx.1,hu hx.1⟩ hr),fun q dp e xs hl _=>hl,fun _ _ _ h=>h,fun e=>absurd e hm,fun _ h=>h⟩
theorem aJ.Cs (G:Good P C) {A:ao→Value→Prop} {X:Nat→Nat→Prop} {N N' Bo:Nat→Prop} {v:C.PV} {c:Value} (h:aJ C A X w N Bo v c) (hs:mu C v=false):aJ C A X w N' Bo v c:=by
 cases v with
 | sl e xs=>simp[mu]at hs
 | rd x o=>simp[mu]at hs
 | own dp e xs=>
   rcases h with h | ⟨b,cap,cur,lab,hc,hb,hl,hh,h1,h2,h3,h4⟩
   ·exact .inl h
   ·refine .inr ⟨b,cap,cur,lab,hc,hb,hl,hh,h1,h2,h3,fun j x hx i v hi=> ?_⟩;obtain⟨u,hu,hin⟩:=h4 j x hx i v hi;refine⟨u,hu,?_⟩
    have scal:∀{v:C.PV} {u:Value},(∀f ys,v≠ .sl f ys)→gC C w N v u→gC C w N' v u:=fun hv him=>by
     cases him with
     | int k n=>exact .int k n
     | bool b=>exact .bool b
     | str s=>exact .str s
     | nil e A c=>exact absurd rfl (hv _ _)
     | sl e xs b o c u hN hc hu hv'=>exact absurd rfl (hv _ _)
    cases dp with
    | true=>
      cases v with
      | sl f ys=>exact hin
      | _=>exact scal (fun _ _ e=>by cases e) hin
    | false=>
      have hd:gp C e=false:=by simpa [mu]using hs
      exact scal (G.jg e hd x v (List.mem_of_getElem? hi)) hin
 | undef=>trivial
 | void=>exact h
 | int k n=>exact h
 | bool b=>exact h
 | str s=>exact h
 | agg ls=>exact h
 | box ls=>exact h
 | gG ls=>exact h
 | iV q=>exact h
 | ptr t o=>exact h
 | nR q e i o=>exact h
 | vw q e i o=>exact h
 | kB q e i o=>exact h
 | fn f caps=>exact h
theorem fe.Cs (G:Good P C) {A:ao→Value→Prop} {X:Nat→Nat→Prop} {N N':Nat→Prop} {Bs:Nat→Nat→Prop} {ls:List C.PV} {cs:Array Value} (h:fe C A X w N Bs ls cs) (hs:ls.any (mu C)=false):fe C A X w N' Bs ls cs:=
 ⟨h.1,fun i v hi=>let⟨u,h1,h2⟩:=h.2 i v hi;⟨u,h1,h2.Cs G (by
  have:=List.any_eq_false.1 hs v (List.mem_of_getElem? hi)
  simpa using this)⟩⟩
theorem aR.Cs (G:Good P C) {A:ao→Value→Prop} {X:Nat→Nat→Prop} {N N':Nat→Prop} {bs:List Nat→Nat→Prop} {v:C.PV} {c:Value} (h:aR C A X w N bs v c) (hs:oD C v=false):aR C A X w N' bs v c:=by
 cases v with
 | agg ls=>obtain⟨cs,hc,ha⟩:=h;exact⟨cs,hc,ha.Cs G hs⟩
 | box ls=>obtain⟨b,cs,ty,hc,h0,hh,ha⟩:=h;exact⟨b,cs,ty,hc,h0,hh,ha.Cs G hs⟩
 | gG vs=>
   obtain⟨cs,hc,hsz,ha⟩:=h;refine⟨cs,hc,hsz,fun i v hi=> ?_⟩;obtain⟨u,h1,h2⟩:=ha i v hi;refine⟨u,h1,?_⟩
   have hv:(leaves v).any (mu C)=false:=by
    have:=List.any_eq_false.1 hs v (List.mem_of_getElem? hi)
    simpa using this
   cases v with
   | agg ls=>obtain⟨cs,hc,ha⟩:=h2;exact⟨cs,hc,ha.Cs G hv⟩
   | _=>exact ga.gJ (aJ.Cs (A:=A) (N:=N) G h2 (by simpa [leaves]using hv))
 | _=>exact aR.gJ (aJ.Cs (A:=A) (N:=N) G h hs)
end
end Go.Proofs.YtmapddgocpkgeaaGreat.aa
namespace Go.Proofs.YtmapddgocpkgeaaGreat.aa
open Go.RowKit
set_option linter.unusedVariables false
set_option linter.unusedSimpArgs false
variable {P:Program} {C:Ctx}
section
variable {B:fK} {S:St C} {V:Nat→Value} {w w':World} {N:Nat→Prop} {bs:ao→Nat→Prop}
theorem z8 (G:Good P C) {e:TypeId} {xs:List (C.U.T e)} {i:Int} {off:Nat} {f:TypeId} {ys:List (C.U.T f)} {y:C.U.T e} (hoff:off<C.sz e)
 (hd:C.dec e (match elemAt C e xs i with | .agg ls=> .agg (ls.set off (.sl f ys)) | _=> .sl f ys)=some y):leaves (C.enc e y)=(leaves (elemAt C e xs i)).set off (.sl f ys):=by
 rw[G.dec _ _ _ hd];have hlen:(leaves (elemAt C e xs i)).length=C.sz e:=G.gk e _;have hno:∀v:C.PV,(∀ls,v≠ .agg ls)→leaves v=[v]:=fun v hv=>by cases v<;>first | rfl | exact absurd rfl (hv _)
 split
 ·rename_i ls hl;rw[hl];rfl
 ·rename_i hna;rw[hno _ (fun ls e=>hna ls e)]at hlen⊢;simp only[List.length_cons,List.length_nil]at hlen;have:off=0:=by omega
  subst this;rfl
theorem BJ (G:Good P C) (h:Rel C B S V w N bs) {Q:bE C} {g:FuncId} {vs:List (Option Nat×C.PV)} {vals:List C.PV} {os:List Obj} {args:Array Value}
 (hroots:∀q,q∈(vs.flatMap fun p=>aZ C p.1 p.2)→isRow (look S q)=true) (hap:iW (Q.mode g) os (vs.flatMap fun p=>aZ C p.1 p.2)=true)
 (hnests:gv S V w os) (hvals:∀(j:Nat) (o:Obj),os[j]? =some o→∃v,vals[j]? =some v∧rI (Q.nt g) os S o v)
 {r:C.PV} {os':List C.PV} {v:Value} (hlen:os'.length=os.length)
 (hafter:lJ C ⟨w,fun b=>∃r,jB C (Q.nt g) (Q.mode g) vs os V w bs r b,kJ C (Q.mode g) S N bs (vs.flatMap fun p=>aZ C p.1 p.2)⟩ (Q.nt g) (kR C (Q.nt g) os V w args) r os' v w')
 (hpl:plain 1 0 r=true) {S2:St C} (hout:xM C (Q.nt g) os os' (oS C Q g (vs.flatMap fun p=>aZ C p.1 p.2) os' r S)=some S2):
 ∃N2 bs2 bsr,Rel C B S2 V w' N2 bs2∧aR C o9 B1 w' N2 bsr r v∧(∀p b,bsr p b→¬N2 b∧b<w'.heap.size∧(B.M b∨B.w.heap.size≤b))∧(∀p p' b,bsr p b→bsr p' b→p=p')∧∀p q b,bsr p b→¬bs2 q b:=by
 classical
 obtain⟨N',bs',hA⟩:=hafter;obtain⟨N1,bs1,h1,f1,f2,f3,f4,f5,f6,f7,f8⟩:=zS h (Q:=Q) (g:=g) (os:=os) (vs:=os') (r:=r) hroots hap;generalize hS1:oS C Q g (vs.flatMap fun p=>aZ C p.1 p.2) os' r S=S1 at*;generalize hrs:(vs.flatMap fun p=>aZ C p.1 p.2)=rs at*;have hpairs:dC os=true:=by simp only[iW,Bool.and_eq_true]at hap;exact hap.1
 have hkeep:∀o,o∈os→ja o=true→Q.mode g= .edit∨o.root ∉ rs:=fun o ho hr=>by
  cases hm:Q.mode g with
  | edit=>exact .inl rfl
  | read=>
    refine .inr fun hq=> ?_;simp only[iW,hm,Bool.and_eq_true]at hap;exact(iQ (List.all_eq_true.1 (List.all_eq_true.1 hap.2 _ hq) o ho)).2.2 rfl
  | take=>
    refine .inr fun hq=> ?_;simp only[iW,hm,Bool.and_eq_true]at hap;exact(iQ (List.all_eq_true.1 (List.all_eq_true.1 hap.2.2 _ hq) o ho)).2.2 rfl
 have hrowS:∀o,o∈os→ja o=true→∃dp e xs,look S o.root= .own dp e xs:=fun o ho hr=>by
  obtain⟨j,hj⟩:=List.getElem?_of_mem ho;obtain⟨v,hv,his⟩:=hvals j o hj;cases o with
  | box t=>cases hr
  | row r=>obtain⟨dp,e,xs,hl,_⟩:=his;exact⟨dp,e,xs,hl⟩
  | nest r e i off=>
    obtain⟨f,ys,hrd,_,_⟩:=his;obtain⟨_,_,_,_,xs,_,_,hl,_⟩:=qD h hnests ho hrd;exact⟨true,e,xs,hl⟩
 have hrow1:∀o,o∈os→ja o=true→∀dp e xs,look S o.root= .own dp e xs→look S1 o.root= .own dp e xs:=fun o ho hr dp e xs hl=>f5 _ dp e xs hl (hkeep o ho hr)
 have hRO1:jT S1 os:=fun o ho hr=>by
  obtain⟨dp,e,xs,hl⟩:=hrowS o ho hr;exact cc (ik (hrow1 o ho hr dp e xs hl))
 have hMcase:∀b,(∃z,jB C (Q.nt g) (Q.mode g) vs os V w bs z b)→∃z q,bs q b∧((iF (Q.nt g) os z q∧Cn C (Q.nt g) os V w z b)∨(Q.mode g= .take∧q∈rs)):=fun b ⟨z,hz⟩=>by
  rcases hz with⟨⟨q,hq,hb⟩,hh⟩ | ⟨_,hm,p,q,hp,hq,hb⟩
  ·exact⟨z,q,hb,.inl ⟨hq,hh⟩⟩
  ·exact⟨z,q,hb,.inr ⟨hm,by rw[←hrs];exact List.mem_flatMap.2 ⟨p,List.mem_of_getElem? hp,kD hq⟩⟩⟩
 generalize hM:(fun b=>∃z,jB C (Q.nt g) (Q.mode g) vs os V w bs z b)=M at*;have hMcase:∀b,M b→∃z q,bs q b∧((iF (Q.nt g) os z q∧Cn C (Q.nt g) os V w z b)∨(Q.mode g= .take∧q∈rs)):=fun b hb=>hMcase b (by rw[←hM]at hb;exact hb);have hMin:∀z b,jB C (Q.nt g) (Q.mode g) vs os V w bs z b→M b:=fun z b hb=>by rw[←hM];exact⟨z,hb⟩
 have hMlt:∀b,M b→b<w.heap.size∧(B.M b∨B.w.heap.size≤b)∧¬N b:=fun b hb=>by
  obtain⟨z,q,hq,_⟩:=hMcase b hb;obtain⟨o1,o2,o3⟩:=h.own q b hq;exact⟨o2,o3,o1⟩
 have hNM:∀b,N1 b→¬M b:=fun b hb hm=>by
  obtain⟨z,q,hq,hc⟩:=hMcase b hm;rcases f3 b hb with hn | ⟨hmode,q',hq',hb'⟩
  ·exact(h.own q b hq).1 hn
  ·have:=h.km q q' b hq hb';subst this;rcases hc with⟨hfr,_⟩ | ⟨ht,_⟩
   ·simp only[iW,hmode,Bool.and_eq_true]at hap;exact ka hfr (List.all_eq_true.1 hap.2 q hq')
   ·rw[hmode]at ht;cases ht
 have hfree:∀q b,bs q b→(∀o,o∈os→¬mq o q)→(Q.mode g= .take→q ∉ rs)→¬M b:=fun q b hb hc ht hm=>by
  obtain⟨z,q',hq',hcase⟩:=hMcase b hm;have:=h.km q q' b hb hq';subst this;rcases hcase with⟨hfr,_⟩ | ⟨hm',hin⟩
  ·obtain⟨o,ho,hco⟩:=tv hfr;exact hc o ho hco
  ·exact ht hm' hin
 have hkept:=hA.kept;have hsame:∀b,b<w.heap.size→¬M b→w'.heap[b]? =w.heap[b]? :=fun b hb hm=>hkept.block b hb hm;have hsize:w.heap.size≤w'.heap.size:=hkept.size
 let Su:St C:=fZ S1 os (List.replicate os.length .undef)
 have hLVu:jS os (List.replicate os.length (.undef:C.PV)):=fun i o v _ hv _=>by
  rw[List.getElem?_replicate]at hv;split at hv
  ·cases hv;rfl
  ·cases hv
 have hund:∀(i:Nat) (v:C.PV),(List.replicate os.length (.undef:C.PV))[i]? =some v→v= .undef:=fun i v hv=>by
  rw[List.getElem?_replicate]at hv;split at hv
  ·cases hv;rfl
  ·cases hv
 have hRAu:eH C (bL C S1 V w) (cL C S1 V) B Su V w N1 bs1:=qf os _ h1 hpairs hRO1 hLVu (fun i t v _ hv=>by rw[hund i v hv];trivial) (fun i o v _ hv _ c _=>by rw[hund i v hv];trivial);have hSurow:∀q,isRow (look Su q)=true→look S1 q=look Su q∧∀o,o∈os→¬mq o q:=fun q hq=>qV os os.length hpairs hRO1 (Nat.le_refl _) hq
 have hSuat:∀o,o∈os→ja o=true→look Su o.root= .undef∧fN Su o.root:=fun o ho hr=>by
  obtain⟨i,hi⟩:=List.getElem?_of_mem ho;exact r9 os _ hpairs hRO1 hLVu i o .undef hi (by rw[List.getElem?_replicate,if_pos (List.getElem?_eq_some_iff.1 hi).1]) hr
 let useN:Prop:=Q.mode g= .read→(oD C r || os'.any (oD C))=true
 let N2:Nat→Prop:=fun b=>N1 b∨(useN∧N' b)
 let A':ao→Value→Prop:=fun q c=>bL C S1 V w q c∧nj os q=false
 have hconc:∀q,fN S q→(∀t,.box t∈os→q.1≠t)→jf V w' q=jf V w q:=fun q ⟨s,hs,ho⟩ hnb=>by
  refine(h.fo q.1 s hs).mZ (fun b ⟨ls,hls⟩ hb=> ?_) q.2 ho;refine hsame b (h.own _ b hb).2.1 (hfree (q.1,[]) b hb (fun o hoo hc=> ?_) (fun _ hin=> ?_))
  ·cases o with
   | box t=>exact hnb t hoo hc
   | row r'=>
     obtain⟨dp,e,xs,hl⟩:=hrowS (.row r') hoo rfl;have hc:(q.1,[])=r':=hc;rw[show(Obj.row r').root=r' from rfl,←hc]at hl;unfold look at hl;rw[get_some hs,hls]at hl;cases hl
   | nest r' e i off=>
     obtain⟨dp,e',xs,hl⟩:=hrowS (.nest r' e i off) hoo rfl;have hc:(q.1,[])=r':=hc;rw[show(Obj.nest r' e i off).root=r' from rfl,←hc]at hl;unfold look at hl;rw[get_some hs,hls]at hl;cases hl
  ·have:=hroots _ hin;unfold look at this;rw[get_some hs,hls]at this;cases this
 have hch:eH C A' (cL C S1 V) B (dK (gg os) Su) V w' N2 (fun q b=>bs1 q b∧¬M b):=by
  refine eH.change hRAu (gg os) (fun t p s x c hs hx hr=> ?_) (fun t s b hs hb h0=> ?_) (fun q q' b hb hb'=>h1.km q q' b hb.1 hb'.1) (fun q b hb=> ?_) (fun b hb=> ?_) ?_
  ·have hNs:∀b,N1 b→w'.heap[b]? =w.heap[b]? :=fun b hb=>hsame b (h1.kd b hb).1 (hNM b hb);have hNN:∀b,N1 b→N2 b:=fun b hb=> .inl hb;cases x with
   | own dp e xs=>
     have hlook:look Su (t,p)= .own dp e xs:=by unfold look;rw[get_some hs];exact hx
     obtain⟨k1,k2⟩:=hSurow (t,p) (ik hlook)
     have hnM:∀b,bs1 (t,p) b→¬M b:=fun b hb=>hfree (t,p) b (f1 _ b hb) k2 (fun hm hin=>by
      have:=f7 hm _ hin;rw[k1,hlook]at this;cases this)
     exact fk.move hr (fun b hb=>hb.elim (hNs b) (fun hb=>hsame b (h1.own _ b hb).2.1 (hnM b hb))) hNN (fun b hb=>⟨hb,hnM b hb⟩)
   | sl e xs=>exact gC.mono hr hNs hNN
   | iV q=>
     simp only[gg];split
     ·trivial
     ·rename_i hb;exact⟨hr,by simpa using hb⟩
   | nR q e i o=>
     simp only[gg];split
     ·trivial
     ·rename_i hb;obtain⟨b,k,cap,k1,k2,k3⟩:=hr;exact⟨b,k,cap,⟨k1,by simpa using hb⟩,k2,k3⟩
   | vw q e i o=>
     simp only[gg];split
     ·trivial
     ·rename_i hb;obtain⟨b,k,cap,k1,k2,k3⟩:=hr;exact⟨b,k,cap,⟨k1,by simpa using hb⟩,k2,k3⟩
   | kB q e i o=>
     simp only[gg];split
     ·trivial
     ·rename_i hb;simp only[Bool.or_eq_true,not_or,Bool.not_eq_true]at hb;obtain⟨b,k,cap,⟨k1,k1'⟩,k2,k3⟩:=hr;refine⟨b,k,cap,⟨⟨k1,k1'⟩,hb.1⟩,k2,?_⟩;obtain⟨c',hc',hrep⟩:=eH.look h1 q (cc k1);rw[k1']at hc';cases hc'
      have hbM:b<w.heap.size∧¬M b:=by
       cases hl:look S1 q with
       | sl e' xs=>
         rw[hl]at hrep;have hrep:gC C w N1 (.sl e' xs) (.slice (some ⟨b,0,none⟩) k cap):=hrep;cases hrep with
         | nil=>have:=k2.2.1;omega
         | sl e' xs b o c u hN hc hu hv=>exact⟨(h1.kd b hN).1,hNM b hN⟩
       | own dp e' xs=>
         rw[hl]at hrep;obtain⟨cur,lab,hk,hbo,hlb,hh,_⟩:=fk.slot hrep;refine⟨(h1.own q b hbo).2.1,fun hm=> ?_⟩;obtain⟨z,q',hq',hcase⟩:=hMcase b hm;have:=h.km q q' b (f1 q b hbo) hq';subst this;rcases hcase with⟨⟨j,o',hz1,hj,hz3⟩,hhdr⟩ | ⟨hm',hin⟩
         ·cases o' with
          | box t'=>exact mg hb.1 t' (List.mem_of_getElem? hj) (by rw[hz3])
          | row r'=>exact vu hb.2 (by have:=List.mem_of_getElem? hj;rw[show q=r' from hz3.2];exact this)
          | nest r' e2 i2 off2=>
            have hq:q=r':=hz3.2;subst hq;obtain⟨v2,_,f2',ys2,hrd,_,_⟩:=hvals j _ hj;obtain⟨b2,k',cap',c2,xs2,cur2,lab2,_,hcc,_,_,_,hval,_,hlab2,_,_,_,_,_,_,_,hflat⟩:=qD h hnests (List.mem_of_getElem? hj) hrd;obtain⟨k3',cap3,hobj⟩:=hhdr j q e2 i2 off2 hz1 hj;rw[hval]at hobj;rw[k1']at hcc;simp only[Option.some.injEq,Value.slice.injEq,Addr.mk.injEq,and_true]at hcc;obtain⟨hbb,_⟩:=hcc;subst hbb;rcases hflat with⟨hc0,_⟩ | ⟨b4,cap4,cur4,hc4,⟨_,hl4⟩,_⟩
            ·rw[hc0]at hobj;cases hobj
            ·rw[hc4]at hobj;simp only[Value.slice.injEq,Option.some.injEq,Addr.mk.injEq,and_true]at hobj;rw[hobj.1,hlab2]at hl4;cases hl4
         ·have:=f7 hm' q hin;rw[hl]at this;cases this
       | _=>rw[hl]at k1;cases k1
      rw[cell_of_heap (w:=w) (hsame b hbM.1 hbM.2)];exact k3
   | ptr t' o=>exact hr
   | rd x o=>
     obtain⟨b,o',hb,hc,hl⟩:=hr;exact⟨b,o',hNN b hb,hc,fun i v hi=>let⟨u,k1,k2⟩:=hl i v hi;⟨u,by rw[cell_of_heap (w:=w) (hNs b hb)];exact k1,k2.mono hNs hNN⟩⟩
   | fn f caps=>exact hr
   | undef=>trivial
   | void=>exact hr
   | int k n=>exact hr
   | bool b=>exact hr
   | str s=>exact hr
   | agg ls=>exact hr
   | box ls=>exact hr
   | gG ls=>exact hr
  ·obtain⟨ls,rfl⟩:=hb;obtain⟨k1,k2,k3⟩:=qG os os.length hpairs hRO1 (Nat.le_refl _) (get_some hs)
   have hnM:¬M b:=hfree (t,[]) b (f1 _ b h0) (fun o ho hc=>by
    cases o with
    | box t'=>have hc:t=t':=hc;subst hc;exact k2 ho
    | row r'=>exact k3 _ ho rfl (show r'=(t,[])from Eq.symm hc)
    | nest r' e i off=>exact k3 _ ho rfl (show r'=(t,[])from Eq.symm hc)) (fun hm hin=>by
    have:=f7 hm _ hin;obtain⟨ls',hg⟩:=k1;unfold look at this;rw[hg]at this;cases this)
   exact⟨⟨h0,hnM⟩,hsame b (h1.own _ b h0).2.1 hnM⟩
  ·obtain⟨o1,o2,o3⟩:=h1.own q b hb.1;refine⟨fun hn=> ?_,Nat.lt_of_lt_of_le o2 hsize,o3⟩;rcases hn with hn | ⟨hu,hn⟩
   ·exact o1 hn
   ·rcases(hA.kd b hn).2 with hn0 | hm | hnew
    ·exact o1 (f4 hu b hn0)
    ·exact hb.2 hm
    ·exact absurd o2 (Nat.not_lt.2 hnew)
  ·rcases hb with hb | ⟨hu,hb⟩
   ·exact⟨Nat.lt_of_lt_of_le (h1.kd b hb).1 hsize,(h1.kd b hb).2⟩
   ·obtain⟨n1,n2⟩:=hA.kd b hb;refine⟨n1,?_⟩;rcases n2 with hn0 | hm | hnew
    ·exact(h1.kd b (f4 hu b hn0)).2
    ·exact .inr (hMlt b hm).2.1
    ·exact .inr (.inr (Nat.le_trans h.kept.size hnew))
  ·refine⟨hkept.os.trans h.kept.os,hkept.tape.trans h.kept.tape,hkept.output.trans h.kept.output,Nat.le_trans h.kept.size hsize,fun b hb hm=> ?_⟩;rw[hsame b (Nat.lt_of_lt_of_le hb h.kept.size) (fun hM'=> ?_)]
   ·exact h.kept.block b hb hm
   ·rcases(hMlt b hM').2.1 with h' | h'
    ·exact hm h'
    ·omega
 let Sm:St C:=dK (gg os) Su
 have hstay:∀v:C.PV,stays v=true→gg os v=v:=fun v hv=>rO os v hv
 have hSmat:∀o,o∈os→ja o=true→look Sm o.root= .undef∧fN Sm o.root:=fun o ho hr=>by
  obtain⟨k1,k2⟩:=hSuat o ho hr;obtain⟨k3,k4⟩:=eH.kF hRAu hstay (fun v=>nK os v) _ k2;exact⟨by rw[k3,k1];rfl,k4⟩
 have hSmcov:∀z q,iF (Q.nt g) os z q→look Sm q= .undef:=fun z q ⟨j,o,hz,hj,hq⟩=>by
  have ho:=List.mem_of_getElem? hj;cases o with
  | box t=>
    have hg:get Su t= .undef:=qR os os.length hpairs (Nat.le_refl _) ho
    have:get Sm t= .undef:=by
     show get (dK (gg os) Su) t=_;unfold dK;rw[get_map _ _ _ (kA (hstay _ rfl)),hg];rfl
    unfold look;rw[hq];simp only;rw[this];exact gf _
  | row r'=>rw[hq.2];exact(hSmat _ ho rfl).1
  | nest r' e i off=>rw[hq.2];exact(hSmat _ ho rfl).1
 let bs2:ao→Nat→Prop:=fun q b=>(bs1 q b∧¬M b)∨∃z,iF (Q.nt g) os z q∧bs' z b
 have hbs':∀z b,bs' z b→(M b∨w.heap.size≤b)∧¬N' b∧b<w'.heap.size:=fun z b hb=>by
  obtain⟨o1,o2,o3⟩:=hA.own z b hb;exact⟨o3,o1,o2⟩
 have hnot:∀q b z,bs1 q b→¬M b→bs' z b→False:=fun q b z h1' hm hb=>by
  rcases(hbs' z b hb).1 with h2 | h2
  ·exact hm h2
  ·have:=(h1.own q b h1').2.1;omega
 have hN2':∀z b,bs' z b→¬N2 b:=fun z b hb hn=>by
  rcases hn with hn | ⟨_,hn⟩
  ·rcases(hbs' z b hb).1 with h2 | h2
   ·exact hNM b hn h2
   ·have:=(h1.kd b hn).1;omega
  ·exact(hbs' z b hb).2.1 hn
 have hBM:∀z b,bs' z b→B.M b∨B.w.heap.size≤b:=fun z b hb=>by
  rcases(hbs' z b hb).1 with h2 | h2
  ·exact(hMlt b h2).2.1
  ·exact .inr (Nat.le_trans h.kept.size h2)
 have hRA2:eH C A' (cL C S1 V) B Sm V w' N2 bs2:=by
  refine hch.zJ (fun q=> ?_) (fun _ h=>h) (fun q q' b hb hb'=> ?_) (fun q b hb=> ?_) hch.kd
  ·by_cases hc:∃z,iF (Q.nt g) os z q
   ·obtain⟨z,hz⟩:=hc
    right
    have:=hSmcov z q hz;show aQ (look Sm q)=true∧_;rw[this];exact⟨rfl,fun _ _ _ e=>by cases e⟩
   ·left
    funext b;exact propext ⟨fun hb=>hb.elim id (fun⟨z,hz,_⟩=>absurd ⟨z,hz⟩ hc),fun hb=> .inl hb⟩
  ·rcases hb with hb | ⟨z,hz,hb⟩
   ·rcases hb' with hb' | ⟨z',hz',hb'⟩
    ·exact h1.km q q' b hb.1 hb'.1
    ·exact(hnot q b z' hb.1 hb.2 hb').elim
   ·rcases hb' with hb' | ⟨z',hz',hb'⟩
    ·exact(hnot q' b z hb'.1 hb'.2 hb).elim
    ·have:=hA.km z z' b hb hb';subst this;exact xK hz hz'
  ·rcases hb with hb | ⟨z,hz,hb⟩
   ·exact hch.own q b hb
   ·exact⟨hN2' z b hb,(hbs' z b hb).2.2,hBM z b hb⟩
 unfold xM at hout;split at hout
 ·rename_i us hus;cases hout;obtain⟨lus,gus⟩:=rp (Q.nt g) os S1 os os' us hus;have hROm:jT Sm os:=fun o ho hr=>(hSmat o ho hr).2
  have hslot0:∀(i:Nat) (o:Obj) (x:C.PV),os[i]? =some o→os'[i]? =some x→aR C o9 (oC (Q.nt g) os'.length (kR C (Q.nt g) os V w args)) w' N' (fun p=>bs' (Q.nt g+i,p)) x (jz C V w o):=fun i o x ho hx=>by
   have hi:=(List.getElem?_eq_some_iff.1 hx).1
   have:=hA.fo (Q.nt g+i) x (by
    rw[List.getElem?_append_left (by simp;omega),List.getElem?_append_right (by simp),List.length_replicate,show Q.nt g+i-Q.nt g=i by omega];exact hx)
   rw[gZ _ _ _ _ (by omega),mN ho]at this;exact this
  have hslot:∀(i:Nat) (o:Obj) (x:C.PV),os[i]? =some o→os'[i]? =some x→aR C o9 (oC (Q.nt g) os'.length (kR C (Q.nt g) os V w args)) w' N2 (fun p=>bs' (Q.nt g+i,p)) x (jz C V w o):=fun i o x ho hx=>by
   by_cases hu:useN
   ·exact(hslot0 i o x ho hx).move (fun p x c _ hr=>hr.move (w':=w') (fun _ _ h=>h) (fun _ _ h=>h) (fun _ _=>rfl) (fun _ _ _ _ _ _=>rfl) (fun b hb=> .inr ⟨hu,hb⟩) (fun _ h=>h)) (fun _ _ h=>⟨h,rfl⟩)
   ·have:oD C x=false:=by
     cases hh:oD C x with
     | false=>rfl
     | true=>
       refine absurd (fun _=> ?_) hu;rw[Bool.or_eq_true];exact .inr (List.any_eq_true.2 ⟨x,List.mem_of_getElem? hx,hh⟩)
    exact(hslot0 i o x ho hx).Cs G this
  have hLV:jS os us:=fun i o u ho hu hr=>by
   obtain⟨v0,u',hv0,hu',hnew⟩:=gus i o ho;rw[hu]at hu';cases hu';cases o with
   | box t=>cases hr
   | row r'=>
     unfold mj at hnew;split at hnew
     ·cases ‹Obj.row r'=_›
     ·split at hnew
      ·split at hnew
       ·cases hnew;rfl
       ·cases hnew
      ·cases hnew
     ·cases ‹Obj.row r'=_›
     ·cases hnew
   | nest r' e i off=>
     unfold mj at hnew;split at hnew
     ·cases ‹Obj.nest r' e i off=_›
     ·cases ‹Obj.nest r' e i off=_›
     ·split at hnew
      ·split at hnew
       ·split at hnew
        ·cases hnew;rfl
        ·cases hnew
       ·cases hnew
      ·cases hnew
     ·cases hnew
  have hobj:∀(i:Nat) (o:Obj),os[i]? =some o→∃x u,os'[i]? =some x∧us[i]? =some u∧mj C (Q.nt g) os S1 o x=some u:=gus
  have hboxU:∀(i:Nat) (t:Nat),os[i]? =some (.box t)→∃cs cs',os'[i]? =some (.box cs)∧us[i]? =some (.box cs')∧uz C (Q.nt g) os cs=some cs':=fun i t ho=>by
   obtain⟨x,u,hx,hu,hnew⟩:=hobj i _ ho;unfold mj at hnew;split at hnew
   ·rename_i cs _;split at hnew
    ·rename_i cs' hcs;cases hnew;exact⟨cs,cs',hx,hu,hcs⟩
    ·cases hnew
   ·cases ‹Obj.box t=_›
   ·cases ‹Obj.box t=_›
   ·cases hnew
  have hbs2:∀(i:Nat) (o:Obj) (p:List Nat) (q:ao),os[i]? =some o→(match o with | .box t=>q=(t,p) | o=>p=[]∧q=o.root)→∀b,bs' (Q.nt g+i,p) b→bs2 q b:=fun i o p q ho hq b hb=> .inr ⟨(Q.nt g+i,p),⟨i,o,rfl,ho,hq⟩,hb⟩
  have hbox1:∀(i t:Nat),os[i]? =some (.box t)→gP S1 t:=fun i t ho=>by
   obtain⟨v0,_,cs,cs',hg,_⟩:=hvals i _ ho;exact f8 t ⟨cs,hg⟩
  have hRA3:eH C A' (cL C S1 V) B (fZ Sm os us) V w' N2 bs2:=by
   refine qf os us hRA2 hpairs hROm hLV (fun i t u ho hu=> ?_) (fun i o u ho hu hr c hc=> ?_)
   ·obtain⟨cs,cs',hx,hu',hout'⟩:=hboxU i t ho;rw[hu]at hu';cases hu';obtain⟨b,vs',ty,hc,hb,hheap,hsz,hag⟩:=hslot i _ _ ho hx;obtain⟨lo,go⟩:=s7 (Q.nt g) os cs cs' hout';refine⟨b,vs',ty,hc,hbs2 i _ [] (t,[]) ho rfl b hb,hheap,by rw[lo];exact hsz,fun k x hk=> ?_⟩;rcases go k x hk with⟨t0,off,q,k1,k2,k3,rfl⟩ | ⟨k1,k2⟩
    ·obtain⟨u0,hu0,b0,⟨_,_,hV0⟩,hcu⟩:=hag k _ k1;have e:Q.nt g+(t0-Q.nt g)=t0:=by omega
     rw[←e,mN k3]at hV0;exact⟨u0,hu0,b0,⟨hbox1 _ q k3,hV0⟩,hcu⟩
    ·obtain⟨u0,hu0,hrep⟩:=hag k x k1;refine⟨u0,hu0,?_⟩;cases x with
     | own dp e xs=>exact fk.move (w':=w') hrep (fun _ _=>rfl) (fun b hb=>hb) (fun b hb=>hbs2 i _ [k] (t,[k]) ho rfl b hb)
     | sl e xs=>exact gC.mono hrep (fun _ _=>rfl) (fun b hb=>hb)
     | int k n=>exact hrep
     | bool b=>exact hrep
     | str s=>exact hrep
     | undef=>trivial
     | _=>simp[wO]at k2
   ·have hoM:=List.mem_of_getElem? ho
    have hrootok:fN S o.root:=by
     obtain⟨dp,e,xs,hl⟩:=hrowS o hoM hr;exact cc (ik hl)
    have hnb:∀t,.box t∈os→o.root.1≠t:=fun t ht e=>by
     obtain⟨j,hj⟩:=List.getElem?_of_mem ht;rcases Nat.lt_trichotomy i j with hlt | he | hgt
     ·exact(iQ (iT hpairs i j o _ ho hj hlt)).2.1 t rfl e
     ·subst he;rw[ho]at hj;cases hj;cases hr
     ·exact(iQ (iT hpairs j i _ o hj ho hgt)).1 t rfl e
    rw[hconc _ hrootok hnb]at hc;obtain⟨x,u',hx,hu',hnew⟩:=hobj i o ho;rw[hu]at hu';cases hu';have hsl:=hslot i o x ho hx;cases o with
    | box t=>cases hr
    | row r'=>
      have hval:jz C V w (.row r')=c:=by
       have hc:jf V w r'=some c:=hc;simp only[jz,hc,Option.getD_some]
      unfold mj at hnew;split at hnew
      ·cases ‹Obj.row r'=_›
      ·rename_i r2 dp e xs heq;cases heq;split at hnew
       ·split at hnew
        ·cases hnew;rw[hval]at hsl;exact fk.move (w':=w') hsl (fun _ _=>rfl) (fun b hb=>hb) (fun b hb=>hbs2 i _ [] r' ho ⟨rfl,rfl⟩ b hb)
        ·cases hnew
       ·cases hnew
      ·cases ‹Obj.row r'=_›
      ·cases hnew
    | nest r' e i2 off=>
      unfold mj at hnew;split at hnew
      ·cases ‹Obj.nest r' e i2 off=_›
      ·cases ‹Obj.nest r' e i2 off=_›
      ·rename_i r2 e2 i3 off3 f ys heq;cases heq;split at hnew
       ·rename_i e' xs hl1;split at hnew
        ·rename_i hcond;obtain⟨rfl,hdf⟩:=hcond;split at hnew
         ·rename_i y hdec;cases hnew;obtain⟨v0,_,f0,ys0,hrd,_,_⟩:=hvals i _ ho;obtain⟨b,k,cap,chd,xs0,cur,lab,hl0,hcc,hk,hi,hcell,hval,hbb,hlab,hheap,hle,hcap,hcs,h4,hleaf,hcur,hflat0⟩:=qD h hnests hoM hrd
          have hxs:xs0=xs:=by
           have:=hrow1 _ hoM rfl true e' xs0 hl0;rw[show(Obj.nest r' e' i2 off).root=r' from rfl,hl1]at this;cases this;rfl
          subst hxs
          have hc':c= .slice (some ⟨b,0,none⟩) k cap:=by
           have hc:jf V w r'=some c:=hc;rw[hcc]at hc;exact(Option.some.inj hc).symm
          have hdl:=z8 G hi.2.2 hdec;have hlti:i2.toNat<xs0.length:=hk▸hi.2.1;have hxi:xs0[i2.toNat]? =some (xs0[i2.toNat]'hlti):=List.getElem?_eq_getElem hlti
          have helem:elemAt C e' xs0 i2=C.enc e' (xs0[i2.toNat]'hlti):=by
           unfold elemAt;rw[List.getD_eq_getElem?_getD,hxi];rfl
          have hofflt:off<(leaves (elemAt C e' xs0 i2)).length:=(List.getElem?_eq_some_iff.1 hleaf).1
          have hMlab:∀b',M b'→bs r' b'→lab b'=some (i2.toNat,off):=fun b' hm hb'=>by
           obtain⟨z,q',hq',hcase⟩:=hMcase b' hm;have:=h.km r' q' b' hb' hq';subst this;rcases hcase with⟨hfr,hhdr⟩ | ⟨hm',hin⟩
           ·have hz:z=(Q.nt g+i,[]):=rK hpairs hfr ⟨i,_,rfl,ho,rfl,rfl⟩;subst hz;obtain⟨k3,cap3,hobj3⟩:=hhdr i r' e' i2 off rfl ho;rw[hval]at hobj3;rcases hflat0 with⟨hc0,_⟩ | ⟨b4,cap4,cur4,hc4,⟨_,hl4⟩,_⟩
            ·rw[hc0]at hobj3;cases hobj3
            ·rw[hc4]at hobj3;simp only[Value.slice.injEq,Option.some.injEq,Addr.mk.injEq,and_true]at hobj3;rw[←hobj3.1];exact hl4
           ·have:=f7 hm' r' hin;rw[hl1]at this;cases this
          have hbs1:∀b',bs r' b'→bs1 r' b':=fun b' hb'=>f6 r' b' (hkeep _ hoM rfl) hb';have hbM:¬M b:=fun hm=>by have:=hMlab b hm hbb;rw[hlab]at this;cases this
          have hold:∀b',bs r' b'→lab b'≠some (i2.toNat,off)→¬M b':=fun b' hb' hl' hm=>hl' (hMlab b' hm hb')
          let lab':Nat→Option (Nat×Nat):=fun b'=>if bs' (Q.nt g+i,[]) b' then some (i2.toNat,off)else lab b'
          have hlabO:∀b',bs r' b'→¬M b'→lab' b'=lab b':=fun b' hb' hm=>by
           show(if bs' (Q.nt g+i,[]) b' then some (i2.toNat,off)else lab b')=lab b';rw[if_neg (fun hb=>hnot r' b' _ (hbs1 b' hb') hm hb)]
          have hlabN:∀b',bs' (Q.nt g+i,[]) b'→lab' b'=some (i2.toNat,off):=fun b' hb'=>by
           show(if bs' (Q.nt g+i,[]) b' then some (i2.toNat,off)else lab b')=_;rw[if_pos hb']
          have hsameB:∀b',bs r' b'→¬M b'→w'.heap[b']? =w.heap[b']? :=fun b' hb' hm=>hsame b' (h.own r' b' hb').2.1 hm
          have oldleaf:∀j o2 (v2:C.PV) u2,nI C w N (fun b'=>bs r' b'∧lab b'=some (j,o2)) true v2 u2→(j,o2)≠(i2.toNat,off)→nI C w' N2 (fun b'=>bs2 r' b'∧lab' b'=some (j,o2)) true v2 u2:=fun j o2 v2 u2 hin hne=>
           hin.move (fun b' hb'=>hb'.elim (fun hn=>hsame b' (h.kd b' hn).1 (hNM b' (f2 b' hn))) (fun hb'=>hsameB b' hb'.1 (hold b' hb'.1 (fun e=>hne (Option.some.inj (hb'.2.symm.trans e)))))) (fun b' hn=> .inl (f2 b' hn))
            (fun b' hb'=>by
             have hm:=hold b' hb'.1 (fun e=>hne (Option.some.inj (hb'.2.symm.trans e)));exact⟨.inl ⟨hbs1 b' hb'.1,hm⟩,by rw[hlabO b' hb'.1 hm];exact hb'.2⟩)
          have hnewrow:kj C w' (fun b'=>bs2 r' b'∧lab' b'=some (i2.toNat,off)) f ys chd:=by
           rw[hval]at hsl;have:=fk.flat G hsl hdf;exact this.move (fun _ _=>rfl) (fun b' hb'=>⟨hbs2 i _ [] r' ho ⟨rfl,rfl⟩ b' hb',hlabN b' hb'⟩)
          rw[hc'];refine .inr ⟨b,cap,cur,lab',by rw[hk];simp,.inl ⟨hbs1 b hbb,hbM⟩,by rw[hlabO b hbb hbM];exact hlab,(hsameB b hbb hbM).trans hheap,by simpa using hle,hcap,hcs,fun j x2 hj o2 v2 ho2=> ?_⟩;rw[List.getElem?_set]at hj
          by_cases hji:i2.toNat=j
          ·subst hji;rw[if_pos rfl]at hj;simp only[hlti,if_true]at hj;cases hj;rw[hdl,List.getElem?_set]at ho2
           by_cases hoo:off=o2
           ·subst hoo;rw[if_pos rfl,if_pos hofflt]at ho2;cases ho2;exact⟨chd,hcur,hnewrow⟩
           ·rw[if_neg hoo,helem]at ho2;obtain⟨u2,hu2,hin⟩:=h4 _ _ hxi o2 v2 ho2;exact⟨u2,hu2,oldleaf _ _ _ _ hin (fun e=>hoo (Prod.mk.inj e).2.symm)⟩
          ·rw[if_neg hji]at hj;obtain⟨u2,hu2,hin⟩:=h4 j x2 hj o2 v2 ho2;exact⟨u2,hu2,oldleaf _ _ _ _ hin (fun e=>hji (Prod.mk.inj e).1.symm)⟩
         ·cases hnew
        ·cases hnew
       ·cases hnew
      ·cases hnew
  have hrow2:∀(i:Nat) (o:Obj),os[i]? =some o→ja o=true→isRow (look (fZ Sm os us) o.root)=true:=fun i o ho hr=>by
   obtain⟨x,u,hx,hu,hnew⟩:=hobj i o ho;rw[(r9 os us hpairs hROm hLV i o u ho hu hr).1];cases o with
   | box t=>cases hr
   | row r'=>
     unfold mj at hnew;split at hnew
     ·cases ‹Obj.row r'=_›
     ·split at hnew
      ·split at hnew
       ·cases hnew;rfl
       ·cases hnew
      ·cases hnew
     ·cases ‹Obj.row r'=_›
     ·cases hnew
   | nest r' e i off=>
     unfold mj at hnew;split at hnew
     ·cases ‹Obj.nest r' e i off=_›
     ·cases ‹Obj.nest r' e i off=_›
     ·split at hnew
      ·split at hnew
       ·split at hnew
        ·cases hnew;rfl
        ·cases hnew
       ·cases hnew
      ·cases hnew
     ·cases hnew
  have hfin:Rel C B (fZ Sm os us) V w' N2 bs2:=by
   refine hRA3.mono (fun q c ⟨⟨hq1,hq2⟩,hq3⟩=> ?_) (fun t b ⟨hb1,hb2⟩=>⟨?_,hb2⟩)
   ·have hcc:jf V w' q=jf V w q:=by
     obtain⟨s,hs,hok⟩:=cc hq1;refine(h1.fo q.1 s hs).mZ (fun b ⟨ls,hls⟩ hb=> ?_) q.2 hok;refine hsame b (h1.own _ b hb).2.1 (hfree (q.1,[]) b (f1 _ b hb) (fun o hoo hc=> ?_) (fun hm hin=> ?_))
     ·cases o with
      | box t=>exact mg hq3 t hoo hc
      | row r'=>
        obtain⟨dp,e,xs,hl⟩:=hrowS (.row r') hoo rfl;have:=hrow1 _ hoo rfl dp e xs hl;have hc:(q.1,[])=r':=hc;rw[show(Obj.row r').root=r' from rfl,←hc]at this;unfold look at this;rw[get_some hs,hls]at this;cases this
      | nest r' e i off=>
        obtain⟨dp,e',xs,hl⟩:=hrowS (.nest r' e i off) hoo rfl;have:=hrow1 _ hoo rfl dp e' xs hl;have hc:(q.1,[])=r':=hc;rw[show(Obj.nest r' e i off).root=r' from rfl,←hc]at this;unfold look at this;rw[get_some hs,hls]at this;cases this
     ·have:=f7 hm _ hin;unfold look at this;rw[get_some hs,hls]at this;cases this
    refine⟨?_,hcc.trans hq2⟩
    by_cases hcov:∃o,o∈os∧mq o q
    ·obtain⟨o,ho,hco⟩:=hcov;obtain⟨i,hi⟩:=List.getElem?_of_mem ho;cases o with
     | box t=>exact absurd hco (mg hq3 t ho)
     | row r'=>have hco:q=r':=hco;rw[hco];exact hrow2 i _ hi rfl
     | nest r' e i2 off=>have hco:q=r':=hco;rw[hco];exact hrow2 i _ hi rfl
    ·have hnc:∀o,o∈os→¬mq o q:=fun o ho hc=>hcov ⟨o,ho,hc⟩;obtain⟨k1,k2⟩:=lT os (List.replicate os.length .undef) hpairs hRO1 hLVu (cc hq1) hnc;have hSu:isRow (look Su q)=true:=by rw[k1];exact hq1
     have k3:=gU hstay Su q hSu;obtain⟨k4,k5⟩:=eH.kF hRAu hstay (fun v=>nK os v) q k2;obtain⟨k6,_⟩:=lT os us hpairs hROm hLV k5 hnc;rw[k6];show isRow (look (dK (gg os) Su) q)=true;rw[k3];exact hSu
   ·have hlt:t<S1.length:=by
     obtain⟨ls,hg⟩:=hb1;exact(List.getElem?_eq_some_iff.1 (iz hg (by simp))).1
    have hll:∀(os:List Obj) (vs:List C.PV) (S:St C),(fZ S os vs).length=S.length:=fun os=>by
     induction os with
     | nil=>intro vs S;cases vs<;>rfl
     | cons o os ih=>
       intro vs S;cases vs with
       | nil=>rfl
       | cons v vs=>
         show(fZ (hP S o v) os vs).length=_;rw[ih];cases o<;>simp[hP,aa.put]
    have hltm:t<Sm.length:=by
     show t<(dK (gg os) Su).length;unfold dK;rw[List.length_map,hll];exact hlt
    refine qg os us hpairs hROm hLV hltm lus.symm (fun i u ho hu=> ?_) ?_
    ·obtain⟨cs,cs',_,hu',_⟩:=hboxU i t ho;rw[hu]at hu';exact⟨cs',Option.some.inj hu'⟩
    ·by_cases hm:Obj.box t∈os
     ·exact .inr hm
     ·left
      obtain⟨ls,hg⟩:=qg os (List.replicate os.length .undef) hpairs hRO1 hLVu hlt (by simp) (fun i u ho _=>absurd (List.mem_of_getElem? ho) hm) (.inl hb1);exact⟨_,gX hstay hg⟩
  refine⟨N2,bs2,fun p b=>bs' (Q.nt g+os'.length,p) b,hfin,?_,fun p b hb=>⟨hN2' _ b hb,(hbs' _ b hb).2.2,hBM _ b hb⟩,fun p p' b hb hb'=>by
   have:=hA.km _ _ b hb hb';exact(Prod.mk.inj this).2,fun p q b hb hq=> ?_⟩
  ·have hrs':=hA.fo (Q.nt g+os'.length) r (by rw[List.getElem?_append_right (by simp)];simp);rw[fp]at hrs';have hpl':=hrs'.plain (X':=B1) hpl (fun t b h1 h2=>by omega)
   by_cases hu:useN
   ·exact hpl'.move (fun p x c _ hr=>hr.move (w':=w') (fun _ _ h=>h) (fun _ _ h=>h) (fun _ _=>rfl) (fun _ _ _ _ _ _=>rfl) (fun b hb=> .inr ⟨hu,hb⟩) (fun _ h=>h)) (fun _ _ h=>⟨h,rfl⟩)
   ·have:oD C r=false:=by
     cases hh:oD C r with
     | false=>rfl
     | true=>exact absurd (fun _=>by simp[hh]) hu
    exact hpl'.Cs G this
  ·rcases hq with hq | ⟨z,hz,hq⟩
   ·exact hnot q b _ hq.1 hq.2 hb
   ·have:=hA.km _ _ b hb hq;subst this;obtain⟨j,o,hj,ho,_⟩:=hz;have:=(List.getElem?_eq_some_iff.1 ho).1;simp only at hj;omega
 ·cases hout
end
end Go.Proofs.YtmapddgocpkgeaaGreat.aa
namespace Go.Proofs.YtmapddgocpkgeaaGreat.aa
open Go.RowKit
set_option linter.unusedVariables false
set_option linter.unusedSimpArgs false
variable {P:Program} {C:Ctx}
def kW (P:Program) (f:FuncId):Prop:=∃fn,P.funcs[f]? =some fn∧fn.body.isNone=false∧(fn.name== "runtime.NumGoroutine")=false
def Laid (C:Ctx) (w:World) (M:Nat→Prop):Prop:=C.xk w∧∀g,g∈C.yA→g<w.heap.size∧¬M g
def ae (P:Program) (C:Ctx) (f:FuncId) (S0:St C) (no:Nat) (r:C.PV) (os:List C.PV):Prop:=
 kW P f∧os.length=no∧∀(w:World) (M N:Nat→Prop) (V:Nat→Value) (bs:ao→Nat→Prop) (args:Array Value),Laid C w M→Rel C ⟨w,M,N⟩ S0 V w N bs→args.size≤S0.length-no→(∀t,t<S0.length-no→V t=args.getD t undef)→
  Calls P f args w (fun e w'=>match e with
   | .returned v=>lJ C ⟨w,M,N⟩ (S0.length-no) V r os v w'
   | _=>False)
theorem nW {o:Oper} {c:Call} {f:Operand} (ho:o.op= .call c) (hc:c.callee= .value f) {ρ:Operand→Value} {g:FuncId} {cs:Array Value} (hf:ρ f= .func (.func g) #[] cs) (he:kW P g) (w:World):
 (execOp ρ o).run P w= .ok (.enter g (c.args.map ρ++cs)) w:=by
 obtain⟨fn,h1,h2,h3⟩:=he;have e1:execOp ρ o=callFunc g (c.args.map ρ++cs):=by simp[execOp,ho,resolve,hc,hf,Deferred.ofValue,invoke]
 rw[e1];unfold callFunc;rw[Sem.run_bind,run_program,Result.andThen_ok];simp only[h1,h2,h3,Bool.false_eq_true,if_false,Sem.run_pure]
theorem By {op:Op} {f:Operand} {xs:List Operand} (h:gx op=some (f,xs)):∃c,op= .call c∧c.callee= .value f∧xs=c.args.toList:=by
 unfold gx at h;split at h
 ·rename_i c;split at h
  ·rename_i f' hc;cases h;exact⟨c,rfl,hc,rfl⟩
  ·cases h
 ·cases h
section
variable {B:fK} {n:Nat} {Vo:Nat→Value}
theorem Holds.back {V:Nat→Value} {S2:St C} {a:Act} {w:World} {N2:Nat→Prop} {bs2:ao→Nat→Prop} {bsr:List Nat→Nat→Prop} {r:C.PV} {v:Value} (h:Rel C B S2 V w N2 bs2) (ha:lQ n V a) (hV:∀t,n≤t→V t=Vo t)
 (hr:aR C o9 B1 w N2 bsr r v) (hown:∀p b,bsr p b→¬N2 b∧b<w.heap.size∧(B.M b∨B.w.heap.size≤b)) (hdis:∀p p' b,bsr p b→bsr p' b→p=p') (hno:∀p q b,bsr p b→¬bs2 q b) {dst:Option Nat} (hd:∀d,dst=some d→d<n):
 Holds C B n Vo (sg (kG C S2 dst) dst r) (a.put dst v) w:=by
 cases dst with
 | none=>exact⟨V,N2,bs2,h,ha,hV⟩
 | some d=>
   have hdn:=hd d rfl;have h3:=h.clear d (gZ V d v);have hg:=lk S2 d
   have hu:∀q:ao,q.1=d→look (clear S2 d) q= .undef:=fun q hq=>by
    unfold look;rw[hq,hg];exact gf _
   have h4:Rel C B (clear S2 d) (jJ V d v) w N2 (fun q b=>(q.1=d∧bsr q.2 b)∨(q.1≠d∧bs2 q b)):=by
    refine eH.zJ h3 (fun q=> ?_) (fun _ h=>h) (fun q q' b hb hb'=> ?_) (fun q b hb=> ?_) h3.kd
    ·by_cases hq:q.1=d
     ·right
      rw[hu q hq];exact⟨rfl,fun _ _ _ e=>by cases e⟩
     ·left
      funext b;exact propext ⟨fun hb=>hb.elim (fun hb=>absurd hb.1 hq) (fun hb=>hb.2),fun hb=> .inr ⟨hq,hb⟩⟩
    ·rcases hb with⟨e1,hb⟩ | ⟨e1,hb⟩
     ·rcases hb' with⟨e2,hb'⟩ | ⟨e2,hb'⟩
      ·exact Prod.ext (e1.trans e2.symm) (hdis _ _ b hb hb')
      ·exact(hno _ _ b hb hb').elim
     ·rcases hb' with⟨e2,hb'⟩ | ⟨e2,hb'⟩
      ·exact(hno _ _ b hb' hb).elim
      ·exact h3.km q q' b hb hb'
    ·rcases hb with⟨_,hb⟩ | ⟨_,hb⟩
     ·exact hown _ b hb
     ·exact h3.own q b hb
   have h5:=h4.fill d r hg (by
    rw[fp];exact hr.move (fun p x c _ hx=>hx.move (w':=w) (fun _ _ h=>h.elim) (fun _ _ h=>h.elim) (fun _ _=>rfl) (fun _ _ _ _ _ _=>rfl) (fun _ h=>h) (fun b hb=> .inl ⟨rfl,hb⟩)) (fun b _ hb=>⟨.inl ⟨rfl,hb⟩,rfl⟩))
   exact⟨jJ V d v,N2,_,h5,ha.put hdn v,fun t ht=>by rw[gZ V d v t (by omega)];exact hV t ht⟩
theorem wX (G:Good P C) (Q:bE C) {o:Oper} (hok:jU n o) (hc:(gx o.op).isSome=true) (Q':nk) (hT:Laid C B.w B.M):kL P C B n Vo Q (ae P C) Q' o:=by
 intro S a w k next hH he hnext;obtain⟨⟨f,xs⟩,hcl⟩:=Option.isSome_iff_exists.1 hc;obtain⟨c,ho,hcal,rfl⟩:=By hcl;have hp:ug o.op=none:=by rw[ho];rfl
 have hnil:oT o.op=none:=by rw[ho];rfl
 have hno:sj C S o=none:=by
  unfold sj;rw[ho];simp only[hcal]
 unfold mO at he;rw[hno]at he
 have he:pU C Q (ae P C) o S k:=by
  split at he
  ·rename_i h0;cases h0
  ·exact he
 unfold pU at he;rw[hnil]at he;simp only at he;have hna:∀S',pg C S' o.op=none:=fun S'=>by rw[ho];rfl
 have he:pZ C Q (ae P C) o S k:=by
  unfold AY at he;split at he
  ·rename_i d hd;rw[hna]at he;exact he
  ·exact he
 unfold pZ at he;rw[hp,hcl]at he;simp only at he;obtain⟨hops,hdst⟩:=hok;have hall:∀x,x∈o.op.operands.toList→aT n x=true:=List.all_eq_true.1 hops;have hfok:aT n f=true:=hall f (by rw[ho];simp[Op.operands,Call.operands,hcal]);have hxok:∀x,x∈c.args.toList→aT n x=true:=fun x hx=>hall x (by rw[ho];simp only[Op.operands,Call.operands,hcal];simp at hx;simp[hx]);obtain⟨V,N,bs,hR,ha,hV⟩:=hH;split at he
 ·rename_i g caps hev;have hfr:=iU hR ha hfok 0;rw[hev]at hfr;obtain⟨cs,hfv,hcs,hcaps⟩:=hfr;unfold oU at he;generalize hvs:(c.args.toList.map (fun x=>(bG x,ev C S 0 x))++caps.map (fun v=>((none:Option Nat),v)))=vs at he
  have hargs:∀(i:Nat) (p:Option Nat×C.PV),vs[i]? =some p→∃c' Bo,(c.args.map a.eval++cs)[i]? =some c'∧aR C (bL C S V w) (cL C S V) w N Bo p.2 c'∧(∀x b,Bo x b→∃q,p.1=some q∧bs (q,x) b)∧(∀q,p.1=some q→get S q=p.2∧V q=c'):=fun i p hp=>by
   rw[←hvs]at hp
   by_cases hi:i<c.args.size
   ·rw[List.getElem?_append_left (by simpa using hi),List.getElem?_map]at hp;cases hx:c.args.toList[i]? with
    | none=>rw[hx]at hp;cases hp
    | some x=>
      rw[hx]at hp;cases hp;have hxo:=hxok x (List.mem_of_getElem? hx);refine⟨a.eval x,Cu bs x,?_,iU hR ha hxo 0,fun y b hb=> ?_,fun q hq=> ?_⟩
      ·rw[Array.getElem?_append_left (by simpa using hi),Array.getElem?_map];have:c.args[i]? =some x:=by simpa using hx
       rw[this];rfl
      ·cases x with
       | tmp q=>exact⟨q,rfl,hb⟩
       | const v=>exact hb.elim
       | func f=>exact hb.elim
       | global g=>exact hb.elim
      ·cases x with
       | tmp q'=>cases hq;exact⟨rfl,(ha.eval (by simpa [aT]using hxo)).symm⟩
       | const v=>cases hq
       | func f=>cases hq
       | global g=>cases hq
   ·rw[List.getElem?_append_right (by simp;omega),List.getElem?_map]at hp;simp only[List.length_map,Array.length_toList]at hp;cases hx:caps[i-c.args.size]? with
    | none=>rw[hx]at hp;cases hp
    | some x=>
      rw[hx]at hp;cases hp;obtain⟨t,off,b,rfl,hX,hcv⟩:=hcaps _ x hx;refine⟨.pointer (some ⟨b,off,none⟩),fun _ _=>False,?_,⟨b,hX,rfl⟩,fun _ _ h=>h.elim,fun q hq=>by cases hq⟩;rw[Array.getElem?_append_right (by simp;omega)]
      simpa using hcv
  split at he
  ·rename_i us os0 R hus hret;split at he
   ·rename_i vals os hos;split at he
    ·rename_i hcond;simp only[Bool.and_eq_true,decide_eq_true_eq]at hcond;obtain⟨hul,hap⟩:=hcond;obtain⟨α,hK,hback⟩:=he;obtain⟨hent,hlen,hcalls⟩:=hK;obtain⟨hrel,hvl,hnests,hvals⟩:=Bc G hR hargs hus hos hul hap
     have hlu:us.length=vs.length:=(nA hR (N0:=fun _=>True) vs (c.args.map a.eval++cs).toList (fun i p hp=>by
      obtain⟨c',Bo,k1,k2,k3,k4⟩:=hargs i p hp;exact⟨c',Bo,by rw[Array.getElem?_toList];exact k1,k2,k3,k4,fun _ _=>trivial⟩) hus).2.1
     have hS0:(start C (Q.nt g) us vals).length-vals.length=Q.nt g:=by
      unfold start;simp only[List.length_append,List.length_replicate];omega
     have hsz:(c.args.map a.eval++cs).size≤Q.nt g:=by
      have:vs.length=c.args.size+caps.length:=by rw[←hvs];simp
      simp only[Array.size_append,Array.size_map];omega
     have hlaid:Laid C w (fun b=>∃r,jB C (Q.nt g) (Q.mode g) vs os V w bs r b):=⟨G.xk B.w w hT.1 (fun g' hg=>hR.kept.block g' (hT.2 g' hg).1 (hT.2 g' hg).2),fun g' hg=>⟨Nat.lt_of_lt_of_le (hT.2 g' hg).1 hR.kept.size,fun⟨r,hr⟩=>by
      have:∃q,bs q g':=hr.elim (fun h=>let⟨⟨q,_,hb⟩,_⟩:=h;⟨q,hb⟩) (fun⟨_,_,p,q,_,_,hb⟩=>⟨q,hb⟩);obtain⟨q,hb⟩:=this;rcases(hR.own q g' hb).2.2 with hm | hs
      ·exact(hT.2 g' hg).2 hm
      ·have:=(hT.2 g' hg).1;omega⟩⟩
     have hC:=hcalls w _ _ _ _ (c.args.map a.eval++cs) hlaid hrel (by rw[hS0];exact hsz) (fun t ht=>by rw[hS0]at ht;exact xe ht);rw[hS0]at hC;unfold Oper.wp;rw[nW ho hcal hfv hent,Oper.upon_enter];refine hC.mono fun e w'' he'=> ?_;cases e with
     | returned v=>
       have hafter:lJ C _ (Q.nt g) (kR C (Q.nt g) os V w (c.args.map a.eval++cs)) (R.v α) (R.rh α) v w'':=he';unfold xE at hback;split at hback
       ·rename_i hpl;split at hback
        ·rename_i S2 hout
         have hroots:∀q,q∈(vs.flatMap fun p=>aZ C p.1 p.2)→isRow (look S q)=true:=fun q hq=>by
          obtain⟨p,hp,hq⟩:=List.mem_flatMap.1 hq;obtain⟨i,hi⟩:=List.getElem?_of_mem hp;obtain⟨c',Bo,_,k2,_,k4⟩:=hargs i p hi;exact zF k2 (fun q hq=>(k4 q hq).1) q hq
         obtain⟨N2,bs2,bsr,hR2,hrr,b1,b2,b3⟩:=BJ G hR hroots hap hnests hvals (hlen.trans hvl) hafter hpl hout
         exact hnext _ _ _ hback (Holds.back hR2 ha hV hrr b1 b2 b3 hdst) (fun hmild=>by
          unfold jR at hmild;have hst:gw C (kG C S o.dst) o=false:=by unfold gw;rw[ho];simp only[hcal]
          rw[hst,hcl]at hmild;simp only[hev,Bool.false_or,Bool.and_eq_true,decide_eq_true_eq]at hmild;obtain⟨hmode,hmild⟩:=hmild;rw[hvs,hus]at hmild
          have hos0:os0=[]:=by
           split at hmild
           ·rename_i heq;exact(Prod.mk.inj (Option.some.inj heq)).2
           ·cases hmild
          subst hos0
          have hos':os=[]:=by
           have:lO C (Q.nt g) S 64 0 []=some ([],[]):=rfl;rw[this]at hos;cases hos;rfl
          subst hos';obtain⟨_,_,hAft⟩:=hafter
          exact fun b hb=>hAft.kept.block b hb (fun⟨z,hz⟩=>by
           rcases hz with⟨⟨q,⟨j,o',_,hj,_⟩,_⟩,_⟩ | ⟨_,hm,_⟩
           ·simp at hj
           ·rw[hmode]at hm;cases hm))
        ·exact hback.elim
       ·exact hback.elim
     | panicked ch=>exact he'.elim
     | outgrown=>exact he'.elim
    ·exact he.elim
   ·exact he.elim
  ·exact he.elim
 ·exact he.elim
end
end Go.Proofs.YtmapddgocpkgeaaGreat.aa
namespace Go.Proofs.YtmapddgocpkgeaaGreat.aa
open Go.RowKit
set_option linter.unusedVariables false
set_option linter.unusedSimpArgs false
variable {P:Program} {C:Ctx}
def AS (n:Nat) (o:Oper):Bool:=sC n o&&(match o.dst with
 | some d=>decide (d<n)
 | none=>true)
def j8 (n:Nat) (Q:bE C):Code→Bool
 | .region id ops dr=>ops.toList.all (AS n)&&(!dr || (match lookup id Q.iH with
   | some (brk,t)=>yl ops brk t
   | none=>false))
 | .seq a b=>j8 n Q a&&j8 n Q b
 | .cond x a b=>aT n x&&j8 n Q a&&j8 n Q b
 | .block _ c=>j8 n Q c
 | .loop c=>j8 n Q c
 | _=>true
theorem yi {n:Nat} {Q:bE C}:∀{c:Code},j8 n Q c=true→codeOk n Q c:=by
 intro c
 induction c with
 | region id ops dr=>
   intro h;simp only[j8,Bool.and_eq_true,Bool.or_eq_true,Bool.not_eq_true']at h;refine⟨fun j o ho=> ?_,fun hd=> ?_⟩
   ·have:=List.all_eq_true.1 h.1 o (by simpa using Array.mem_of_getElem? ho);simp only[AS,Bool.and_eq_true]at this;refine⟨this.1,fun d hd=> ?_⟩;have h2:=this.2;rw[hd]at h2;exact of_decide_eq_true h2
   ·rcases h.2 with h2 | h2
    ·rw[hd]at h2;cases h2
    ·split at h2
     ·rename_i brk t hl;exact⟨brk,t,hl,h2⟩
     ·cases h2
 | seq a b iha ihb=>intro h;simp only[j8,Bool.and_eq_true]at h;exact⟨iha h.1,ihb h.2⟩
 | cond x a b iha ihb=>intro h;simp only[j8,Bool.and_eq_true]at h;exact⟨h.1.1,iha h.1.2,ihb h.2⟩
 | block i c ih=>intro h;exact ih h
 | loop c ih=>intro h;exact ih h
 | _=>intro h;trivial
def Dn (fn:Func):Bool:=fn.results.toList.all fun
 | .tmp t=>decide (t<fn.ntmps)
 | .cell t _=>decide (t<fn.ntmps)
def BM (Q:bE C) (fn:Func) (c:Code):Bool:=j8 fn.ntmps Q c&&Dn fn&&distinct (ids c)&& !(fn.name== "runtime.NumGoroutine")
theorem tm (G:Good P C) (hmix:P.follows .mixedOrders=true) (Q:bE C) {f:FuncId} {fn:Func} {c:Code} (hf:P.funcs[f]? =some fn) (hb:fn.body=some c) (hok:BM Q fn c=true) {S0:St C} {no:Nat} (hlen:S0.length=fn.ntmps+no) {r:C.PV} {os:List C.PV} (hno:os.length=no)
 (JJ:Nat→Nat→St C→Prop) (hcut:∀m id S,JJ m id S→yW C Q (ae P C) (fun i S=>∃m',m'<m∧JJ m' i S) fn no id S (fun r' os'=>r'=r∧os'=os))
 (h:CS C Q (ae P C) (fun i S=>∃m,JJ m i S) fn S0 no (fun r' os'=>r'=r∧os'=os)):ae P C f S0 no r os:=by
 simp only[BM,Bool.and_eq_true,Bool.not_eq_true']at hok;obtain⟨⟨⟨hcode,hres⟩,hnd⟩,hname⟩:=hok;have hcode:=yi hcode;have hnd:=lz hnd;have hres:∀t,ResultVar.tmp t∈fn.results.toList→t<fn.ntmps:=fun t ht=>of_decide_eq_true (List.all_eq_true.1 hres _ ht);refine⟨⟨fn,hf,by rw[hb];rfl,hname⟩,hno,fun w M N V bs args hT hrel hargs hV=> ?_⟩;have hn:S0.length-no=fn.ntmps:=by omega
 rw[hn]at hargs hV⊢;have G0:xn P C ⟨w,M,N⟩ fn.ntmps V Q (ae P C):=⟨G,hmix,fun o ho hc Q'=>wX G Q ho hc Q' hT,fun w1 hk o ho hc Q'=>wX G Q ho hc Q' ⟨G.xk w w1 hT.1 (fun g hg=>hk.block g (hT.2 g hg).1 (hT.2 g hg).2),fun g hg=>⟨Nat.lt_of_lt_of_le (hT.2 g hg).1 hk.size,fun h=>h⟩⟩⟩;refine calls_of_wp hf hb ?_
 generalize hR:(fun e w'=>match e with
  | .returned v=>lJ C ⟨w,M,N⟩ fn.ntmps V r os v w'
  | _=>False:Ending→World→Prop)=R
 have hend:xU C ⟨w,M,N⟩ fn.ntmps V (atEnd C Q fn no (fun r' os'=>r'=r∧os'=os)) (bodyPost P fn R):=by
  have fin:∀(e:Ex) (S:St C) (a:Act) (w1:World),(∀i,e≠ .exit i)→atEnd C Q fn no (fun r' os'=>r'=r∧os'=os) e S→Holds C ⟨w,M,N⟩ fn.ntmps V S a w1→a.defers=[]∧∃v,(results fn a.tmps).run P w1= .ok v w1∧R (.returned v) w1:=fun e S a w1 hne he hh=>by
   obtain⟨r',os',⟨rfl,rfl⟩,_,hd,v,hr,hA⟩:=Ba (P:=P) G.ty hh hres hne he;exact⟨hd,v,hr,by rw[←hR];exact hA⟩
  refine⟨fun S a w1 hk hh=>fin .normal S a w1 (fun i e=>by cases e) hk hh,fun id S a w1 hk hh=>hk.elim,fun S a w1 hk hh=>fin .ret S a w1 (fun i e=>by cases e) hk hh,fun c d v a w1 hq=> ?_⟩;obtain⟨_,hq⟩:_∧R (.panicked c) w1:=hq;rw[←hR]at hq;exact hq.elim
 have hJ:∀m id S,JJ m id S→∀a w1,Holds C ⟨w,M,N⟩ fn.ntmps V S a w1→∀ops dr Qi,fT P id c (bodyPost P fn R)=some (ops,dr,Qi)→(Code.region id ops dr).wp P Qi a w1:=by
  intro m
  induction m using Nat.strongRecOn with
  | ind m ih=>
    intro id S hj a w1 hh ops dr Qi hpost;have hc:=hcut m id S hj;unfold yW at hc;rw[hb]at hc;simp only at hc;split at hc
    ·rename_i ops' dr' ki hfind;obtain⟨Qi',hp',hk',hok'⟩:=yI G0 (fun i S=>∃m',m'<m∧JJ m' i S) c (bodyPost P fn R) (fun id' S' ⟨m',hm',hj'⟩=>ih m' hm' id' S' hj') id c _ (bodyPost P fn R) hcode hnd (fun _ _ h=>h) hend hfind;rw[hpost]at hp';cases hp';exact rE G0 hok' (fun S a w hks h'=>hk'.normal S a w hks h') hk'.panic hh hc
    ·exact hc.elim
 unfold CS at h;rw[hb]at h;refine rA G0 (fun i S=>∃m,JJ m i S) c (bodyPost P fn R) (fun id S ⟨m,hj⟩=>hJ m id S hj) c _ (bodyPost P fn R) hcode hnd (fun _ _ h=>h) hend h ⟨V,N,bs,hrel,⟨?_,fun t ht=> ?_,rfl⟩,fun _ _=>rfl⟩
 ·simp;omega
 ·rw[hV t ht]
  by_cases hlt:t<args.size
  ·rw[Array.getElem?_append_left hlt,Array.getD_eq_getD_getElem?,Array.getElem?_eq_getElem hlt];rfl
  ·rw[Array.getElem?_append_right (by omega),Array.getElem?_replicate,if_pos (by omega),Array.getD_eq_getD_getElem?,Array.getElem?_eq_none (by omega)];rfl
end Go.Proofs.YtmapddgocpkgeaaGreat.aa
namespace Go.Proofs.YtmapddgocpkgeaaGreat.aa
open Go.RowKit
set_option linter.unusedVariables false
set_option linter.unusedSimpArgs false
def Df:List (Nat×(Σ T:Type,T))→Nat→Σ T:Type,T
 | [],_=>⟨Unit,()⟩
 | (a,v)::l,e=>if a=e then v else Df l e
def C1 {β:Nat→Type} (dflt:∀e,β e):List (Σ e,β e)→∀e,β e
 | [],e=>dflt e
 | ⟨a,v⟩::l,e=>if h:a=e then h▸v else C1 dflt l e
structure Told (A:Type) where
 f:Option A
 K:A→Prop
 ok:∀a,f=some a→K a
inductive Tr (X R:Type):Type 1
 | ret (r:R)
 | ite (b:Bool) (t e:Tr X R)
 | aC (p:Prop) [d:Decidable p] (t:Tr X R)
 | call {A:Type} (T:Told A) (t:A→Tr X R)
 | jump (x:X)
 | both (t e:Tr X R)
 | last (t:Tr X R)
 | wq {A:Type} (xs:List A) (t e:Tr X R)
 | val {A:Type} (a:A) (t:A→Tr X R)
 | fail
structure Self (I A:Type) (K:I→A→Prop) where
 f:I→Option A
 ok:∀i a,f i=some a→K i a
def Self.told {I A:Type} {K:I→A→Prop} (s:Self I A K) (i:I):Told A:=⟨s.f i,K i,s.ok i⟩
def Self.iter {I A:Type} {K:I→A→Prop} (step:Self I A K→Self I A K):Nat→Self I A K
 | 0=>⟨fun _=>none,fun _ _ h=>by cases h⟩
 | n+1=>step (Self.iter step n)
noncomputable def both {R:Type} (a b:Option R):Option R:=a.bind fun x=>b.bind fun y=>by classical exact if x=y then some x else none
theorem lj {R:Type} {a b:Option R} {r:R} (h:both a b=some r):a=some r∧b=some r:=by
 classical
 unfold both at h;cases a with
 | none=>cases h
 | some x=>
   cases b with
   | none=>cases h
   | some y=>
     simp only[Option.bind_some]at h;split at h
     ·rename_i e;cases h;subst e;exact⟨rfl,rfl⟩
     ·cases h
theorem cB {R:Type} (a:Option R):both a a=a:=by
 classical
 unfold both;cases a<;>simp
namespace Tr
variable {X R:Type}
noncomputable def run (rec:X→Option R):Tr X R→Option R
 | .ret r=>some r
 | .ite b t e=>if b=true then run rec t else run rec e
 | @Tr.aC _ _ p d t=> @_root_.ite (Option R) p d (run rec t) none
 | .call T t=>T.f.bind fun a=>run rec (t a)
 | .jump x=>rec x
 | .both t e=>aa.both (run rec t) (run rec e)
 | .last t=>run rec t
 | .wq xs t e=>if xs.isEmpty=true then aa.both (run rec t) (run rec e)else run rec e
 | .val a t=>run rec (t a)
 | .fail=>none
def tS (J:X→Prop) (K:R→Prop):Tr X R→Prop
 | .ret r=>K r
 | .ite b t e=>if b=true then tS J K t else tS J K e
 | @Tr.aC _ _ p _ t=>p∧tS J K t
 | .call T t=>∃a,T.K a∧tS J K (t a)
 | .jump x=>J x
 | .both t e=>tS J K t∧tS J K e
 | .last t=>tS J K t∧True
 | .wq xs t e=>(xs=[]→tS J K t)∧tS J K e
 | .val a t=>tS J K (t a)
 | .fail=>False
theorem sound {rec:X→Option R} {J:X→Prop} {r:R} (hJ:∀x,rec x=some r→J x):∀(t:Tr X R),run rec t=some r→tS J (fun r'=>r'=r) t:=by
 intro t
 induction t with
 | ret r'=>intro h;exact Option.some.inj h
 | ite b t e iht ihe=>
   intro h;unfold run at h;unfold tS;split
   ·rename_i hb;rw[if_pos hb]at h;exact iht h
   ·rename_i hb;rw[if_neg hb]at h;exact ihe h
 | @aC p d t ih=>
   intro h;unfold run at h;split at h
   ·rename_i hp;exact⟨hp,ih h⟩
   ·cases h
 | call T t ih=>
   intro h;unfold run at h;cases hf:T.f with
   | none=>rw[hf]at h;cases h
   | some a=>rw[hf]at h;exact⟨a,T.ok a hf,ih a h⟩
 | jump x=>intro h;exact hJ x h
 | both t e iht ihe=>intro h;obtain⟨h1,h2⟩:=lj h;exact⟨iht h1,ihe h2⟩
 | last t ih=>intro h;exact⟨ih h,trivial⟩
 | wq xs t e iht ihe=>
   intro h;unfold run at h;split at h
   ·obtain⟨h1,h2⟩:=lj h;exact⟨fun _=>iht h1,ihe h2⟩
   ·rename_i hne;exact⟨fun hx=>absurd (by rw[hx];rfl) hne,ihe h⟩
 | val a t ih=>intro h;exact ih a h
 | fail=>intro h;cases h
end Tr
noncomputable def go {X R:Type} (tree:X→Tr X R):Nat→X→Option R
 | 0,_=>none
 | k+1,x=>(tree x).run (go tree k)
namespace Tr
variable {X R:Type}
theorem Ea (rec:X→Option R) (r:R):run rec (.ret r)=some r:=rfl
theorem run_ite (rec:X→Option R) (b:Bool) (t e:Tr X R):run rec (.ite b t e)=if b=true then run rec t else run rec e:=rfl
theorem uO (rec:X→Option R) (p:Prop) [Decidable p] (t:Tr X R):run rec (.aC p t)=if p then run rec t else none:=rfl
theorem nW (rec:X→Option R) {A:Type} (T:Told A) (t:A→Tr X R):run rec (.call T t)=T.f.bind fun a=>run rec (t a):=rfl
theorem D5 (rec:X→Option R) (x:X):run rec (.jump x)=rec x:=rfl
theorem yF (rec:X→Option R) (t e:Tr X R):run rec (.both t e)=aa.both (run rec t) (run rec e):=rfl
theorem DZ (rec:X→Option R) (t:Tr X R):run rec (.last t)=run rec t:=rfl
theorem qQ (rec:X→Option R) {A:Type} (xs:List A) (t e:Tr X R):run rec (.wq xs t e)=if xs.isEmpty=true then aa.both (run rec t) (run rec e)else run rec e:=rfl
theorem Ed (rec:X→Option R) {A:Type} (a:A) (t:A→Tr X R):run rec (.val a t)=run rec (t a):=rfl
theorem DP (rec:X→Option R):run rec (.fail:Tr X R)=none:=rfl
theorem mF {rec rec':X→Option R} (h:∀x r,rec x=some r→rec' x=some r):∀(t:Tr X R) {r:R},run rec t=some r→run rec' t=some r:=by
 intro t
 induction t with
 | ret r'=>intro r h';exact h'
 | ite b t e iht ihe=>
   intro r h';rw[run_ite]at h'⊢;split at h'
   ·rename_i hb;rw[if_pos hb];exact iht h'
   ·rename_i hb;rw[if_neg hb];exact ihe h'
 | @aC p d t ih=>
   intro r h';rw[uO]at h'⊢;split at h'
   ·rename_i hp;rw[if_pos hp];exact ih h'
   ·cases h'
 | call T t ih=>
   intro r h';rw[nW]at h'⊢;cases hf:T.f with
   | none=>rw[hf]at h';cases h'
   | some a=>rw[hf]at h';exact ih a h'
 | jump x=>intro r h';exact h x r h'
 | both t e iht ihe=>
   intro r h';obtain⟨h1,h2⟩:=lj h';rw[yF,iht h1,ihe h2,cB]
 | last t ih=>intro r h';exact ih h'
 | wq xs t e iht ihe=>
   intro r h';rw[qQ]at h'⊢;split at h'
   ·rename_i hx;obtain⟨h1,h2⟩:=lj h';rw[if_pos hx,iht h1,ihe h2,cB]
   ·rename_i hx;rw[if_neg hx];exact ihe h'
 | val a t ih=>intro r h';exact ih a h'
 | fail=>intro r h';cases h'
end Tr
section Lp
variable {X R:Type} {tree:X→Tr X R}
theorem go_succ:∀(n:Nat) {x:X} {r:R},go tree n x=some r→go tree (n+1) x=some r:=by
 intro n
 induction n with
 | zero=>intro x r h;cases h
 | succ n ih=>intro x r h;exact Tr.mF (fun x r=>ih) (tree x) h
theorem pc {n m:Nat} (hnm:n≤m) {x:X} {r:R} (h:go tree n x=some r):go tree m x=some r:=by
 induction hnm with
 | refl=>exact h
 | step _ ih=>exact go_succ _ ih
noncomputable def lp (tree:X→Tr X R) (x:X):Option R:=by classical exact if h:∃r n,go tree n x=some r then some (Classical.choose h)else none
theorem yn {x:X} {r:R} (h:lp tree x=some r):∃n,go tree n x=some r:=by
 unfold lp at h;split at h
 ·rename_i hr;obtain⟨n,hn⟩:=Classical.choose_spec hr;exact⟨n,hn.trans h⟩
 ·cases h
theorem yY {n:Nat} {x:X} {r:R} (h:go tree n x=some r):lp tree x=some r:=by
 have hr:∃r n,go tree n x=some r:=⟨r,n,h⟩;unfold lp;rw[dif_pos hr];obtain⟨m,hm⟩:=Classical.choose_spec hr;have h1:=pc (Nat.le_max_left n m) h;have h2:=pc (Nat.le_max_right n m) hm;exact h2.symm.trans h1
theorem wV:∀(t:Tr X R) {r:R},Tr.run (lp tree) t=some r→∃n,Tr.run (go tree n) t=some r:=by
 intro t
 induction t with
 | ret r'=>intro r h';exact⟨0,h'⟩
 | ite b t e iht ihe=>
   intro r h';rw[Tr.run_ite]at h';split at h'
   ·rename_i hb;obtain⟨n,hn⟩:=iht h';exact⟨n,by rw[Tr.run_ite,if_pos hb];exact hn⟩
   ·rename_i hb;obtain⟨n,hn⟩:=ihe h';exact⟨n,by rw[Tr.run_ite,if_neg hb];exact hn⟩
 | @aC p d t ih=>
   intro r h';rw[Tr.uO]at h';split at h'
   ·rename_i hp;obtain⟨n,hn⟩:=ih h';exact⟨n,by rw[Tr.uO,if_pos hp];exact hn⟩
   ·cases h'
 | call T t ih=>
   intro r h';rw[Tr.nW]at h';cases hf:T.f with
   | none=>rw[hf]at h';cases h'
   | some a=>
     rw[hf]at h';obtain⟨n,hn⟩:=ih a h';exact⟨n,by rw[Tr.nW,hf];exact hn⟩
 | jump x=>intro r h';exact yn h'
 | both t e iht ihe=>
   intro r h';obtain⟨h1,h2⟩:=lj h';obtain⟨n,hn⟩:=iht h1;obtain⟨m,hm⟩:=ihe h2;exact⟨max n m,by rw[Tr.yF,Tr.mF (fun x r=>pc (Nat.le_max_left n m)) t hn,Tr.mF (fun x r=>pc (Nat.le_max_right n m)) e hm,cB]⟩
 | last t ih=>intro r h';exact ih h'
 | wq xs t e iht ihe=>
   intro r h';rw[Tr.qQ]at h';split at h'
   ·rename_i hx;obtain⟨h1,h2⟩:=lj h';obtain⟨n,hn⟩:=iht h1;obtain⟨m,hm⟩:=ihe h2;exact⟨max n m,by rw[Tr.qQ,if_pos hx,Tr.mF (fun x r=>pc (Nat.le_max_left n m)) t hn,Tr.mF (fun x r=>pc (Nat.le_max_right n m)) e hm,cB]⟩
   ·rename_i hx;obtain⟨n,hn⟩:=ihe h';exact⟨n,by rw[Tr.qQ,if_neg hx];exact hn⟩
 | val a t ih=>intro r h';exact ih a h'
 | fail=>intro r h';cases h'
theorem aB (tree:X→Tr X R) (x:X):lp tree x=(tree x).run (lp tree):=by
 cases h:(tree x).run (lp tree)with
 | some r=>
   obtain⟨n,hn⟩:=wV _ h;exact yY (n:=n+1) hn
 | none=>
   cases h':lp tree x with
   | none=>rfl
   | some r=>
     obtain⟨n,hn⟩:=yn h';cases n with
     | zero=>cases hn
     | succ n=>
       rw[Tr.mF (fun x r=>yY) (tree x) hn]at h;cases h
end Lp
section ways
variable (C:Ctx)
def Ord.ways:Ord→List Nat×List (Nat×Ord)
 | .take i _ t=>(i::t.ways.1,t.ways.2)
 | .alt i t o=>([],(i,t)::o.ways.2)
 | _=>([],[])
def BQ (ops:Array Oper):List Nat→St C→St C
 | [],S=>S
 | i::is,S=>BQ ops is (match ops[i]? with
   | some o=>(match o.dst with
     | some d=>(match nS C (clear S d) d o with
       | some (none,S')=>S'
       | _=>S)
     | none=>S)
   | none=>S)
def xz (Q:bE C) (K:iR C) (J:Nat→St C→Prop) (fn:Func) (no id n:Nat) (S:St C) (R:C.PV→List C.PV→Prop):Prop:=
 match fn.body with
 | some c=>match kU C Q K J id c (atEnd C Q fn no R)with
   | some (ops,_,k)=>match lookup id Q.iH with
     | some (brk,t)=>match t.ways.2[n]? with
       | some (i,u)=>match ops[i]? with
         | some o=>ky C Q K (fun S=>brk.contains i || jR C Q S o) o ops (BQ C ops t.ways.1 S) (fun S'=>kN C Q K ops brk u S' (k .normal))
         | none=>False
       | none=>False
     | none=>False
   | none=>False
 | none=>False
end ways
variable {P:Program} {C:Ctx}
abbrev df (P:Program) (C:Ctx) (Q:bE C) (fn:Func) (no:Nat) {X R:Type} (id:X→Nat) (st:X→St C) (v:R→C.PV) (rh:R→List C.PV) (tree:X→Tr X R):Prop:=
 ∀(J:Nat→St C→Prop) (K:C.PV→List C.PV→Prop) (x:X),Tr.tS (fun x=>J (id x) (st x)) (fun r=>K (v r) (rh r)) (tree x)=yW C Q (ae P C) J fn no (id x) (st x) K
abbrev vM (P:Program) (C:Ctx) (Q:bE C) (fn:Func) (no:Nat) {X R:Type} (id:X→Nat) (st:X→St C) (v:R→C.PV) (rh:R→List C.PV) (S0:St C) (begin:Tr X R):Prop:=
 ∀(J:Nat→St C→Prop) (K:C.PV→List C.PV→Prop),Tr.tS (fun x=>J (id x) (st x)) (fun r=>K (v r) (rh r)) begin=CS C Q (ae P C) J fn S0 no K
theorem gK (G:Good P C) (hmix:P.follows .mixedOrders=true) (Q:bE C) {f:FuncId} {fn:Func} {c:Code} (hf:P.funcs[f]? =some fn) (hb:fn.body=some c) (hok:BM Q fn c=true) {S0:St C} {no:Nat} (hlen:S0.length=fn.ntmps+no)
 {X R:Type} (id:X→Nat) (st:X→St C) (v:R→C.PV) (rh:R→List C.PV) (hno:∀r,(rh r).length=no) (tree:X→Tr X R)
 (hcut:∀(J:Nat→St C→Prop) (K:C.PV→List C.PV→Prop) x,Tr.tS (fun x=>J (id x) (st x)) (fun r=>K (v r) (rh r)) (tree x)=yW C Q (ae P C) J fn no (id x) (st x) K)
 (begin:Tr X R) (hbeg:∀(J:Nat→St C→Prop) (K:C.PV→List C.PV→Prop),Tr.tS (fun x=>J (id x) (st x)) (fun r=>K (v r) (rh r)) begin=CS C Q (ae P C) J fn S0 no K) {r:R} (hr:begin.run (lp tree)=some r):ae P C f S0 no (v r) (rh r):=by
 obtain⟨k,h⟩:=wV begin hr
 have mono:∀{J J':X→Prop} (t:Tr X R),(∀x,J x→J' x)→Tr.tS J (fun r'=>r'=r) t→Tr.tS J' (fun r'=>v r'=v r∧rh r'=rh r) t:=by
  intro J J' t hJ
  induction t with
  | ret r'=>intro h;exact⟨by rw[show r'=r from h],by rw[show r'=r from h]⟩
  | ite b t e iht ihe=>
    intro h;unfold Tr.tS at h⊢;split
    ·rename_i hb;rw[if_pos hb]at h;exact iht h
    ·rename_i hb;rw[if_neg hb]at h;exact ihe h
  | @aC p d t ih=>intro h;exact⟨h.1,ih h.2⟩
  | call T t ih=>intro h;obtain⟨a,h1,h2⟩:=h;exact⟨a,h1,ih a h2⟩
  | jump x=>intro h;exact hJ x h
  | both t e iht ihe=>intro h;exact⟨iht h.1,ihe h.2⟩
  | last t ih=>intro h;exact⟨ih h.1,trivial⟩
  | wq xs t e iht ihe=>intro h;exact⟨fun hx=>iht (h.1 hx),ihe h.2⟩
  | val a t ih=>intro h;exact ih a h
  | fail=>intro h;exact h
 refine tm G hmix Q hf hb hok hlen (hno r) (fun m i S=>∃x,i=id x∧S=st x∧go tree m x=some r) (fun m i S ⟨x,hi,hS,hx⟩=> ?_) ?_
 ·subst hi;subst hS;cases m with
  | zero=>cases hx
  | succ m=>
    rw[←hcut];exact mono _ (fun x h=>h) (Tr.sound (J:=fun x'=>∃m',m'<m+1∧∃x,id x'=id x∧st x'=st x∧go tree m' x=some r) (fun x' hx'=>⟨m,Nat.lt_succ_self m,x',rfl,rfl,hx'⟩) _ hx)
 ·rw[←hbeg];exact mono _ (fun x h=>h) (Tr.sound (J:=fun x'=>∃m',∃x,id x'=id x∧st x'=st x∧go tree m' x=some r) (fun x' hx'=>⟨k,x',rfl,rfl,hx'⟩) _ h)
end Go.Proofs.YtmapddgocpkgeaaGreat.aa
namespace Go.Proofs.YtmapddgocpkgeaaGreat.aa
open Go.RowKit
set_option linter.unusedVariables false
set_option linter.unusedSimpArgs false
structure Dg (U:gm) (e:TypeId) where
 enc:U.T e→PV U
 dec:PV U→Option (U.T e)
def DQ {U:gm}:PV U→Bool
 | .int .. =>true
 | .bool _=>true
 | .str _=>true
 | .sl .. =>true
 | _=>false
def BS {U:gm}:PV U→Bool
 | .sl .. =>true
 | _=>false
structure CV {U:gm} (e:TypeId) (E:Dg U e):Prop where
 len:∀x,(leaves (E.enc x)).length=(leaves (E.enc (U.d e))).length
 leaf:∀x,(leaves (E.enc x)).all DQ=true
 flat:∀x,(leaves (E.enc x)).any BS=(leaves (E.enc (U.d e))).any BS
 dec:∀v y,E.dec v=some y→E.enc y=v
def AA (U:gm) (e:TypeId):Dg U e:=⟨fun _=> .bool false,fun _=>none⟩
theorem CO {U:gm} (e:TypeId):CV e (AA U e):=⟨fun _=>rfl,fun _=>rfl,fun _=>rfl,fun _ _ h=>by cases h⟩
theorem u6 {β:Nat→Type} {dflt:∀e,β e} (Pr:∀e,β e→Prop) (hd:∀e,Pr e (dflt e)):∀(l:List (Σ e,β e)),(∀p,p∈l→Pr p.1 p.2)→∀e,Pr e (C1 dflt l e)
 | [],_,e=>hd e
 | ⟨a,v⟩::l,h,e=>by
   unfold C1;split
   ·rename_i hae;subst hae;exact h ⟨a,v⟩ (by simp)
   ·exact u6 Pr hd l (fun p hp=>h p (by simp[hp])) e
theorem nx {α:Type _} {k:Nat} {v:α}:∀{l:List (Nat×α)},lookup k l=some v→(k,v)∈l
 | [],h=>by cases h
 | (i,w)::l,h=>by
   unfold lookup at h;split at h
   ·rename_i e;cases h;subst e;simp
   ·exact List.mem_cons_of_mem _ (nx h)
def vR {α:Type _} (p:α→Prop):List α→Prop
 | []=>True
 | x::xs=>p x∧vR p xs
theorem vR.mem {α:Type _} {p:α→Prop}:∀{l:List α},vR p l→∀x,x∈l→p x
 | [],_,x,h=>by simp at h
 | y::l,h,x,hx=>by
   rcases List.mem_cons.1 hx with rfl | hx
   ·exact h.1
   ·exact h.2.mem x hx
variable {P:Program} {C:Ctx}
def xl {U:gm}:PV U→Value→Bool
 | .int k n,.int k' m=>decide (k=k')&&decide (n=m)
 | .bool b,.bool c=>b==c
 | .str s,.string s'=>decide (s.data.toList=s'.data.toList)
 | .own true _ [],.slice none 0 0=>true
 | .sl _ [],.slice none 0 0=>true
 | .undef,v=>v.oneCell'
 | _,_=>false
theorem xj {v:C.PV} {u:Value} (h:xl v u=true):ic C v u:=by
 unfold xl at h;split at h
 ·simp only[Bool.and_eq_true,decide_eq_true_eq]at h;obtain⟨rfl,rfl⟩:=h;exact .int _ _
 ·simp only[beq_iff_eq]at h;subst h;exact .bool _
 ·rename_i s s';have h:=of_decide_eq_true h
  have:s=s':=by
   cases s;cases s';simp only at h;rw[Array.toList_inj.1 h]
  subst this;exact .str _
 ·exact .own _
 ·exact .sl _
 ·exact .undef _ h
 ·cases h
def rP {U:gm}:List (PV U)→List Value→Bool
 | [],[]=>true
 | v::vs,u::us=>xl v u&&rP vs us
 | _,_=>false
theorem lX:∀{vs:List C.PV} {us:List Value},rP vs us=true→us.length=vs.length∧∀(i:Nat) (v:C.PV),vs[i]? =some v→∃u,us[i]? =some u∧ic C v u
 | [],[],_=>⟨rfl,fun i v h=>by simp at h⟩
 | [],_::_,h=>by cases h
 | _::_,[],h=>by cases h
 | v::vs,u::us,h=>by
   simp only[rP,Bool.and_eq_true]at h;obtain⟨h1,h2⟩:=lX h.2;refine⟨by simp[h1],fun i x hx=> ?_⟩;cases i with
   | zero=>cases hx;exact⟨u,rfl,xj h.1⟩
   | succ i=>exact h2 i x hx
theorem kp {t:TypeId} {z:Value} {n:Nat} (h:(P.info? t).map (fun i=>(i.zero,i.size))=some (some z,n)):oA P t z n:=by
 cases hi:P.info? t with
 | none=>rw[hi]at h;cases h
 | some i=>
   rw[hi]at h;simp only[Option.map_some,Option.some.injEq,Prod.mk.injEq]at h;exact⟨i,hi,h.1,h.2⟩
theorem uB {t:TypeId} {k:IntKind} (h:P.underlying t=some (.int k)) (hz:(P.info? t).map (fun i=>(i.zero,i.size))=some (some (.int k 0),1)):jy P C t (.int k):= .int k h (kp hz)
theorem BF {t:TypeId} (h:P.underlying t=some .bool) (hz:(P.info? t).map (fun i=>(i.zero,i.size))=some (some (.bool false),1)):jy P C t .bool:= .bool h (kp hz)
theorem D3 {t:TypeId} (h:P.underlying t=some .string) (hz:(P.info? t).map (fun i=>(i.zero,i.size))=some (some (.string .empty),1)):jy P C t .str:= .str h (kp hz)
theorem iL {t e:TypeId} (h:P.underlying t=some (.slice e)) (hz:(P.info? t).map (fun i=>(i.zero,i.size))=some (some (.slice none 0 0),1)):jy P C t (.slice e):= .slice e h (kp hz)
theorem dY {t:TypeId} {fs:List (Nat×TypeId)} {zs:List C.PV} (cs:Array Value) (h:P.underlying t=some (.struct (P.fieldsOf t))) (hf:(P.fieldsOf t).toList.map (fun f=>(f.offset,f.type))=fs) (hz:(P.info? t).map (fun i=>(i.zero,i.size))=some (some (.agg cs),zs.length)) (hc:rP zs cs.toList=true)
 (hp:((P.fieldsOf t).toList.mapM (fun f=>(P.info? f.type).map fun i=>(f.offset,i.size))).isSome=true):jy P C t (.struct fs zs):=by
 obtain⟨h1,h2⟩:=lX hc
 exact .struct fs zs _ cs h hf (kp hz) (by simpa using h1) (fun i v hi=>by
  obtain⟨u,hu,hk⟩:=h2 i v hi;exact⟨u,by simpa using hu,hk⟩) hp
theorem lG {t e:TypeId} (h:P.underlying t=some (.pointer e)) (hz:(P.info? t).map (fun i=>(i.zero,i.size))=some (some (.pointer none),1)):jy P C t .ptr:= .ptr e h (kp hz)
theorem B9 {t e:TypeId} {n:Nat} {zs:List C.PV} (cs:Array Value) (h:P.underlying t=some (.array n e)) (hn:zs.length=n) (hb:P.underlying e=some .bool) (he:(P.info? e).map (fun i=>i.size)=some 1) (hz:(P.info? t).map (fun i=>(i.zero,i.size))=some (some (.agg cs),zs.length)) (hc:rP zs cs.toList=true):jy P C t (.arr n e zs):=by
 obtain⟨h1,h2⟩:=lX hc
 have he':∃i,P.info? e=some i∧i.size=1:=by
  cases hi:P.info? e with
  | none=>rw[hi]at he;cases he
  | some i=>rw[hi]at he;exact⟨i,rfl,by simpa using he⟩
 exact .arr n e zs cs h hn ⟨hb,he'⟩ (kp hz) (by simpa using h1) (fun i v hi=>by
  obtain⟨u,hu,hk⟩:=h2 i v hi;exact⟨u,by simpa using hu,hk⟩)
def jD (P:Program) (C:Ctx) (e:TypeId):Prop:=
 (∀x T,C.ty e=some T→T.isAgg=true→∃ls,C.enc e x= .agg ls)∧
 ∃i z,P.info? e=some i∧i.zero=some z∧i.size=C.sz e∧i.bytes=C.bytes e∧z.cells.size=C.sz e∧0<C.sz e∧0<C.bytes e∧∀(i:Nat) (v:C.PV),(leaves (C.enc e (C.U.d e)))[i]? =some v→∃u:Value,z.cells[i]? =some u∧ic C v u
theorem iP {e:TypeId} (z:Value) (n b:Nat) (ha:∀x T,C.ty e=some T→T.isAgg=true→∃ls,C.enc e x= .agg ls) (h:(P.info? e).map (fun i=>(i.zero,i.size,i.bytes))=some (some z,n,b)) (hs:C.sz e=n) (hb:C.bytes e=b) (h0:0<n) (hb0:0<b) (hz:rP (leaves (C.enc e (C.U.d e))) z.cells.toList=true):jD P C e:=by
 refine⟨ha,?_⟩;cases hi:P.info? e with
 | none=>rw[hi]at h;cases h
 | some i=>
   rw[hi]at h;simp only[Option.map_some,Option.some.injEq,Prod.mk.injEq]at h;obtain⟨h1,h2⟩:=lX hz;refine⟨i,z,rfl,h.1,h.2.1.trans hs.symm,h.2.2.trans hb.symm,?_,by omega,by omega,fun j v hj=> ?_⟩
   ·have:z.cells.toList.length=(leaves (C.enc e (C.U.d e))).length:=h1
    simpa [Ctx.sz]using this
   ·obtain⟨u,hu,hk⟩:=h2 j v hj;exact⟨u,by simpa using hu,hk⟩
def Cv (P:Program) (t:TypeId) (n:Nat):Prop:=∀(ps:List (IntKind×Int×Int)) (w:World),ps.length=n→
    (Op.equal t (.agg (ps.map fun p=>Value.int p.1 p.2.1).toArray) (.agg (ps.map fun p=>Value.int p.1 p.2.2).toArray)).run P w= .ok (ps.all fun p=>decide (p.2.1=p.2.2)) w∧P.eqGuardType P.depth t=false
section
variable {d:Nat} {xs ys:Array Value} {f:Field} {fs:List Field} {a b:Value} {r s:Bool} {w:World}
theorem xf {t:TypeId} {fs:Array Field} (hu:P.underlying t=some (.struct fs)) (hp:P.stoodInHeld t=false) (h:(Op.eqFields d xs ys fs.toList).run P w= .ok r w):(Op.equalIn (d+1) t (.agg xs) (.agg ys)).run P w= .ok r w:=by
 have hf:P.fieldsOf t=fs:=by simp[Program.fieldsOf,hu]
 rw[run_equalIn_struct (P:=P) w d t xs ys (by rw[hf];exact hu) hp,hf];exact h
theorem eq_nil:(Op.eqFields d xs ys []).run P w= .ok true w:=by simp[Op.eqFields]
theorem nv (hn:(f.name== "_")=false) (ha:(Go.part f.type xs f.offset).run P w= .ok a w) (hb:(Go.part f.type ys f.offset).run P w= .ok b w) (he:(Op.equalIn d f.type a b).run P w= .ok r w) (hr:(Op.eqFields d xs ys fs).run P w= .ok s w):(Op.eqFields d xs ys (f::fs)).run P w= .ok (r&&s) w:=by
 have hn':f.name≠ "_" :=by simpa using hn
 rw[Op.eqFields];simp only[if_pos hn',Sem.run_bind,ha,hb,he,Result.andThen_ok];cases r
 ·simp
 ·simpa using hr
end
theorem CT {U:gm} {xk:List (Σ e,Dg U e)} {sV:List (Nat×Ty U)} {ov:List (Nat×Nat)} {uE:List (Nat×Nat)} {yA:List Nat} {T:World→Prop} (hC:C=⟨U,fun e=>(C1 (AA U) xk e).enc,fun e=>(C1 (AA U) xk e).dec,fun t=>lookup t sV,fun e=>(lookup e ov).getD 0,fun t=>lookup t uE,yA,T⟩)
 (hel:vR (fun p:Σ e,Dg U e=>CV p.1 p.2) xk) (hty:vR (fun p:Nat×Ty C.U=>jy P C p.1 p.2) (hC▸sV:List (Nat×Ty C.U))) (hsl:∀t e,C.ty t=some (.slice e)→jD P C e) (heq:vR (fun p:Nat×Nat=>Cv P p.1 p.2) uE) (hT:∀w w':World,T w→(∀g,g∈yA→w'.heap[g]? =w.heap[g]?)→T w'):Good P C:=by
 subst hC;have hall:=u6 (β:=Dg U) (dflt:=AA U) (fun e E=>CV e E) CO xk (fun p hp=>hel.mem p hp);refine⟨fun t T h=>hty.mem _ (nx h),fun e x=>(hall e).len x,fun e x v hv=> ?_,fun t e x T h1 h2 h3=>(hsl t e h1).1 x T h2 h3,fun e hd x v hv f ys hvf=> ?_,fun e v y h=>(hall e).dec v y h,fun t e h=>(hsl t e h).2,fun t n h ps w hl=>heq.mem _ (nx h) ps w hl,hT⟩
 ·have:=List.all_eq_true.1 ((hall e).leaf x) v hv;cases v with
  | int k n=>exact .inl ⟨k,n,rfl⟩
  | bool b=>exact .inr (.inl ⟨b,rfl⟩)
  | str s=>exact .inr (.inr (.inl ⟨s,rfl⟩))
  | sl f ys=>exact .inr (.inr (.inr ⟨f,ys,rfl⟩))
  | _=>cases this
 ·have h1:=(hall e).flat x
  have h2:(leaves ((C1 (AA U) xk e).enc (U.d e))).any BS=false:=by
   unfold gp at hd;rw[←hd];congr 1;funext v;cases v<;>rfl
  rw[h2]at h1;have:=List.any_eq_false.1 h1 v hv;subst hvf;exact this rfl
end Go.Proofs.YtmapddgocpkgeaaGreat.aa
namespace Go.Proofs.YtmapddgocpkgeaaGreat.aa
open Go.RowKit
set_option linter.unusedVariables false
set_option linter.unusedSimpArgs false
variable {P:Program} {C:Ctx}
theorem lI {args:Array Value} {c:Value} (h:args.size≤1) (hc:c=args.getD 0 undef) (hu:c≠undef):args= #[c]:=by
 have h1:args.size=1:=by
  rcases Nat.lt_or_ge args.size 1 with h0 | h0
  ·exfalso;apply hu;rw[hc,Array.getD_eq_getD_getElem?,Array.getElem?_eq_none (by omega)];rfl
  ·omega
 apply Array.ext
 ·simp[h1]
 ·intro i h2 h3;have:i=0:=by simp at h3;omega
  subst this;rw[hc,Array.getD_eq_getD_getElem?,Array.getElem?_eq_getElem h2];rfl
theorem j9 {a:Option Addr} {n c:Nat}:Value.slice a n c≠undef:=by
 intro h;simp[undef]at h
theorem vJ {w:World} {N B:Nat→Prop} {dp:Bool} {e:TypeId} {xs:List (C.U.T e)} (toI:C.U.T e→Int) (henc:∀x,C.enc e x= .int .i64 (toI x)) {cur:Array Value} {lab:Nat→Option (Nat×Nat)}
 (h4:∀j x,xs[j]? =some x→∀i v,(leaves (C.enc e x))[i]? =some v→∃u,cur[j*C.sz e+i]? =some u∧nI C w N (fun b'=>B b'∧lab b'=some (j,i)) dp v u):
 cur.toList.take xs.length=(xs.map toI).map (Value.int .i64):=by
 have hsz:C.sz e=1:=by simp[Ctx.sz,henc,leaves]
 apply List.ext_getElem?;intro j
 by_cases hj:j<xs.length
 ·rw[List.getElem?_take_of_lt hj];obtain⟨u,h1,h2⟩:=h4 j xs[j] (List.getElem?_eq_getElem hj) 0 (.int .i64 (toI xs[j])) (by rw[henc];rfl)
  have hu:u= .int .i64 (toI xs[j]):=by
   cases dp with
   | true=>cases(show gC C w N (.int .i64 (toI xs[j])) u from h2);rfl
   | false=>cases(show gC C w N (.int .i64 (toI xs[j])) u from h2);rfl
  rw[hsz]at h1;simp only[Nat.mul_one,Nat.add_zero]at h1;rw[Array.getElem?_toList,h1,hu];simp[hj]
 ·rw[List.getElem?_take_eq_none (by omega),List.getElem?_eq_none (by simp;omega)]
theorem vP {w:World} {N B:Nat→Prop} {dp:Bool} {e:TypeId} {ys:List (C.U.T e)} (toI:C.U.T e→Int) (henc:∀x,C.enc e x= .int .i64 (toI x)) {cur:Array Value} (lab:Nat→Option (Nat×Nat))
 (h:cur.toList.take ys.length=(ys.map toI).map (Value.int .i64)):
 ∀j x,ys[j]? =some x→∀i v,(leaves (C.enc e x))[i]? =some v→∃u,cur[j*C.sz e+i]? =some u∧nI C w N (fun b'=>B b'∧lab b'=some (j,i)) dp v u:=by
 have hsz:C.sz e=1:=by simp[Ctx.sz,henc,leaves]
 intro j x hx i v hi;rw[henc]at hi;cases i with
 | succ i=>simp[leaves]at hi
 | zero=>
   simp only[leaves,List.getElem?_cons_zero,Option.some.injEq]at hi;subst hi;have hj:j<ys.length:=(List.getElem?_eq_some_iff.1 hx).1;refine⟨.int .i64 (toI x),?_,?_⟩
   ·rw[hsz,Nat.mul_one,Nat.add_zero,←Array.getElem?_toList,←List.getElem?_take_of_lt (j:=ys.length) hj,h];simp[hx]
   ·cases dp
    ·exact gC.int _ _
    ·exact gC.int _ _
section
variable {w w':World} {M N:Nat→Prop} {V:Nat→Value} {bs:ao→Nat→Prop}
theorem uL {x:C.PV} {dp:Bool} {e:TypeId} {xs ys:List (C.U.T e)} (h:Rel C ⟨w,M,N⟩ [x,.own dp e xs] V w N bs) (hk:Kept ⟨w,M,N⟩ w') (hr:fk C w' N (bs (1,[])) dp e ys (V 1)):
 lJ C ⟨w,M,N⟩ 1 V (.gG []) [.own dp e ys] (.tuple #[]) w':=by
 refine⟨N,fun r b=>r=(1,[])∧bs (1,[]) b,⟨fun t v hv=> ?_,fun r r' b h1 h2=>h1.1.trans h2.1.symm,fun r b ⟨_,hb⟩=> ?_,fun b hb=> ?_,hk⟩⟩
 ·match t,hv with
  | 0,hv=>cases hv;trivial
  | 1,hv=>
    cases hv;exact hr.move (fun _ _=>rfl) (fun _ h=>h) (fun b hb=>⟨rfl,hb⟩)
  | 2,hv=>cases hv;exact⟨#[],rfl,rfl,fun i v hi=>by simp at hi⟩
  | t+3,hv=>simp at hv
 ·obtain⟨h1,h2,h3⟩:=h.own _ _ hb;exact⟨h1,Nat.lt_of_lt_of_le h2 hk.size,h3⟩
 ·obtain⟨h1,h2⟩:=h.kd b hb;exact⟨Nat.lt_of_lt_of_le h1 hk.size,h2⟩
theorem uC {dp:Bool} {e:TypeId} {xs ys:List (C.U.T e)} {c:Value} (h:Rel C ⟨w,M,N⟩ [.own dp e xs] V w N bs) (hk:Kept ⟨w,M,N⟩ w') (hr:fk C w' N (bs (0,[])) dp e ys c):
 lJ C ⟨w,M,N⟩ 1 V (.own dp e ys) [] c w':=by
 refine⟨N,fun r b=>r=(1,[])∧bs (0,[]) b,⟨fun t v hv=> ?_,fun r r' b h1 h2=>h1.1.trans h2.1.symm,fun r b ⟨_,hb⟩=> ?_,fun b hb=> ?_,hk⟩⟩
 ·match t,hv with
  | 0,hv=>cases hv;trivial
  | 1,hv=>
    cases hv;exact hr.move (fun _ _=>rfl) (fun _ h=>h) (fun b hb=>⟨rfl,hb⟩)
  | t+2,hv=>simp at hv
 ·obtain⟨h1,h2,h3⟩:=h.own _ _ hb;exact⟨h1,Nat.lt_of_lt_of_le h2 hk.size,h3⟩
 ·obtain⟨h1,h2⟩:=h.kd b hb;exact⟨Nat.lt_of_lt_of_le h1 hk.size,h2⟩
theorem zr {b n:Nat} {d:Array Int} {os:Array Go.Obj} (hb:M b):Kept ⟨w,M,N⟩ (Sort.grow (Sort.putRow (Value.int .i64) (Sort.ahead w n) b 0 d) os):=by
 have hg:=grownBy_sortedI (w:=w) (g:=b) (n:=n) (os:=os) d;refine⟨rfl,rfl,rfl,by simp,fun b' hb' hm=> ?_⟩;rw[Sort.heap_grow_old _ _ (by simpa using hb')];have:b≠b':=fun e=>hm (by rw[←e];exact hb);simp[Sort.putRow,Sort.mapBlock,Sort.ahead,Array.getElem?_modify,this]
end
theorem Az {f:FuncId} (hent:kW P f) {e:TypeId} (toI:C.U.T e→Int) (henc:∀x,C.enc e x= .int .i64 (toI x))
 (hc:∀(blk off cap:Nat) (zs:List Int) (w:World),Sort.Holds (Value.int .i64) w blk off zs.toArray→blk<w.heap.size→zs.length<4611686018427387904→
  Calls P f #[.slice (some ⟨blk,off,none⟩) zs.length cap] w fun e w'=>e= .returned (.tuple #[])∧∃n os,w'=Sort.grow (Sort.putRow (Value.int .i64) (Sort.ahead w n) blk off (zs.mergeSort fun x y=>decide (x≤y)).toArray) os)
 (hn:∀(p:Option Addr) (cap:Nat) (w:World),Calls P f #[.slice p 0 cap] w fun e w'=>e= .returned (.tuple #[])∧w'=w)
 {xs ys:List (C.U.T e)} (hxs:xs.length<4611686018427387904) (hys:ys.map toI=(xs.map toI).mergeSort fun x y=>decide (x≤y)):ae P C f (start C 1 [.iV (1,[])] [.own true e xs]) 1 (.gG []) [.own true e ys]:=by
 refine⟨hent,rfl,fun w M N V bs args _ hrel hsz hV=> ?_⟩;have hrel:Rel C ⟨w,M,N⟩ [.iV (1,[]),.own true e xs] V w N bs:=hrel;have hV0:V 0=args.getD 0 undef:=hV 0 (by show 0<2-1;omega);have h0:bL C [.iV (1,[]),.own true e xs] V w (1,[]) (V 0):=hrel.fo 0 _ rfl;have h1:fk C w N (bs (1,[])) true e xs (V 1):=hrel.fo 1 _ rfl;obtain⟨_,hcv⟩:=h0;have e01:V 1=V 0:=by simpa [jf,walk]using hcv
 show Calls P f args w fun e w'=>match e with
  | .returned v=>lJ C ⟨w,M,N⟩ 1 V (.gG []) [.own true _ ys] v w'
  | _=>False
 have hsz1:C.sz e=1:=by simp[Ctx.sz,henc,leaves]
 have hlen:ys.length=xs.length:=by
  have:=congrArg List.length hys
  simpa using this
 rcases h1 with⟨hnil,hx⟩ | ⟨b,cap,cur,lab,hc',hb,hl,hh,h1',h2',h3',h4'⟩
 ·have ha:=lI hsz hV0 (by rw[←e01,hnil];exact j9);rw[ha,←e01,hnil];refine(hn none 0 w).mono fun e' w' ⟨he,hw⟩=> ?_;subst he;subst hw
  have hys':ys=[]:=by
   have:ys.length=0:=by rw[hlen,hx];rfl
   exact List.eq_nil_of_length_eq_zero this
  exact uL hrel ⟨rfl,rfl,rfl,Nat.le_refl _,fun _ _ _=>rfl⟩ (.inl ⟨hnil,hys'⟩)
 ·have ha:=lI hsz hV0 (by rw[←e01,hc'];exact j9);rw[ha,←e01,hc'];obtain⟨hbN,hbs,hbM⟩:=hrel.own _ _ hb
  have hM:M b:=by
   rcases hbM with h | h
   ·exact h
   ·exact absurd h (by show¬w.heap.size≤b;omega)
  have hcells:=vJ (dp:=true) toI henc h4';have hlenI:(xs.map toI).length=xs.length:=List.length_map _;have hH:=holds_of_blockI (ss:=xs.map toI) hh (by rw[hlenI];exact hcells);have hcall:=hc b 0 cap (xs.map toI) w hH hbs (by rw[hlenI];omega);rw[hlenI]at hcall;refine hcall.mono fun e' w' ⟨he,n,os,hw⟩=> ?_;subst he;subst hw;rw[←hys];refine uL hrel (zr hM) (.inr ⟨b,cap,_,fun _=>none,by rw[hlen];exact hc',hb,rfl,heap_sortedI _ hh,by rw[hlen];exact h1',h2',by simp[Sort.putCells,h3'],?_⟩);have hsize:(ys.map toI).length≤cur.size:=by rw[List.length_map,hlen,h3',hsz1,Nat.mul_one];exact h1'
  have htake:=take_putCellsI cur (ys.map toI) hsize;rw[List.length_map]at htake;exact vP toI henc _ htake
theorem vS {f:FuncId} (hent:kW P f) {e:TypeId} (toI:C.U.T e→Int) (henc:∀x,C.enc e x= .int .i64 (toI x))
 (hc:∀(blk off cap:Nat) (zs:List Int) (w:World),Sort.Holds (Value.int .i64) w blk off zs.toArray→zs.length≤9223372036854775807→zs.length≤cap→
  Calls P f #[.slice (some ⟨blk,off,none⟩) zs.length cap] w fun e w'=>e= .returned (.slice (some ⟨blk,off,none⟩) (Lib.compact zs).length cap)∧∃q,w'=Sort.putRow (Value.int .i64) (Sort.ahead w q) blk off (Lib.compact zs++List.replicate (zs.length-(Lib.compact zs).length) 0).toArray)
 (hn:∀(a:Option Addr) (cap:Nat) (w:World),Calls P f #[.slice a 0 cap] w fun e w'=>e= .returned (.slice a 0 cap)∧w'=w)
 {xs ys:List (C.U.T e)} (hys:ys.map toI=Lib.compact (xs.map toI)):ae P C f (start C 1 [.own true e xs] []) 0 (.own true e ys) []:=by
 refine⟨hent,rfl,fun w M N V bs args _ hrel hsz hV=> ?_⟩;have hrel:Rel C ⟨w,M,N⟩ [.own true e xs] V w N bs:=hrel;have hV0:V 0=args.getD 0 undef:=hV 0 (by show 0<1-0;omega);have h1:fk C w N (bs (0,[])) true e xs (V 0):=hrel.fo 0 _ rfl
 show Calls P f args w fun e' w'=>match e' with
  | .returned v=>lJ C ⟨w,M,N⟩ 1 V (.own true e ys) [] v w'
  | _=>False
 have hsz1:C.sz e=1:=by simp[Ctx.sz,henc,leaves]
 have hlen:ys.length=(Lib.compact (xs.map toI)).length:=by
  have:=congrArg List.length hys
  simpa using this
 have hle:ys.length≤xs.length:=by
  rw[hlen];unfold Lib.compact Lib.compactUpTo;rw[List.length_map];refine Nat.le_trans (List.length_filter_le _ _) ?_;simp
 rcases h1 with⟨hnil,hx⟩ | ⟨b,cap,cur,lab,hc',hb,hl,hh,h1',h2',h3',h4'⟩
 ·have ha:=lI hsz hV0 (by rw[hnil];exact j9);rw[ha,hnil];refine(hn none 0 w).mono fun e' w' ⟨he,hw⟩=> ?_;subst he;subst hw
  have hys':ys=[]:=by
   have:ys.length=0:=by rw[hx]at hle;simpa using hle
   exact List.eq_nil_of_length_eq_zero this
  exact uC hrel ⟨rfl,rfl,rfl,Nat.le_refl _,fun _ _ _=>rfl⟩ (.inl ⟨rfl,hys'⟩)
 ·have ha:=lI hsz hV0 (by rw[hc'];exact j9);rw[ha,hc'];obtain⟨hbN,hbs,hbM⟩:=hrel.own _ _ hb
  have hM:M b:=by
   rcases hbM with h | h
   ·exact h
   ·exact absurd h (by show¬w.heap.size≤b;omega)
  have hcells:=vJ (dp:=true) toI henc h4';have hlenI:(xs.map toI).length=xs.length:=List.length_map _;have hH:=holds_of_blockI (ss:=xs.map toI) hh (by rw[hlenI];exact hcells);have hmax:maxLen≤9223372036854775807:=by decide
  have hcall:=hc b 0 cap (xs.map toI) w hH (by rw[hlenI];omega) (by rw[hlenI];exact h1');rw[hlenI,←hys,List.length_map]at hcall;refine hcall.mono fun e' w' ⟨he,n,hw⟩=> ?_;subst he
  have hw':w'=Sort.grow (Sort.putRow (Value.int .i64) (Sort.ahead w n) b 0 (ys.map toI++List.replicate (xs.length-ys.length) 0).toArray) #[]:=by
   rw[Sort.grow_empty];exact hw
  subst hw'
  have hsize:(ys.map toI++List.replicate (xs.length-ys.length) (0:Int)).length≤cur.size:=by
   rw[List.length_append,List.length_replicate,List.length_map,h3',hsz1,Nat.mul_one];omega
  refine uC hrel (zr hM) (.inr ⟨b,cap,_,fun _=>none,rfl,hb,rfl,heap_sortedI _ hh,Nat.le_trans hle h1',h2',by simp only[Sort.putCells,Array.size_mapIdx];exact h3',?_⟩);have htake:=take_putCellsI cur _ hsize;refine vP toI henc _ ?_
  have h6:∀(A:List Value) (D:List Int),A.take D.length=D.map (Value.int .i64)→ys.length≤D.length→A.take ys.length=(D.take ys.length).map (Value.int .i64):=fun A D h hl=>by
   rw[List.map_take,←h,List.take_take,Nat.min_eq_left hl]
  have h7:=h6 _ _ htake (by rw[List.length_append,List.length_map];omega)
  rwa [List.take_left' (List.length_map _)]at h7
theorem Db {f:FuncId} (hent:kW P f) {x:Int} {s:ByteArray} (hc:∀w,C.xk w→Calls P f #[.int .i64 x] w fun e w'=>e= .returned (.string s)∧Below w.heap.size w w'):ae P C f (start C 1 [.int .i64 x] []) 0 (.str s) []:=by
 refine⟨hent,rfl,fun w M N V bs args hT hrel hsz hV=> ?_⟩;have hrel:Rel C ⟨w,M,N⟩ [.int .i64 x] V w N bs:=hrel;have hV0:V 0=args.getD 0 undef:=hV 0 (by show 0<1-0;omega);have h1:V 0= .int .i64 x:=hrel.fo 0 _ rfl;have ha:=lI hsz (c:= .int .i64 x) (by rw[←hV0,h1]) (by simp[undef])
 show Calls P f args w fun e w'=>match e with
  | .returned v=>lJ C ⟨w,M,N⟩ 1 V (.str s) [] v w'
  | _=>False
 rw[ha];refine(hc w hT.1).mono fun e' w' ⟨he,hb⟩=> ?_;subst he;refine⟨N,fun _ _=>False,⟨fun t v hv=> ?_,fun _ _ _ h=>h.elim,fun _ _ h=>h.elim,fun b hb'=> ?_,⟨hb.os,hb.tape,hb.output,hb.size,fun k hk _=>hb.block k hk⟩⟩⟩
 ·match t,hv with
  | 0,hv=>cases hv;trivial
  | 1,hv=>cases hv;rfl
  | t+2,hv=>simp at hv
 ·obtain⟨k1,k2⟩:=hrel.kd b hb';exact⟨Nat.lt_of_lt_of_le k1 hb.size,k2⟩
end Go.Proofs.YtmapddgocpkgeaaGreat.aa
namespace Go.Proofs.YtmapddgocpkgeaaGreat.aa
open Go.RowKit
set_option linter.unusedVariables false
set_option linter.unusedSimpArgs false
variable {P:Program} {C:Ctx}
theorem zj {args:Array Value} {c d:Value} (h:args.size≤2) (hc:c=args.getD 0 undef) (hd:d=args.getD 1 undef) (hu:d≠undef):args= #[c,d]:=by
 have h1:args.size=2:=by
  rcases Nat.lt_or_ge args.size 2 with h0 | h0
  ·exfalso;apply hu;rw[hd,Array.getD_eq_getD_getElem?,Array.getElem?_eq_none (by omega)];rfl
  ·omega
 apply Array.ext
 ·simp[h1]
 ·intro i h2 h3;have:i=0∨i=1:=by simp at h3;omega
  rcases this with rfl | rfl
  ·rw[hc,Array.getD_eq_getD_getElem?,Array.getElem?_eq_getElem h2];rfl
  ·rw[hd,Array.getD_eq_getD_getElem?,Array.getElem?_eq_getElem h2];rfl
def bs (l:List UInt8):ByteArray:=⟨l.toArray⟩
def tU (w:World) (n:Nat) (e:TypeId) (v:Value) (xs:List ByteArray):Prop:=
 (v= .slice none 0 0∧xs=[])∨∃b,v= .slice (some ⟨b,0,none⟩) xs.length xs.length∧xs.length≤maxLen∧n≤b∧w.heap[b]? =some (.cells (xs.map Value.string).toArray e (0,0))
def xG (n m:Nat) (v:Value) (b:Nat):Prop:=n≤b∧b<m∧∃l c,v= .slice (some ⟨b,0,none⟩) l c
theorem tU.own {e:TypeId} {toT:C.U.T e→ByteArray} (henc:∀x,C.enc e x= .str (toT x)) {w:World} {n:Nat} {N:Nat→Prop} {v:Value} {ys:List (C.U.T e)} (h:tU w n e v (ys.map toT)):fk C w N (xG n w.heap.size v) true e ys v:=by
 have hsz1:C.sz e=1:=by simp[Ctx.sz,henc,leaves]
 rcases h with⟨h1,h2⟩ | ⟨b,h1,h2,h3,h4⟩
 ·exact .inl ⟨h1,List.map_eq_nil_iff.1 h2⟩
 ·rw[List.length_map]at h1 h2
  have hb:b<w.heap.size:=by
   rcases Nat.lt_or_ge b w.heap.size with h | h
   ·exact h
   ·rw[Array.getElem?_eq_none h]at h4;cases h4
  refine .inr ⟨b,ys.length,_,fun _=>none,h1,⟨h3,hb,_,_,h1⟩,rfl,h4,Nat.le_refl _,h2,by rw[hsz1];simp,fun j x hx i v' hi=> ?_⟩;rw[henc]at hi;cases i with
  | succ i=>simp[leaves]at hi
  | zero=>
    simp only[leaves,List.getElem?_cons_zero,Option.some.injEq]at hi;subst hi;exact⟨.string (toT x),by rw[hsz1];simp[hx],gC.str _⟩
section
variable {w w':World} {M N:Nat→Prop} {V:Nat→Value} {bs:ao→Nat→Prop} {S0:St C} {n:Nat}
theorem pe (hrel:Rel C ⟨w,M,N⟩ S0 V w N bs) (hb:Below w.heap.size w w') {r:C.PV} {v:Value} {p0:List Nat} {B:Nat→Prop} (hB:∀b,B b→w.heap.size≤b∧b<w'.heap.size)
 (hr:aR C o9 (oC n 0 V) w' N (fun p b=>p=p0∧B b) r v):lJ C ⟨w,M,N⟩ n V r [] v w':=by
 refine⟨N,fun q b=>q=(n,p0)∧B b,⟨fun t u hu=> ?_,fun _ _ b h1 h2=>h1.1.trans h2.1.symm,fun q b ⟨_,h⟩=> ?_,fun b hb'=> ?_,⟨hb.os,hb.tape,hb.output,hb.size,fun k hk _=>hb.block k hk⟩⟩⟩
 ·rw[List.append_nil]at hu;rcases Nat.lt_trichotomy t n with h | h | h
  ·rw[List.getElem?_append_left (by simpa using h),List.getElem?_replicate,if_pos h]at hu;cases hu;trivial
  ·subst h;rw[List.getElem?_append_right (by simp)]at hu;simp only[List.length_replicate,Nat.sub_self,List.getElem?_cons_zero,Option.some.injEq]at hu;subst hu;have hv:jJ V (t+([]:List C.PV).length) v t=v:=by simp[jJ]
   rw[hv]
   have e:(fun(p:List Nat) (b:Nat)=>(t,p)=(t,p0)∧B b)=fun p b=>p=p0∧B b:=by
    funext p b;simp
   rw[e];exact hr
  ·rw[List.getElem?_append_right (by simp;omega)]at hu;rw[List.getElem?_eq_none (by simp;omega)]at hu;cases hu
 ·obtain⟨h1,h2⟩:=hB b h;exact⟨fun hN=>absurd (hrel.kd b hN).1 (by show¬b<w.heap.size;omega),h2,.inr h1⟩
 ·obtain⟨k1,k2⟩:=hrel.kd b hb';exact⟨Nat.lt_of_lt_of_le k1 hb.size,k2⟩
end
theorem D1 {w w':World} {n:String} {g:Nat} (hg:P.globalNamed n=some g) (hw:w'.heap[g]? =w.heap[g]?):w'.var? P n=w.var? P n:=by
 unfold World.var?;rw[hg];simp only[Option.bind_some];rw[hw]
theorem Eg {w:World} {n:String} {g:Nat} {cs:Array Value} (hg:P.globalNamed n=some g) (h:w.var? P n=some cs):g<w.heap.size:=by
 unfold World.var? at h;rw[hg]at h;simp only[Option.bind_some]at h;rcases Nat.lt_or_ge g w.heap.size with h' | h'
 ·exact h'
 ·rw[Array.getElem?_eq_none h']at h;cases h
theorem Dh {f:FuncId} (hent:kW P f) {s:ByteArray} {x:Int} (hc:∀w,C.xk w→Calls P f #[.string s] w fun e w'=>∃u,e= .returned (.tuple #[.int .i64 x,u])∧Below w.heap.size w w'):ae P C f (start C 1 [.str s] []) 0 (.gG [.int .i64 x,.undef]) []:=by
 refine⟨hent,rfl,fun w M N V bs args hT hrel hsz hV=> ?_⟩;have hrel:Rel C ⟨w,M,N⟩ [.str s] V w N bs:=hrel;have hV0:V 0=args.getD 0 undef:=hV 0 (by show 0<1-0;omega);have h1:V 0= .string s:=hrel.fo 0 _ rfl;have ha:=lI hsz (c:= .string s) (by rw[←hV0,h1]) (by simp[undef])
 show Calls P f args w fun e w'=>match e with
  | .returned v=>lJ C ⟨w,M,N⟩ 1 V (.gG [.int .i64 x,.undef]) [] v w'
  | _=>False
 rw[ha];refine(hc w hT.1).mono fun e' w' ⟨u,he,hb⟩=> ?_;subst he;refine pe (p0:=[]) (B:=fun _=>False) hrel hb (fun _ h=>h.elim) ⟨_,rfl,rfl,fun i v hi=> ?_⟩
 match i,hi with
 | 0,hi=>cases hi;exact⟨_,rfl,rfl⟩
 | 1,hi=>cases hi;exact⟨_,rfl,trivial⟩
 | i+2,hi=>simp at hi
theorem C9 {f:FuncId} (hent:kW P f) {s:ByteArray} {e:TypeId} {toT:C.U.T e→ByteArray} (henc:∀x,C.enc e x= .str (toT x)) {ys:List (C.U.T e)} {ok:Bool}
 (hc:∀w,C.xk w→Calls P f #[.string s] w fun x w'=>∃v,x= .returned (.tuple #[v,.bool ok])∧tU w' w.heap.size e v (ys.map toT)∧Below w.heap.size w w'):ae P C f (start C 1 [.str s] []) 0 (.gG [.own true e ys,.bool ok]) []:=by
 refine⟨hent,rfl,fun w M N V bs args hT hrel hsz hV=> ?_⟩;have hrel:Rel C ⟨w,M,N⟩ [.str s] V w N bs:=hrel;have hV0:V 0=args.getD 0 undef:=hV 0 (by show 0<1-0;omega);have h1:V 0= .string s:=hrel.fo 0 _ rfl;have ha:=lI hsz (c:= .string s) (by rw[←hV0,h1]) (by simp[undef])
 show Calls P f args w fun x w'=>match x with
  | .returned v=>lJ C ⟨w,M,N⟩ 1 V (.gG [.own true e ys,.bool ok]) [] v w'
  | _=>False
 rw[ha];refine(hc w hT.1).mono fun e' w' ⟨u,he,hrow,hb⟩=> ?_;subst he;refine pe (p0:=[0]) (B:=xG w.heap.size w'.heap.size u) hrel hb (fun b h=>⟨h.1,h.2.1⟩) ⟨_,rfl,rfl,fun i v hi=> ?_⟩
 match i,hi with
 | 0,hi=>
   cases hi;refine⟨_,rfl,?_⟩;exact(hrow.own (N:=N) henc).move (fun _ _=>rfl) (fun _ h=>h) (fun b hb=>⟨rfl,hb⟩)
 | 1,hi=>cases hi;exact⟨_,rfl,rfl⟩
 | i+2,hi=>simp at hi
theorem C7 {f:FuncId} (hent:kW P f) {s t:ByteArray} {e:TypeId} {toT:C.U.T e→ByteArray} (henc:∀x,C.enc e x= .str (toT x)) {ys:List (C.U.T e)}
 (hc:∀w,C.xk w→Calls P f #[.string s,.string t] w fun x w'=>∃v,x= .returned v∧tU w' w.heap.size e v (ys.map toT)∧Below w.heap.size w w'):ae P C f (start C 2 [.str s,.str t] []) 0 (.own true e ys) []:=by
 refine⟨hent,rfl,fun w M N V bs args hT hrel hsz hV=> ?_⟩;have hrel:Rel C ⟨w,M,N⟩ [.str s,.str t] V w N bs:=hrel;have hV0:V 0=args.getD 0 undef:=hV 0 (by show 0<2-0;omega);have hV1:V 1=args.getD 1 undef:=hV 1 (by show 1<2-0;omega);have h0:V 0= .string s:=hrel.fo 0 _ rfl;have h1:V 1= .string t:=hrel.fo 1 _ rfl;have ha:=zj hsz (c:= .string s) (d:= .string t) (by rw[←hV0,h0]) (by rw[←hV1,h1]) (by simp[undef])
 show Calls P f args w fun x w'=>match x with
  | .returned v=>lJ C ⟨w,M,N⟩ 2 V (.own true e ys) [] v w'
  | _=>False
 rw[ha];refine(hc w hT.1).mono fun e' w' ⟨u,he,hrow,hb⟩=> ?_;subst he;refine pe (p0:=[]) (B:=xG w.heap.size w'.heap.size u) hrel hb (fun b h=>⟨h.1,h.2.1⟩) ?_;exact(hrow.own (N:=N) henc).move (fun _ _=>rfl) (fun _ h=>h) (fun b hb=>⟨rfl,hb⟩)
theorem Du {f:FuncId} (hent:kW P f) {s r:ByteArray} {e:TypeId} {toT:C.U.T e→ByteArray} (henc:∀x,C.enc e x= .str (toT x)) {xs:List (C.U.T e)}
 (hn:xs=[]→∀(a:Option Addr) (c:Nat) w,C.xk w→Calls P f #[.slice a 0 c,.string s] w fun x w'=>x= .returned (.string r)∧Below w.heap.size w w')
 (hc:∀(b o c:Nat) w,C.xk w→(∀(j:Nat) x,(xs.map toT)[j]? =some x→w.cell? ⟨b,o+j,none⟩=some (.string x))→b<w.heap.size→xs.length≤c→Calls P f #[.slice (some ⟨b,o,none⟩) xs.length c,.string s] w fun x w'=>x= .returned (.string r)∧Below w.heap.size w w'):
 ae P C f (start C 2 [.sl e xs,.str s] []) 0 (.str r) []:=by
 refine⟨hent,rfl,fun w M N V bs args hT hrel hsz hV=> ?_⟩;have hrel:Rel C ⟨w,M,N⟩ [.sl e xs,.str s] V w N bs:=hrel;have hV0:V 0=args.getD 0 undef:=hV 0 (by show 0<2-0;omega);have hV1:V 1=args.getD 1 undef:=hV 1 (by show 1<2-0;omega);have h0:gC C w N (.sl e xs) (V 0):=hrel.fo 0 _ rfl;have h1:V 1= .string s:=hrel.fo 1 _ rfl;have ha:=zj hsz (c:=V 0) (d:= .string s) hV0 (by rw[←hV1,h1]) (by simp[undef])
 show Calls P f args w fun x w'=>match x with
  | .returned v=>lJ C ⟨w,M,N⟩ 2 V (.str r) [] v w'
  | _=>False
 rw[ha]
 have fin:Calls P f #[V 0,.string s] w fun x w'=>x= .returned (.string r)∧Below w.heap.size w w':=by
  generalize V 0=c at h0;cases h0 with
  | nil _ A c=>exact hn rfl A c w hT.1
  | sl _ _ b o c u hN hcap hu hv=>
    have hsz1:C.sz e=1:=by simp[Ctx.sz,henc,leaves]
    refine hc b o c w hT.1 (fun j x hx=> ?_) (hrel.kd b hN).1 hcap;rw[List.getElem?_map]at hx;cases hy:xs[j]? with
    | none=>rw[hy]at hx;cases hx
    | some y=>
      rw[hy]at hx;cases hx;have e1:=hu j y hy 0 (.str (toT y)) (by rw[henc];rfl);have e2:=hv j y hy 0 (.str (toT y)) (by rw[henc];rfl);rw[hsz1]at e1;simp only[Nat.mul_one,Nat.add_zero]at e1;rw[e1];generalize u j 0=z at e2;cases e2;rfl
 refine fin.mono fun e' w' ⟨he,hb⟩=> ?_;subst he;exact pe (p0:=[]) (B:=fun _=>False) hrel hb (fun _ h=>h.elim) rfl
end Go.Proofs.YtmapddgocpkgeaaGreat.aa
