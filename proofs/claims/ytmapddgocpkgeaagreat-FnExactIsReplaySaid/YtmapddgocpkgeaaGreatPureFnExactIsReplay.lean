/- The plain law of FnExactIsReplay. No conditions. -/
import Derived.Test.YtmapddgocpkgeaaGreatEvLFnExactIsReplay
import Derived.Test.YtmapddgocpkgeaaGreatLibP
namespace Go.Proofs.YtmapddgocpkgeaaGreat.Pure
open Go.RowKit Go.Proofs.YtmapddgocpkgeaaGreat.aa Go.Proofs.YtmapddgocpkgeaaGreat.Ev
set_option linter.unusedVariables false
set_option linter.unusedSimpArgs false
set_option maxRecDepth 20000
def cY (x a b:Int):Bool:=decide (x≥a)&&decide (x≤b)
theorem bc (x a b:Int):aG.f x a b=some (cY x a b):=by
 simp only[aG.f,aG.begin,Tr.ae,Tr.ai,cY];cases decide (x≥a)<;>simp
theorem aZ (x a b:Int):aI.f x a b=some (cY x a b):=by
 simp only[aI.f,aI.begin,Tr.ae,Tr.ai,cY];cases decide (x≥a)<;>simp
def qv (l:List gd):Nat:=l.length+(l.map fun t=>t.f0.length).sum
theorem oy (l:List ke) (n:Int) (hl:l.length≤9223372036854775807) (h0:0≤n) (h1:n≤1048576):gM.f l n=some (if n-l.length<0 then -1 else n-l.length):=by
 have w:wr (n-l.length)=n-l.length:=aQ (by omega);simp only[gM.f,gM.begin,Tr.ae,Tr.ai,w,decide_eq_true_eq];split<;>rfl
theorem pC (l:List ke) (a b c n:Int) (hl:l.length≤9223372036854775807) (h0:0≤n) (h1:n≤1048576):ij.f l a b c n=some (if n-l.length<0 then -1 else n-l.length):=by
 simp only[ij.f,ij.begin,Tr.ag,Tr.ae,Tr.ai,gM.told,oy l n hl h0 h1,af,decide_eq_true_eq]
 by_cases h:n-(l.length:Int)<0
 ·simp[h]
 ·simp[h]
theorem oN (l:List gd) (n:Int) (hl:l.length≤9223372036854775807) (hs:∀t∈l,t.f0.length≤9223372036854775807) (h0:0≤n) (h1:n≤1048576):
 dg.f l n=some (if(qv l:Int)≤n then n-qv l else -1):=by
 have w:wr (n-l.length)=n-l.length:=aQ (by omega);simp only[dg.f,dg.begin,Tr.ae,Tr.ai,Tr.aj,w,decide_eq_true_eq];split
 ·rename_i h;rw[if_neg (by unfold qv;omega)]
 ·rename_i h
  have key:=pb l (fun(s:Int) t=>if s-t.f0.length<0 then .inr (-1)else .inl (s-t.f0.length)) (fun s=>s) (fun _ s=>0≤s∧s≤1048576) (fun i s=>lp dg.tree (.c5 l s (i:Int))) (n-l.length) ⟨by omega,by omega⟩
   (fun i h s hi=>by
    have e:=pC l[i].f0 l[i].f1.f0 l[i].f1.f1 l[i].f1.f2 s (hs _ (List.getElem_mem h)) hi.1 hi.2
    have step:lp dg.tree (.c5 l s (i:Int))=if s-l[i].f0.length<0 then some (-1)else lp dg.tree (.c5 l (s-l[i].f0.length) ((i+1:Nat):Int)):=by
     rw[an];simp only[dg.tree,Tr.ae,Tr.ak,Tr.ag,Tr.ai,Tr.aj,ij.told,ar h,aA h,aF h,e,af,aq (show i<4611686018427387904 by omega),↓reduceIte,and_self,decide_eq_true_eq]
     by_cases q:s-(l[i].f0.length:Int)<0
     ·simp[q]
     ·simp[q]
    refine⟨fun s' hs'=> ?_,fun r hr=> ?_⟩
    ·split at hs'
     ·cases hs'
     ·rename_i q;cases hs';exact⟨by rw[step,if_neg q],by omega,by omega⟩
    ·split at hr
     ·rename_i q;cases hr;rw[step,if_pos q]
     ·cases hr)
   (fun s hi=>by rw[an];simp only[dg.tree,Tr.ae,Tr.ai,aV,Bool.false_eq_true,↓reduceIte])
  rw[show((0:Nat):Int)=0 from rfl]at key;rw[key];congr 1
  have gen:∀(l:List gd) (s:Int),0≤s→scan (fun(s:Int) (t:gd)=>if s-t.f0.length<0 then .inr (-1)else .inl (s-t.f0.length)) (fun s=>s) l s=if(((l.map fun t=>t.f0.length).sum:Nat):Int)≤s then s-((l.map fun t=>t.f0.length).sum:Nat)else -1:=by
   intro l
   induction l with
   | nil=>intro s hs;simp[scan,hs]
   | cons t l ih=>
     intro s hs;unfold scan
     by_cases q:s-(t.f0.length:Int)<0
     ·rw[if_pos q];dsimp only;rw[List.map_cons,List.sum_cons,if_neg (by omega)]
     ·rw[if_neg q];dsimp only;rw[ih _ (by omega),List.map_cons,List.sum_cons]
      by_cases q':(((l.map fun t=>t.f0.length).sum:Nat):Int)≤s-(t.f0.length:Int)
      ·rw[if_pos q',if_pos (by omega)];omega
      ·rw[if_neg q',if_neg (by omega)]
  rw[gen _ _ (by omega)];unfold qv
  by_cases q:(((l.map fun t=>t.f0.length).sum:Nat):Int)≤n-(l.length:Int)
  ·rw[if_pos q,if_pos (by omega)];omega
  ·rw[if_neg q,if_neg (by omega)]
theorem mJ (l:List gd) (n:Int) (hl:l.length≤9223372036854775807) (hs:∀t∈l,t.f0.length≤9223372036854775807) (h0:0≤n) (h1:n≤1048576):
 fk.f l n=some (if(qv l:Int)≤n then n-qv l else -1):=by
 simp only[fk.f,fk.begin,Tr.ag,Tr.ae,Tr.ai,dg.told,oN l n hl hs h0 h1,af,decide_eq_true_eq]
 by_cases h:(qv l:Int)≤n
 ·rw[if_pos h];have q:¬(n-(qv l:Int)<0):=by omega
  simp only[q,↓reduceIte]
 ·rw[if_neg h];rfl
def r9 (x:ke):aB:=⟨x.f0,x.f1,x.f2,(⟨x.f3.f0,x.f3.f1,x.f3.f2⟩:kP)⟩
def ku (x:gd):aC:=⟨x.f0.map r9,(⟨x.f1.f0,x.f1.f1,x.f1.f2⟩:kP)⟩
theorem pj (a b c:Int):jf.f a b c=some (a,b,c):=rfl
theorem pk (a b c d e f:Int):js.f a b c d e f=some (a,b,c,d,e,f):=rfl
theorem oA (l:List ke) (hl:l.length≤1048576):dU.f l=some (l.map r9):=by
 have h1:(0:Int)≤(List.length l:Int)∧(List.length l:Int)≤(List.length l:Int)∧(List.length l:Int)*(48:Nat)≤room:=⟨by omega,by omega,by unfold room;omega⟩;simp only[dU.f,dU.begin,Tr.ak,Tr.aj,h1,and_self,decide_true,↓reduceIte,Int.toNat_natCast];refine oo l r9 Ak id (fun i s=>lp dU.tree (.c3 l s (i:Int))) (fun i h s hs=> ?_) (fun s=> ?_)
 ·rw[an];have h2:i<s.length:=by omega
  simp only[dU.tree,Tr.ae,Tr.ak,Tr.ag,Tr.eu,Tr.aj,js.told,pk,af,aA h,aF h,aF h2,ar h,and_self,decide_true,↓reduceIte,aq (show i<4611686018427387904 by omega),Int.toNat_natCast,r9]
 ·rw[an];simp only[dU.tree,Tr.ae,Tr.ai,aV,Bool.false_eq_true,↓reduceIte,id]
theorem pv (l:List ke) (a b c:Int) (hl:l.length≤1048576):ig.f l a b c=some (l.map r9,a,b,c):=by
 simp only[ig.f,ig.begin,Tr.ag,Tr.ai,dU.told,jf.told,oA l hl,pj,af]
theorem nW (l:List gd) (hl:l.length≤1048576) (hs:∀t∈l,t.f0.length≤1048576):dX.f l=some (l.map ku):=by
 have h1:(0:Int)≤(List.length l:Int)∧(List.length l:Int)≤(List.length l:Int)∧(List.length l:Int)*(48:Nat)≤room:=⟨by omega,by omega,by unfold room;omega⟩;simp only[dX.f,dX.begin,Tr.ak,Tr.aj,h1,and_self,decide_true,↓reduceIte,Int.toNat_natCast];refine oo l ku An id (fun i s=>lp dX.tree (.c3 l s (i:Int))) (fun i h s hs'=> ?_) (fun s=> ?_)
 ·rw[an];have h2:i<s.length:=by omega
  simp only[dX.tree,Tr.ae,Tr.ak,Tr.ag,Tr.eu,Tr.aj,ig.told,pv _ _ _ _ (hs _ (List.getElem_mem h)),af,aA h,aF h,aF h2,ar h,and_self,decide_true,↓reduceIte,aq (show i<4611686018427387904 by omega),Int.toNat_natCast,ku]
 ·rw[an];simp only[dX.tree,Tr.ae,Tr.ai,aV,Bool.false_eq_true,↓reduceIte,id]
theorem m4 (l:List gd) (hl:l.length≤1048576) (hs:∀t∈l,t.f0.length≤1048576):fw.f l=some (l.map ku):=by
 simp only[fw.f,fw.begin,Tr.ag,Tr.ai,dX.told,nW l hl hs,af]
theorem jG (l:List Int) (hl:l.length≤1048576):dA.f l=some l:=by
 have h1:(0:Int)≤(List.length l:Int)∧(List.length l:Int)≤(List.length l:Int)∧(List.length l:Int)*(8:Nat)≤room:=⟨by omega,by omega,by unfold room;omega⟩;simp only[dA.f,dA.begin,Tr.ak,Tr.aj,h1,and_self,decide_true,↓reduceIte,Int.toNat_natCast]
 have e:=oo l (fun x:Int=>x) 0 id (fun i s=>lp dA.tree (.c3 l s (i:Int))) (fun i h s hs=>by
  rw[an];have h2:i<s.length:=by omega
  simp only[dA.tree,Tr.ae,Tr.ak,Tr.ag,Tr.eu,Tr.aj,af,aA h,aF h,aF h2,ar h,and_self,decide_true,↓reduceIte,aq (show i<4611686018427387904 by omega),Int.toNat_natCast]) (fun s=>by
  rw[an];simp only[dA.tree,Tr.ae,Tr.ai,aV,Bool.false_eq_true,↓reduceIte,id])
 rw[List.map_id'']at e
 ·exact e
 ·exact fun _=>rfl
theorem nY (a b c d:Int):iZ.f a b c d=some (a,b,c,d):=rfl
theorem lO (a b c:Int):gj.f a b c a b c=some true:=by
 simp[gj.f,gj.begin]
theorem pF (a b c d e f:Int):ir.f a b c d e f a b c d e f=some true:=by
 simp[ir.f,ir.begin,gj.told,lO]
theorem nX (l:List aB) (hl:l.length≤1048576):dW.f l l=some true:=by
 simp only[dW.f,dW.begin,Tr.ae,Tr.aj,decide_true,Bool.not_true,Bool.false_eq_true,↓reduceIte]
 refine mX l.length true (fun i=>lp dW.tree (.c4 l l (i:Int))) (fun i h=>by
  rw[an];simp only[dW.tree,Tr.ae,Tr.ak,Tr.au,Tr.ag,Tr.aj,ir.told,pF,af,aA h,aF h,ar h,and_self,decide_true,↓reduceIte,Bool.not_true,Bool.false_eq_true,aq (show i<4611686018427387904 by omega)]) (by
  rw[an];simp only[dW.tree,Tr.ae,Tr.ai,aV,Bool.false_eq_true,↓reduceIte])
theorem pn (l:List aB) (a b c:Int) (hl:l.length≤1048576):im.f l a b c l a b c=some true:=by
 simp[im.f,im.begin,dW.told,nX l hl,gj.told,lO]
theorem oF (l:List aC) (hl:l.length≤1048576) (hs:∀t∈l,t.f0.length≤1048576):dQ.f l l=some true:=by
 simp only[dQ.f,dQ.begin,Tr.ae,Tr.aj,decide_true,Bool.not_true,Bool.false_eq_true,↓reduceIte]
 refine mX l.length true (fun i=>lp dQ.tree (.c4 l l (i:Int))) (fun i h=>by
  rw[an];simp only[dQ.tree,Tr.ae,Tr.ak,Tr.au,Tr.ag,Tr.aj,im.told,pn _ _ _ _ (hs _ (List.getElem_mem h)),af,aA h,aF h,ar h,and_self,decide_true,↓reduceIte,Bool.not_true,Bool.false_eq_true,aq (show i<4611686018427387904 by omega)]) (by
  rw[an];simp only[dQ.tree,Tr.ae,Tr.ai,aV,Bool.false_eq_true,↓reduceIte])
theorem mY (l:List aC) (hl:l.length≤1048576) (hs:∀t∈l,t.f0.length≤1048576):fv.f l l=some true:=by
 simp[fv.f,fv.begin,dQ.told,oF l hl hs]
theorem jq (l:List Int) (hl:l.length≤1048576):cZ.f l l=some true:=by
 simp only[cZ.f,cZ.begin,Tr.ae,Tr.aj,decide_true,Bool.not_true,Bool.false_eq_true,↓reduceIte]
 refine mX l.length true (fun i=>lp cZ.tree (.c4 l l (i:Int))) (fun i h=>by
  rw[an];simp only[cZ.tree,Tr.ae,Tr.ak,Tr.au,Tr.ag,Tr.aj,af,aA h,aF h,ar h,and_self,decide_true,↓reduceIte,decide_true,Bool.not_true,Bool.false_eq_true,aq (show i<4611686018427387904 by omega)]) (by
  rw[an];simp only[cZ.tree,Tr.ae,Tr.ai,aV,Bool.false_eq_true,↓reduceIte])
theorem ox (a b c d:Int):gR.f a b c d a b c d=some true:=by simp[gR.f,gR.begin]
theorem pr (a b:Int):iz.f a b a b=some true:=by simp[iz.f,iz.begin]
theorem nd (l:List Int) (hl:l.length≤1048576):fo.f l l=some true:=by simp[fo.f,fo.begin,cZ.told,jq l hl]
theorem pK (a:Int) (l:List Int) (hl:l.length≤1048576):iq.f a l a l=some true:=by simp[iq.f,iq.begin,fo.told,nd l hl]
theorem mD (p:List aC) (m r:List Int) (a3 a4 a5 a6 a7 a8 a9 a10:Int) (h:List Int) (a12:Int) (hp:p.length≤1048576) (hs:∀t∈p,t.f0.length≤1048576) (hm:m.length≤1048576) (hr:r.length≤1048576) (hh:h.length≤1048576):
 eP.f p m r a3 a4 a5 a6 a7 a8 a9 a10 h a12 p m r a3 a4 a5 a6 a7 a8 a9 a10 h a12=some true:=by
 simp[eP.f,eP.begin,fv.told,mY p hp hs,cZ.told,jq m hm,jq r hr,gR.told,ox,iz.told,pr,iq.told,pK _ h hh]
def wt (l:List aC):Nat:=(l.map fun t=>6*t.f0.length+3).sum
def l7 (a b c:Int):Bool:=cY a 1 7&&(cY b (-8) 999&&cY c (-8) 999)
theorem eJ (a b c:Int):cy.f a b c=some (l7 a b c):=by
 simp only[cy.f,cy.begin,Tr.ag,Tr.ae,Tr.ai,aG.told,bc,ga.told,ga.f,ga.begin,af,l7];cases cY a 1 7<;>cases cY b (-8) 999<;>rfl
theorem fJ (a b c:Int):cV.f a b c=some (l7 a b c):=by
 simp only[cV.f,cV.begin,Tr.ag,Tr.ae,Tr.ai,aI.told,aZ,fY.told,fY.f,fY.begin,af,l7];cases cY a 1 7<;>cases cY b (-8) 999<;>rfl
def kN (x0 x1 x2 x3 x4 x5:Int):Bool:=
 if x0=1 then decide (x2=0)&&(cY x1 0 7&&l7 x3 x4 x5)
 else if x0=2 then(decide (x3=0)&&(decide (x4=0)&&decide (x5=0)))&&(cY x1 0 7&&cY x2 0 3)
 else if x0=3∨x0=4 then decide (x1=0)&&(decide (x2=0)&&l7 x3 x4 x5)
 else if x0=5 then decide (x1=0)&&((decide (x3=0)&&(decide (x4=0)&&decide (x5=0)))&&cY x2 1 5)
 else if x0=6 then decide (x1=0)&&(decide (x2=0)&&(decide (x3=0)&&(decide (x4=0)&&decide (x5=0))))
 else false
theorem wK (a b c d e f g h i j k l:Int):lp fX.tree (.Dz a b c d e f g h i j k l)=some (g,h,i,j,k,l):=by
 rw[an];rfl
theorem pG (x0 x1 x2 x3 x4 x5:Int):iv.f x0 x1 x2 x3 x4 x5=some (kN x0 x1 x2 x3 x4 x5):=by
 unfold kN;simp only[iv.f,iv.begin,fX.told,fX.f,fX.begin,Tr.ag,Tr.ae,Tr.ai,Tr.au,Tr.eu,Tr.aj,wK,aG.told,bc,cy.told,eJ,af,decide_eq_true_eq]
 by_cases h1:x0=1
 ·simp only[h1,↓reduceIte,af]
  by_cases h2:x2=0<;>cases cY x1 0 7<;>simp[h2]
 by_cases h2:x0=2
 ·simp only[h2,↓reduceIte,af]
  by_cases g3:x3=0<;>by_cases g4:x4=0<;>by_cases g5:x5=0<;>cases cY x1 0 7<;>simp[g3,g4,g5]
 by_cases h3:x0=3
 ·simp only[h3,↓reduceIte,af]
  by_cases g1:x1=0<;>by_cases g2:x2=0<;>simp[g1,g2]
 by_cases h4:x0=4
 ·simp only[h4,↓reduceIte,af]
  by_cases g1:x1=0<;>by_cases g2:x2=0<;>simp[g1,g2]
 by_cases h5:x0=5
 ·simp only[h5,↓reduceIte,af]
  by_cases g1:x1=0<;>by_cases g3:x3=0<;>by_cases g4:x4=0<;>by_cases g5:x5=0<;>simp[g1,g3,g4,g5]
 simp only[h1,h2,h3,h4,h5,↓reduceIte,af,or_self]
 by_cases g1:x1=0<;>by_cases g2:x2=0<;>by_cases g3:x3=0<;>by_cases g4:x4=0<;>by_cases g5:x5=0<;>by_cases h6:x0=6<;>simp[g1,g2,g3,g4,g5,h6]
theorem ow (x0 x1 x2 x3 x4 x5:Int):lp dx.tree (.c5 x0 x1 x2 x3 x4 x5)=some (if x0=2 then cY x2 0 3 else if x0=5 then cY x2 1 5 else decide (x2=0)):=by
 rw[an];simp only[dx.tree,Tr.ag,Tr.ae,Tr.ai,bN.told,bN.f,bN.begin,aI.told,aZ,af,decide_eq_true_eq];split
 ·rfl
 ·split<;>rfl
theorem nV (x0 x1 x2 x3 x4 x5:Int):lp dx.tree (.c3 x0 x1 x2 x3 x4 x5)=some (if x0=1∨x0=3∨x0=4 then l7 x3 x4 x5&&decide (x2=0)else(decide (x3=0)&&(decide (x4=0)&&decide (x5=0)))&&(if x0=2 then cY x2 0 3 else if x0=5 then cY x2 1 5 else decide (x2=0))):=by
 rw[an];simp only[dx.tree,Tr.ag,Tr.ae,Tr.ai,Tr.eu,Tr.aj,dy.told,dy.f,dy.begin,cV.told,fJ,ow,af,decide_eq_true_eq]
 by_cases h1:x0=1
 ·cases hx:l7 x3 x4 x5<;>simp[h1]
 by_cases h3:x0=3
 ·cases hx:l7 x3 x4 x5<;>simp[h3]
 by_cases h4:x0=4
 ·cases hx:l7 x3 x4 x5<;>simp[h4]
 by_cases g3:x3=0<;>by_cases g4:x4=0<;>by_cases g5:x5=0<;>simp[h1,h3,h4,g3,g4,g5]
theorem lL (x0 x1 x2 x3 x4 x5:Int):dx.f x0 x1 x2 x3 x4 x5=some (kN x0 x1 x2 x3 x4 x5):=by
 unfold kN;simp only[dx.f,dx.begin,Tr.ag,Tr.ae,Tr.ai,Tr.eu,Tr.aj,b6.told,b6.f,b6.begin,dR.told,dR.f,dR.begin,aI.told,aZ,nV,af,decide_eq_true_eq]
 by_cases h1:x0=1
 ·subst h1;rw[show cY 1 1 6=true from rfl];cases cY x1 0 7<;>cases l7 x3 x4 x5<;>simp
 by_cases h2:x0=2
 ·subst h2;rw[show cY 2 1 6=true from rfl];cases cY x1 0 7<;>simp
 by_cases h3:x0=3
 ·subst h3;rw[show cY 3 1 6=true from rfl]
  by_cases g1:x1=0<;>cases l7 x3 x4 x5<;>simp[g1]
 by_cases h4:x0=4
 ·subst h4;rw[show cY 4 1 6=true from rfl]
  by_cases g1:x1=0<;>cases l7 x3 x4 x5<;>simp[g1]
 by_cases h5:x0=5
 ·subst h5;rw[show cY 5 1 6=true from rfl]
  by_cases g1:x1=0<;>simp[g1]
 by_cases h6:x0=6
 ·subst h6;rw[show cY 6 1 6=true from rfl]
  by_cases g1:x1=0<;>by_cases g2:x2=0<;>simp[g1,g2]
 ·have hb:cY x0 1 6=false:=by
   unfold cY
   by_cases q:x0≥1
   ·rw[decide_eq_true q,decide_eq_false (by omega)];rfl
   ·rw[decide_eq_false q,Bool.false_and]
  simp[hb,h1,h2,h3,h4,h5,h6]
def dep (x0 d:Int):Int:=if x0=4∨x0=5 then d+1 else if x0=6 then d-1 else d
def okB (n:Nat):List aB→Int→Bool
 | [],d=>decide (d=0)&&decide ((n:Int)≤24)
 | s::l,d=>kN s.f0 s.f1 s.f2 s.f3.f0 s.f3.f1 s.f3.f2&&(cY (dep s.f0 d) 0 3&&okB n l (dep s.f0 d))
def pP (d:Int) (s:aB):Int ⊕ Bool:=if kN s.f0 s.f1 s.f2 s.f3.f0 s.f3.f1 s.f3.f2=true then(if cY (dep s.f0 d) 0 3=true then .inl (dep s.f0 d)else .inr false)else .inr false
theorem o6 (n:Nat):∀(l:List aB) (d:Int),scan pP (fun d=>decide (d=0)&&decide ((n:Int)≤24)) l d=okB n l d
 | [],d=>rfl
 | s::l,d=>by
   unfold scan pP okB;cases kN s.f0 s.f1 s.f2 s.f3.f0 s.f3.f1 s.f3.f2
   ·rfl
   ·cases cY (dep s.f0 d) 0 3
    ·rfl
    ·exact o6 n l _
theorem vi {x d:Int} (h0:0≤d) (h1:d≤3):wr (d+1)=d+1∧wr (d-1)=d-1∧wr (d+1-1)=d+1-1:=⟨aQ (by omega),aQ (by omega),aQ (by omega)⟩
theorem aL {x a b:Int}:cY x a b=true↔a≤x∧x≤b:=by simp[cY]
theorem iU (l:List aB) (hl:l.length≤1048576):bm.f l=some (okB l.length l 0):=by
 simp only[bm.f,bm.begin,Tr.aj];rw[←o6];refine pb l pP _ (fun _ d=>0≤d∧d≤3) (fun i d=>lp bm.tree (.c3 l d (i:Int))) 0 ⟨by omega,by omega⟩ (fun i h d hd=> ?_) (fun d hd=> ?_)
 ·obtain⟨w1,w2,w3⟩:=vi (x:=d) hd.1 hd.2;have w7:wr ((i:Int)+1)=((i+1:Nat):Int):=aq (by omega)
  have step:lp bm.tree (.c3 l d (i:Int))=if kN l[i].f0 l[i].f1 l[i].f2 l[i].f3.f0 l[i].f3.f1 l[i].f3.f2=true then(if cY (dep l[i].f0 d) 0 3=true then lp bm.tree (.c3 l (dep l[i].f0 d) ((i+1:Nat):Int))else some false)else some false:=by
   rw[an];simp only[bm.tree,Tr.ae,Tr.ak,Tr.ag,Tr.ai,Tr.aj,iv.told,pG,aG.told,bc,ar h,aA h,aF h,and_self,decide_true,↓reduceIte,af,w1,w2,w7];cases kN l[i].f0 l[i].f1 l[i].f2 l[i].f3.f0 l[i].f3.f1 l[i].f3.f2
   ·rfl
   ·unfold dep
    by_cases h4:l[i].f0=4
    ·cases hb:cY (d+1) 0 3<;>simp[h4,hb]
    ·by_cases h5:l[i].f0=5
     ·cases hb:cY (d+1) 0 3<;>simp[h4,h5,hb]
     ·by_cases h6:l[i].f0=6
      ·cases hb:cY (d-1) 0 3<;>simp[h4,h5,h6,hb]
      ·cases hb:cY d 0 3<;>simp[h4,h5,h6,hb]
  rw[step];unfold pP;cases kN l[i].f0 l[i].f1 l[i].f2 l[i].f3.f0 l[i].f3.f1 l[i].f3.f2
  ·exact⟨fun s' hs'=>(by cases hs'),fun r hr=>(by cases hr;rfl)⟩
  ·cases hb:cY (dep l[i].f0 d) 0 3
   ·exact⟨fun s' hs'=>(by cases hs'),fun r hr=>(by cases hr;rfl)⟩
   ·exact⟨fun s' hs'=>(by cases hs';exact⟨rfl,aL.mp hb⟩),fun r hr=>(by cases hr)⟩
 ·rw[an];simp only[bm.tree,Tr.ae,Tr.ai,aV,Bool.false_eq_true,↓reduceIte];cases decide (d=0)<;>rfl
theorem g8 (l:List aB) (hl:l.length≤1048576):bE.f l=some (okB l.length l 0):=by
 simp only[bE.f,bE.begin,Tr.aj];rw[←o6];refine pb l pP _ (fun _ d=>0≤d∧d≤3) (fun i d=>lp bE.tree (.c3 l d l (List.length l:Int) (i:Int))) 0 ⟨by omega,by omega⟩ (fun i h d hd=> ?_) (fun d hd=> ?_)
 ·obtain⟨w1,w2,w3⟩:=vi (x:=d) hd.1 hd.2;have w7:wr ((i:Int)+1)=((i+1:Nat):Int):=aq (by omega);have rE:lp bE.tree .rE=some false:=by rw[an];rfl
  have tst:∀(x:Int) (A:Option Bool),(if x<0 then some false else if x>3 then some false else A)=if cY x 0 3=true then A else some false:=fun x A=>by
   by_cases q:x<0
   ·rw[if_pos q,if_neg (by rw[aL];omega)]
   ·rw[if_neg q]
    by_cases q':x>3
    ·rw[if_pos q',if_neg (by rw[aL];omega)]
    ·rw[if_neg q',if_pos (by rw[aL];omega)]
  have step:lp bE.tree (.c3 l d l (List.length l:Int) (i:Int))=if kN l[i].f0 l[i].f1 l[i].f2 l[i].f3.f0 l[i].f3.f1 l[i].f3.f2=true then(if cY (dep l[i].f0 d) 0 3=true then lp bE.tree (.c3 l (dep l[i].f0 d) l (List.length l:Int) ((i+1:Nat):Int))else some false)else some false:=by
   rw[an];simp only[bE.tree,Tr.ae,Tr.ak,Tr.ag,Tr.ai,Tr.aj,dx.told,lL,bS.told,bS.f,bS.begin,rE,ar h,aA h,aF h,and_self,decide_true,↓reduceIte,af,w1,w2,w3,w7,decide_eq_true_eq,tst];cases kN l[i].f0 l[i].f1 l[i].f2 l[i].f3.f0 l[i].f3.f1 l[i].f3.f2
   ·rfl
   ·unfold dep
    by_cases h4:l[i].f0=4
    ·simp[h4]
    ·by_cases h5:l[i].f0=5
     ·simp[h4,h5]
     ·by_cases h6:l[i].f0=6
      ·simp[h4,h5,h6]
      ·simp[h4,h5,h6]
  rw[step];unfold pP;cases kN l[i].f0 l[i].f1 l[i].f2 l[i].f3.f0 l[i].f3.f1 l[i].f3.f2
  ·exact⟨fun s' hs'=>(by cases hs'),fun r hr=>(by cases hr;rfl)⟩
  ·cases hb:cY (dep l[i].f0 d) 0 3
   ·exact⟨fun s' hs'=>(by cases hs'),fun r hr=>(by cases hr;rfl)⟩
   ·exact⟨fun s' hs'=>(by cases hs';exact⟨rfl,aL.mp hb⟩),fun r hr=>(by cases hr)⟩
 ·rw[an];simp only[bE.tree,Tr.ae,Tr.ai,aV,Bool.false_eq_true,↓reduceIte];cases decide (d=0)<;>rfl
def isVal (x:Int):Bool:=cY x (-1000000) 1000000
theorem jD (x:Int):ek.f x=some (isVal x):=by
 simp only[ek.f,ek.begin,Tr.ag,Tr.ai,aG.told,bc,af,isVal]
theorem iT (x:Int):dD.f x=some (isVal x):=by
 simp only[dD.f,dD.begin,Tr.ag,Tr.ai,aI.told,aZ,af,isVal]
theorem ja (l:List Int) (hl:l.length≤1048576):cw.f l=some (l.all isVal):=by
 simp only[cw.f,cw.begin,Tr.aj]
 have e:=nA l isVal true (fun i=>lp cw.tree (.c2 l (i:Int))) (fun i h=>by
  rw[an];simp only[cw.tree,Tr.ae,Tr.ak,Tr.ag,Tr.ai,Tr.aj,ek.told,jD,af,ar h,aA h,aF h,and_self,decide_true,↓reduceIte,aq (show i<4611686018427387904 by omega)];cases isVal l[i]<;>rfl) (by
  rw[an];simp only[cw.tree,Tr.ae,Tr.ai,aV,Bool.false_eq_true,↓reduceIte])
 rw[Bool.and_true]at e;exact e
theorem sM {A:Type} (l:List A) (p:A→Bool):(!(l.any fun x=> !p x))=l.all p:=by
 induction l with
 | nil=>rfl
 | cons a l ih=>rw[List.any_cons,List.all_cons,←ih];cases p a<;>simp
theorem hZ (l:List Int) (hl:l.length≤1048576):dc.f l=some (l.all isVal):=by
 obtain⟨r,hr,hd⟩:=pa l (fun x=> !isVal x) (fun i=>lp aD.tree (.c2 l (List.length l:Int) (i:Int))) (fun i h=>by
  rw[an];simp only[aD.tree,Tr.ae,Tr.ak,Tr.ag,Tr.ai,Tr.aj,fa.told,fa.f,fa.begin,dD.told,iT,af,ar h,aA h,aF h,and_self,decide_true,↓reduceIte,aq (show i<4611686018427387904 by omega)]) (by
  rw[an];simp only[aD.tree,Tr.ae,Tr.ai,aV,Bool.false_eq_true,↓reduceIte])
 have hr':lp aD.tree (.c2 l (List.length l:Int) 0)=some r:=hr;simp only[dc.f,dc.begin,Tr.ag,Tr.ai,bd.told,bd.f,bd.begin,aD.told,aD.f,aD.begin,Tr.aj,hr',af,hd,sM]
theorem lQ (l:List Int) (hl:l.length≤1048576):gh.f l=some (l.all isVal&&decide ((l.length:Int)=8)):=by
 simp only[gh.f,gh.begin,Tr.ag,Tr.ae,Tr.ai,dc.told,hZ l hl,af];cases decide ((l.length:Int)=8)<;>simp
theorem fits {A B:Type} (l:List A) (m:List B) (hl:l.length≤1048576) (hm:m.length≤1048576) (k:Nat) (hk:k≤1000):((l.length:Int)+(m.length:Int))*(k:Nat)≤room:=by
 unfold room;have h1:((l.length:Int)+(m.length:Int))*(k:Int)≤2097152*(k:Int):=Int.mul_le_mul_of_nonneg_right (by omega) (by omega);omega
theorem bZ (l:List Int) (hl:l.length≤1048576):aT.f l=some l:=by
 simp only[aT.f,aT.begin,Tr.uu,Tr.ai,Tr.ak,fits ([]:List Int) l (by simp) hl 8 (by omega),↓reduceIte,List.nil_append];cases l<;>simp
theorem jW (l:List aB) (hl:l.length≤1048576):cg.f l=some l:=by
 simp only[cg.f,cg.begin,Tr.uu,Tr.ai,Tr.ak,fits ([]:List aB) l (by simp) hl 48 (by omega),↓reduceIte,List.nil_append];cases l<;>simp
def yn (t:aC):Bool:=okB t.f0.length t.f0 0&&l7 t.f1.f0 t.f1.f1 t.f1.f2
def pI (l:List aC):Bool:=l.all yn&&cY (l.length:Int) 1 6
theorem nf (l:List aC) (hl:l.length≤1048576) (hs:∀t∈l,t.f0.length≤1048576):dd.f l=some (pI l):=by
 simp only[dd.f,dd.begin,Tr.aj];refine nA l yn _ (fun i=>lp dd.tree (.c2 l (i:Int))) (fun i h=> ?_) ?_
 ·rw[an];simp only[dd.tree,Tr.ae,Tr.ak,Tr.ag,Tr.ai,Tr.aj,bm.told,iU _ (hs _ (List.getElem_mem h)),cy.told,eJ,af,ar h,aA h,aF h,and_self,decide_true,↓reduceIte,aq (show i<4611686018427387904 by omega),yn];rcases Bool.eq_false_or_eq_true (okB l[i].f0.length l[i].f0 0)with q | q<;>rcases Bool.eq_false_or_eq_true (l7 l[i].f1.f0 l[i].f1.f1 l[i].f1.f2)with q' | q'<;>simp[q,q']
 ·rw[an];simp only[dd.tree,Tr.ae,Tr.ag,Tr.ai,aG.told,bc,af,aV,Bool.false_eq_true,↓reduceIte]
theorem ka (l:List aC) (hl:l.length≤1048576) (hs:∀t∈l,t.f0.length≤1048576):dK.f l=some (pI l):=by
 obtain⟨r,hr,hd⟩:=pa l (fun x=> !yn x) (fun i=>lp az.tree (.c2 l (List.length l:Int) (i:Int))) (fun i h=>by
  rw[an];simp only[az.tree,Tr.ae,Tr.ak,Tr.ag,Tr.ai,Tr.aj,fe.told,fe.f,fe.begin,dn.told,dn.f,dn.begin,bE.told,g8 _ (hs _ (List.getElem_mem h)),cV.told,fJ,af,ar h,aA h,aF h,and_self,decide_true,↓reduceIte,aq (show i<4611686018427387904 by omega),yn];rcases Bool.eq_false_or_eq_true (okB l[i].f0.length l[i].f0 0)with q | q<;>rcases Bool.eq_false_or_eq_true (l7 l[i].f1.f0 l[i].f1.f1 l[i].f1.f2)with q' | q'<;>simp[q,q']) (by
  rw[an];simp only[az.tree,Tr.ae,Tr.ai,aV,Bool.false_eq_true,↓reduceIte])
 have hr':lp az.tree (.c2 l (List.length l:Int) 0)=some r:=hr;simp only[dK.f,dK.begin,Tr.ag,Tr.ae,Tr.ai,aI.told,aZ,aP.told,aP.f,aP.begin,az.told,az.f,az.begin,Tr.aj,hr',af,hd,sM,pI];cases cY (l.length:Int) 1 6<;>simp
def fS (a b c d:Int):Bool:=cY b 1 5000&&(cY a 0 b&&(cY c 1 b&&cY d 0 100))
theorem oL (a b c d:Int):gP.f a b c d=some (fS a b c d):=by
 simp only[gP.f,gP.begin,Tr.ag,Tr.ae,Tr.ai,aG.told,bc,af,fS];cases cY b 1 5000<;>cases cY a 0 b<;>cases cY c 1 b<;>rfl
theorem oK (a b c d:Int):gO.f a b c d=some (fS a b c d):=by
 simp only[gO.f,gO.begin,Tr.ag,Tr.ae,Tr.ai,aI.told,aZ,af,fS];cases cY b 1 5000<;>cases cY a 0 b<;>cases cY c 1 b<;>rfl
theorem nZ (l:List aC) (hl:l.length≤1048576) (hs:∀t∈l,t.f0.length≤1048576):cJ.f l=some l:=by
 simp only[cJ.f,cJ.begin,Tr.aj]
 have e:=tG l (fun t:aC=>t) id (fun i s=>lp cJ.tree (.c3 l [] s (i:Int))) [] (fun i h=>by
  rw[an];have hr:bG l (i:Int)=l[i]:=ar h;have hin:=aF h;have hlt:=aA h;have h1:(([]:List aB).length+(l[i].f0.length:Int))*(48:Nat)≤room:=fits [] l[i].f0 (by simp) (hs _ (List.getElem_mem h)) 48 (by omega);have h2:∀t:aC,((([]++(l.take i).map (fun t:aC=>t)).length:Int)+(([t]:List aC).length:Int))*(48:Nat)≤room:=fun t=>fits _ [t] (by simp;omega) (by simp) 48 (by omega);generalize ([]++(l.take i).map (fun t:aC=>t))=acc at h2⊢
  have c4:∀s,lp cJ.tree (.c4 l [] s (i:Int))=lp cJ.tree (.c3 l [] s ((i+1:Nat):Int)):=fun s=>by
   rw[an];simp only[cJ.tree,Tr.aj,aq (show i<4611686018427387904 by omega)]
  simp only[cJ.tree,Tr.ae,Tr.ak,Tr.bI,Tr.au,Tr.eu,Tr.aj,hr,hin,hlt,and_self,decide_true,↓reduceIte,h1,h2,c4,List.nil_append,aU]) (fun s=>by
  rw[an];simp only[cJ.tree,Tr.ae,Tr.ai,aV,Bool.false_eq_true,↓reduceIte,id])
 rw[List.map_id'']at e
 ·exact e
 ·exact fun _=>rfl
theorem lR (l:List aC) (hl:l.length≤1048576) (hs:∀t∈l,t.f0.length≤1048576):cu.f l=some l:=by
 simp only[cu.f,cu.begin,Tr.aj]
 have e:=tG l (fun t:aC=>t) id (fun i s=>lp cu.tree (.c3 [] s l (List.length l:Int) (i:Int))) [] (fun i h=>by
  rw[an];have hr:bG l (i:Int)=l[i]:=ar h;have hin:=aF h;have hlt:=aA h;have h2:∀t:aC,((([]++(l.take i).map (fun t:aC=>t)).length:Int)+(([t]:List aC).length:Int))*(48:Nat)≤room:=fun t=>fits _ [t] (by simp;omega) (by simp) 48 (by omega);generalize ([]++(l.take i).map (fun t:aC=>t))=acc at h2⊢;simp only[cu.tree,Tr.ae,Tr.ak,Tr.bI,Tr.au,Tr.ag,Tr.ai,Tr.aj,gL.told,gL.f,gL.begin,cg.told,jW _ (hs _ (List.getElem_mem h)),af,hr,hin,hlt,and_self,decide_true,↓reduceIte,h2,aU,aq (show i<4611686018427387904 by omega)]) (fun s=>by
  rw[an];simp only[cu.tree,Tr.ae,Tr.ai,aV,Bool.false_eq_true,↓reduceIte,id])
 rw[List.map_id'']at e
 ·exact e
 ·exact fun _=>rfl
theorem zd (l:List gd) (n:Nat) (h:qv l≤n):l.length≤n∧(∀t∈l,t.f0.length≤n)∧wt (l.map ku)≤6*n:=by
 have key:∀l:List gd,(∀t∈l,t.f0.length≤(l.map fun t=>t.f0.length).sum)∧wt (l.map ku)=6*(l.map fun t=>t.f0.length).sum+3*l.length:=by
  intro l
  induction l with
  | nil=>exact⟨by simp,rfl⟩
  | cons t l ih=>
    refine⟨fun u hu=> ?_,?_⟩
    ·rw[List.map_cons,List.sum_cons];rcases List.mem_cons.mp hu with rfl | hu
     ·omega
     ·have:=ih.1 u hu;omega
    ·have h2:=ih.2;unfold wt at h2⊢;rw[List.map_cons,List.map_cons,List.sum_cons,h2,List.map_cons,List.sum_cons,List.length_cons];show 6*(t.f0.map r9).length+3+_=_;rw[List.length_map];omega
 obtain⟨h1,h2⟩:=key l;unfold qv at h;exact⟨by omega,fun t ht=>by have:=h1 t ht;omega,by omega⟩
def pack (a b c:Int):Int:=if(cY a 0 5&&(cY b 0 8&&cY c 0 24))=true then a+8*(b+16*c)else -1
theorem sK (a b c:Int) (h:(cY a 0 5&&(cY b 0 8&&cY c 0 24))=true):wr (a+wr (8*wr (b+wr (16*c))))=a+8*(b+16*c):=by
 rw[Bool.and_eq_true,Bool.and_eq_true,aL,aL,aL]at h;have w1:wr (16*c)=16*c:=aQ (by omega);have w2:wr (b+16*c)=b+16*c:=aQ (by omega);have w3:wr (8*(b+16*c))=8*(b+16*c):=aQ (by omega);have w4:wr (a+8*(b+16*c))=a+8*(b+16*c):=aQ (by omega);rw[w1,w2,w3,w4]
theorem wQ (a b c:Int):pack a b c≤3141:=by
 unfold pack;split
 ·rename_i h;rw[Bool.and_eq_true,Bool.and_eq_true,aL,aL,aL]at h;omega
 ·omega
theorem gq (a b c:Int):bU.f a b c=some (pack a b c):=by
 simp only[bU.f,bU.begin,Tr.ag,Tr.ae,Tr.ai,aG.told,bc,af];have h:=sK a b c;unfold pack
 by_cases q:(cY a 0 5&&(cY b 0 8&&cY c 0 24))=true
 ·rw[h q];rw[Bool.and_eq_true,Bool.and_eq_true]at q;simp[q.1,q.2.1,q.2.2]
 ·clear h;cases qa:cY a 0 5<;>cases qb:cY b 0 8<;>cases qc:cY c 0 24<;>simp_all
theorem gp (a b c:Int):bQ.f a b c=some (pack a b c):=by
 simp only[bQ.f,bQ.begin,Tr.ag,Tr.ae,Tr.ai,aI.told,aZ,af];have h:=sK a b c;unfold pack
 by_cases q:(cY a 0 5&&(cY b 0 8&&cY c 0 24))=true
 ·rw[h q];rw[Bool.and_eq_true,Bool.and_eq_true]at q;simp[q.1,q.2.1,q.2.2]
 ·clear h;cases qa:cY a 0 5<;>cases qb:cY b 0 8<;>cases qc:cY c 0 24<;>simp_all
def unpack (c:Int):Int×Int×Int:=
 if c<0 then(-1,-1,-1)else if pack (Int.tmod c 8) (Int.tmod (wr (Int.tdiv c 8)) 16) (wr (Int.tdiv c 128))=c then(Int.tmod c 8,Int.tmod (wr (Int.tdiv c 8)) 16,wr (Int.tdiv c 128))else(-1,-1,-1)
theorem fI (c:Int):bB.f c=some (unpack c):=by
 simp only[bB.f,bB.begin,Tr.ag,Tr.ae,Tr.ak,Tr.ai,bU.told,gq,af,unpack,decide_eq_true_eq]
 by_cases h:c<0
 ·rw[if_pos h,if_pos h]
 rw[if_neg h,if_neg h]
 by_cases h2:c>100000
 ·have:=wQ (Int.tmod c 8) (Int.tmod (wr (Int.tdiv c 8)) 16) (wr (Int.tdiv c 128));rw[if_pos h2,if_neg (by omega)]
 rw[if_neg h2]
 by_cases q:pack (Int.tmod c 8) (Int.tmod (wr (Int.tdiv c 8)) 16) (wr (Int.tdiv c 128))=c<;>simp[q]
theorem fD (c:Int):bC.f c=some (unpack c):=by
 simp only[bC.f,bC.begin,Tr.ag,Tr.ae,Tr.ak,Tr.ai,bQ.told,gp,af,unpack,decide_eq_true_eq]
 by_cases h:c<0
 ·simp[h]
 by_cases q:pack (Int.tmod c 8) (Int.tmod (wr (Int.tdiv c 8)) 16) (wr (Int.tdiv c 128))=c<;>simp[q,h]
theorem ln (c:Int):unpack c=(-1,-1,-1)∨(0≤(unpack c).1∧(unpack c).1≤5∧0≤(unpack c).2.1∧(unpack c).2.1≤8∧0≤(unpack c).2.2∧(unpack c).2.2≤24):=by
 unfold unpack;split
 ·exact .inl rfl
 split
 ·rename_i h q
  right
  unfold pack at q;split at q
  ·rename_i p;rw[Bool.and_eq_true,Bool.and_eq_true,aL,aL,aL]at p;exact⟨p.1.1,p.1.2,p.2.1.1,p.2.1.2,p.2.2.1,p.2.2.2⟩
  ·omega
 ·exact .inl rfl
def gV (m:List Int) (i:Nat):Bool:=cY (dh m (9+2*(i:Int))) 0 7&&isVal (dh m (9+2*(i:Int)+1))
theorem og (m:List Int) (hm:m.length=49) (i n:Nat) (h:i<n) (hn:n≤8):
 wr (2*(i:Int))=2*(i:Int)∧wr (9+2*(i:Int))=9+2*(i:Int)∧wr (9+2*(i:Int)+1)=9+2*(i:Int)+1∧((0:Int)≤9+2*(i:Int)∧9+2*(i:Int)<(m.length:Int))∧((0:Int)≤9+2*(i:Int)+1∧9+2*(i:Int)+1<(m.length:Int))∧wr ((i:Int)+1)=((i+1:Nat):Int):=
 ⟨aQ (by omega),aQ (by omega),aQ (by omega),by omega,by omega,aq (by omega)⟩
theorem pO (m:List Int) (hm:m.length=49) (n:Nat) (hn:n≤8):lp eY.tree (.c7 m (n:Int) 0)=some ((List.range n).all (gV m)):=by
 have e:=nA (List.range n) (gV m) true (fun i=>lp eY.tree (.c7 m (n:Int) (i:Int))) (fun i h=>by
  rw[List.length_range]at h;obtain⟨w1,w2,w3,n1,n2,w4⟩:=og m hm i n h hn;rw[an,List.getElem_range];simp only[eY.tree,Tr.ae,Tr.ak,Tr.ag,Tr.ai,Tr.aj,w1,w2,w3,w4,n1,n2,aA h,and_self,↓reduceIte,aG.told,bc,ek.told,jD,af,gV];rcases Bool.eq_false_or_eq_true (cY (dh m (9+2*(i:Int))) 0 7)with q | q<;>rcases Bool.eq_false_or_eq_true (isVal (dh m (9+2*(i:Int)+1)))with q' | q'<;>simp only[q,q',Bool.not_true,Bool.not_false,Bool.and_self,Bool.and_true,Bool.and_false,Bool.false_eq_true,↓reduceIte]) (by
  rw[an,List.length_range];simp only[eY.tree,Tr.ae,Tr.ai,aV,Bool.false_eq_true,↓reduceIte])
 rw[Bool.and_true]at e;exact e
theorem pM (m:List Int) (hm:m.length=49) (n:Nat) (hn:n≤8):lp fb.tree (.c7 m (n:Int) 0)=some ((List.range n).all (gV m)):=by
 have e:=nA (List.range n) (gV m) true (fun i=>lp fb.tree (.c7 m (n:Int) (i:Int))) (fun i h=>by
  rw[List.length_range]at h;obtain⟨w1,w2,w3,n1,n2,w4⟩:=og m hm i n h hn;rw[an,List.getElem_range];simp only[fb.tree,Tr.ae,Tr.ak,Tr.ag,Tr.ai,Tr.aj,w1,w2,w3,w4,n1,n2,aA h,and_self,↓reduceIte,dR.told,dR.f,dR.begin,aI.told,aZ,dD.told,iT,af,gV];rcases Bool.eq_false_or_eq_true (cY (dh m (9+2*(i:Int))) 0 7)with q | q<;>rcases Bool.eq_false_or_eq_true (isVal (dh m (9+2*(i:Int)+1)))with q' | q'<;>simp only[q,q',Bool.not_true,Bool.not_false,Bool.and_self,Bool.and_true,Bool.and_false,Bool.false_eq_true,↓reduceIte]) (by
  rw[an,List.length_range];simp only[fb.tree,Tr.ae,Tr.ai,aV,Bool.false_eq_true,↓reduceIte])
 rw[Bool.and_true]at e;exact e
def jV (m:List Int):List Int:=(m.take (Int.toNat (25+(unpack (dh m 8)).2.2))).drop 25
def iw (n:Nat) (m:List Int):Bool:=
 decide (m.length=49)&&(!decide ((unpack (dh m 8)).1<0)&&(!decide ((unpack (dh m 8)).1≥(n:Int))&&((m.take 8).all isVal&&((jV m).all isVal&&(List.range (Int.toNat (unpack (dh m 8)).2.1)).all (gV m)))))
theorem kX (m:List Int):(jV m).length≤m.length:=by
 unfold jV;rw[List.length_drop,List.length_take];omega
theorem np {c:Int} (h:¬(unpack c).1<0):0≤(unpack c).1∧(unpack c).1≤5∧0≤(unpack c).2.1∧(unpack c).2.1≤8∧0≤(unpack c).2.2∧(unpack c).2.2≤24:=by
 rcases ln c with e | e
 ·rw[e]at h;exact absurd (by decide) h
 ·exact e
theorem jQ (m:List Int) (hm:m.length=49) (h:¬(unpack (dh m 8)).1<0):
 wr (25+(unpack (dh m 8)).2.2)=25+(unpack (dh m 8)).2.2∧((0:Int)≤25∧(25:Int)≤25+(unpack (dh m 8)).2.2∧25+(unpack (dh m 8)).2.2≤(m.length:Int))∧∃n:Nat,(unpack (dh m 8)).2.1=(n:Int)∧n≤8:=by
 obtain⟨a,b,c,d,e,f⟩:=np h;exact⟨aQ (by omega),⟨by omega,by omega,by omega⟩,(unpack (dh m 8)).2.1.toNat,by omega,by omega⟩
theorem qM (p:List aC) (m:List Int) (hp:p.length≤1048576) (hs:∀t∈p,t.f0.length≤1048576):eY.f p m=some (pI p&&iw p.length m):=by
 simp only[eY.f,eY.begin,Tr.ag,Tr.ae,Tr.ai,dd.told,nf p hp hs,af];unfold iw;cases pI p
 ·rfl
 by_cases hm:¬m.length=49
 ·have hm':¬(m.length:Int)=49:=by omega
  simp only[hm,hm',decide_false,Bool.not_false,Bool.not_true,Bool.false_eq_true,↓reduceIte,Bool.false_and,Bool.and_false]
 have hm:m.length=49:=by omega
 have hm':decide ((m.length:Int)=49)=true:=decide_eq_true (by omega);have n1:(0:Int)≤8∧(8:Int)<(m.length:Int):=by omega
 have n2:(0:Int)≤0∧(0:Int)≤8∧(8:Int)≤(m.length:Int):=by omega
 have v1:=ja (m.take 8) (by rw[List.length_take];omega);have v2:=ja (jV m) (Nat.le_trans (kX m) (by omega));rw[show decide (m.length=49)=true from decide_eq_true hm];simp only[hm',Tr.ak,Tr.ae,Tr.ag,Tr.ai,Tr.aj,bB.told,fI,cw.told,af,n1,n2,and_self,↓reduceIte,decide_eq_true_eq,Bool.not_true,Bool.false_eq_true,Bool.true_and,show Int.toNat 8=8 from rfl,v1]
 by_cases h1:(unpack (dh m 8)).1<0
 ·simp only[h1,↓reduceIte,decide_true,decide_false,Bool.not_true,Bool.not_false,Bool.false_and,Bool.and_false,Bool.true_and,Bool.false_eq_true]
 by_cases h2:(unpack (dh m 8)).1≥(p.length:Int)
 ·simp only[h1,h2,↓reduceIte,decide_true,decide_false,Bool.not_true,Bool.not_false,Bool.false_and,Bool.and_false,Bool.true_and,Bool.false_eq_true]
 obtain⟨w,n3,n,hn,hn8⟩:=jQ m hm h1;have c7:=pO m hm n hn8;unfold jV at v2;simp only[h1,h2,w,n3,hn,and_self,↓reduceIte,decide_false,Bool.not_false,Bool.true_and,show Int.toNat 25=25 from rfl,v2,af,c7,Int.toNat_natCast,jV];rcases Bool.eq_false_or_eq_true ((m.take 8).all isVal)with q | q<;>simp only[q,Bool.not_true,Bool.not_false,Bool.false_eq_true,↓reduceIte,Bool.true_and,Bool.false_and]
 rcases Bool.eq_false_or_eq_true (((m.take (Int.toNat (25+(unpack (dh m 8)).2.2))).drop 25).all isVal)with q | q<;>simp only[q,Bool.not_true,Bool.not_false,Bool.false_eq_true,↓reduceIte,Bool.true_and,Bool.false_and]
theorem qB (p:List aC) (m:List Int) (hp:p.length≤1048576) (hs:∀t∈p,t.f0.length≤1048576):fb.f p m=some (pI p&&iw p.length m):=by
 simp only[fb.f,fb.begin,Tr.ag,Tr.ae,Tr.ai,dK.told,ka p hp hs,af];unfold iw;cases pI p
 ·rfl
 by_cases hm:¬m.length=49
 ·have hm':¬(m.length:Int)=49:=by omega
  simp only[hm,hm',decide_false,Bool.not_false,Bool.not_true,Bool.false_eq_true,↓reduceIte,Bool.false_and,Bool.and_false]
 have hm:m.length=49:=by omega
 have hm':decide ((m.length:Int)=49)=true:=decide_eq_true (by omega);have n1:(0:Int)≤8∧(8:Int)<(m.length:Int):=by omega
 have n2:(0:Int)≤0∧(0:Int)≤8∧(8:Int)≤(m.length:Int):=by omega
 have v1:=hZ (m.take 8) (by rw[List.length_take];omega);have v2:=hZ (jV m) (Nat.le_trans (kX m) (by omega));rw[show decide (m.length=49)=true from decide_eq_true hm];simp only[hm',Tr.ak,Tr.ae,Tr.ag,Tr.ai,Tr.aj,bC.told,fD,dc.told,af,n1,n2,and_self,↓reduceIte,decide_eq_true_eq,Bool.not_true,Bool.false_eq_true,Bool.true_and,show Int.toNat 8=8 from rfl,v1]
 by_cases h1:(unpack (dh m 8)).1<0
 ·cases(m.take 8).all isVal<;>simp only[h1,↓reduceIte,decide_true,decide_false,Bool.not_true,Bool.not_false,Bool.false_and,Bool.and_false,Bool.true_and,Bool.false_eq_true]
 by_cases h2:(unpack (dh m 8)).1≥(p.length:Int)
 ·cases(m.take 8).all isVal<;>simp only[h1,h2,↓reduceIte,decide_true,decide_false,Bool.not_true,Bool.not_false,Bool.false_and,Bool.and_false,Bool.true_and,Bool.false_eq_true]
 obtain⟨w,n3,n,hn,hn8⟩:=jQ m hm h1;have c7:=pM m hm n hn8;unfold jV at v2;simp only[h1,h2,w,n3,hn,and_self,↓reduceIte,decide_false,Bool.not_false,Bool.true_and,show Int.toNat 25=25 from rfl,v2,af,c7,Int.toNat_natCast,jV];rcases Bool.eq_false_or_eq_true ((m.take 8).all isVal)with q | q<;>simp only[q,Bool.not_true,Bool.not_false,Bool.false_eq_true,↓reduceIte,Bool.true_and,Bool.false_and]
 rcases Bool.eq_false_or_eq_true (((m.take (Int.toNat (25+(unpack (dh m 8)).2.2))).drop 25).all isVal)with q | q<;>simp only[q,Bool.not_true,Bool.not_false,Bool.false_eq_true,↓reduceIte,Bool.true_and,Bool.false_and]
theorem je (m:List Int) (hm:m.length=49):((0:Int)≤8∧(8:Int)<(m.length:Int)):=by omega
def cf (m:List Int):List Int:=if m.length=49 then(if(unpack (dh m 8)).2.2<0 then[]else jV m)else[]
theorem mm {c:Int} (h:¬(unpack c).2.2<0):¬(unpack c).1<0:=by
 rcases ln c with e | e
 ·rw[e]at h;exact absurd (by decide) h
 ·omega
theorem iH (m:List Int) (n:Nat) (h:m.length≤n):(cf m).length≤n:=by
 unfold cf;split
 ·split
  ·simp
  ·exact Nat.le_trans (kX m) h
 ·simp
theorem kY (m:List Int):fE.f m=some (cf m):=by
 simp only[fE.f,fE.begin,Tr.ae,Tr.ak,Tr.ag,Tr.ai,Tr.eu,bB.told,fI,af,List.nil_append];unfold cf
 by_cases hm:m.length=49
 ·have hm':decide ((m.length:Int)=49)=true:=decide_eq_true (by omega);rw[if_pos hm];simp only[hm',je m hm,and_self,Bool.not_true,Bool.false_eq_true,↓reduceIte,decide_eq_true_eq]
  by_cases h:(unpack (dh m 8)).2.2<0
  ·simp only[h,↓reduceIte]
  ·obtain⟨w,n1,-⟩:=jQ m hm (mm h);have hl:=kX m;have n2:((([]:List Int).length:Int)+((jV m).length:Int))*(8:Nat)≤room:=fits [] (jV m) (by simp) (by omega) 8 (by omega);simp only[h,w,n1,and_self,↓reduceIte];exact if_pos n2
 ·have hm':¬(m.length:Int)=49:=by omega
  simp only[hm,hm',decide_false,Bool.not_false,↓reduceIte]
theorem kS (m:List Int):fH.f m=some (cf m):=by
 simp only[fH.f,fH.begin,Tr.ae,Tr.ak,Tr.ag,Tr.ai,Tr.eu,bC.told,fD,af];unfold cf
 by_cases hm:m.length=49
 ·have hm':decide ((m.length:Int)=49)=true:=decide_eq_true (by omega);rw[if_pos hm];simp only[hm',je m hm,and_self,Bool.not_true,Bool.false_eq_true,↓reduceIte,decide_eq_true_eq]
  by_cases h:(unpack (dh m 8)).2.2<0
  ·simp only[h,↓reduceIte]
  ·obtain⟨w,n1,-⟩:=jQ m hm (mm h);have hl:=kX m;have n2:=bZ (jV m) (by omega);unfold jV at n2;simp only[h,w,n1,and_self,↓reduceIte,aT.told,show Int.toNat 25=25 from rfl,n2,af];rfl
 ·have hm':¬(m.length:Int)=49:=by omega
  simp only[hm,hm',decide_false,Bool.not_false,↓reduceIte]
def mh (a b:List Int):Bool:=decide (a.length≤b.length)&&decide (a=b.take a.length)
theorem mn (a b:List Int) (ha:a.length≤1048576) (hb:b.length≤1048576):bL.f a b=some (mh a b):=by
 simp only[bL.f,bL.begin,Tr.aj];unfold mh;have hend:∀i:Nat,decide ((i:Int)≥(i:Int))=true:=fun i=>decide_eq_true (by omega)
 by_cases h:a.length≤b.length
 ·rw[decide_eq_true h,Bool.true_and];refine vK a (b.take a.length) (by rw[List.length_take];omega) (fun i=>lp bL.tree (.c2 a b (i:Int))) (fun i hi=> ?_) ?_
  ·rw[an];have h2:i<b.length:=by omega
   have hn:decide ((i:Int)≥(b.length:Int))=false:=decide_eq_false (by omega);simp only[bL.tree,Tr.ae,Tr.ak,Tr.ai,Tr.aj,aA hi,hn,aF hi,aF h2,ar hi,ar h2,and_self,decide_true,Bool.false_eq_true,↓reduceIte,aq (show i<4611686018427387904 by omega),List.getElem_take]
   by_cases q:a[i]=b[i]<;>simp[q]
  ·rw[an];simp only[bL.tree,Tr.ae,Tr.ai,aV,Bool.false_eq_true,↓reduceIte]
 ·rw[decide_eq_false h,Bool.false_and];refine xL b.length false (fun i=>lp bL.tree (.c2 a b (i:Int))) (fun i hi=> ?_) ?_
  ·have h2:i<a.length:=by omega
   have hn:decide ((i:Int)≥(b.length:Int))=false:=decide_eq_false (by omega);rw[an];simp only[bL.tree,Tr.ae,Tr.ak,Tr.ai,Tr.aj,aA h2,hn,aF hi,aF h2,ar hi,ar h2,and_self,decide_true,Bool.false_eq_true,↓reduceIte,aq (show i<4611686018427387904 by omega)]
   by_cases q:a[i]=b[i]<;>simp[q]
  ·have h2:b.length<a.length:=by omega
   rw[an];simp only[bL.tree,Tr.ae,Tr.ai,aA h2,hend,↓reduceIte]
theorem kQ (a b:List Int) (ha:a.length≤1048576) (hab:a.length=b.length):bR.f a b=some (decide (a=b)):=by
 have hn:decide ((a.length:Int)=(b.length:Int))=true:=decide_eq_true (by omega);simp only[bR.f,bR.begin,Tr.ae,Tr.aj,hn,Bool.not_true,Bool.false_eq_true,↓reduceIte];refine vK a b hab (fun i=>lp bR.tree (.c4 a b (a.length:Int) (i:Int))) (fun i hi=> ?_) ?_
 ·rw[an];have h2:i<b.length:=by omega
  simp only[bR.tree,Tr.ae,Tr.ak,Tr.ai,Tr.aj,aA hi,aF hi,aF h2,ar hi,ar h2,and_self,decide_true,↓reduceIte,aq (show i<4611686018427387904 by omega)]
  by_cases q:a[i]=b[i]<;>simp[q]
 ·rw[an];simp only[bR.tree,Tr.ae,Tr.ai,aV,Bool.false_eq_true,↓reduceIte]
theorem ml (a b:List Int) (ha:a.length≤1048576) (hb:b.length≤1048576):eG.f a b=some (mh a b):=by
 simp only[eG.f,eG.begin,Tr.ag,Tr.ae,Tr.ak,Tr.ai];unfold mh
 by_cases h:a.length≤b.length
 ·have h':(a.length:Int)≤(b.length:Int):=by omega
  have n1:(0:Int)≤0∧(0:Int)≤(a.length:Int)∧(a.length:Int)≤(b.length:Int):=by omega
  simp only[h,h',n1,and_self,decide_true,↓reduceIte,Int.toNat_natCast,bR.told,kQ a (b.take a.length) ha (by rw[List.length_take];omega),af,Bool.true_and]
 ·have h':¬(a.length:Int)≤(b.length:Int):=by omega
  simp only[h,h',decide_false,Bool.false_eq_true,↓reduceIte,Bool.false_and]
def jz (m:List Int) (at_:Int) (h:List Int):Bool:=cY at_ 0 h.length&&mh h (cf m)
theorem lK (m:List Int) (x:Int) (h:List Int) (hm:m.length≤1048576) (hh:h.length≤1048576):gi.f m x h=some (jz m x h):=by
 simp only[gi.f,gi.begin,Tr.au,Tr.ag,Tr.ae,Tr.ai,aG.told,bc,fE.told,kY,bL.told,mn h (cf m) hh (iH m _ hm),af,jz];cases cY x 0 (h.length:Int)<;>rfl
theorem lM (m:List Int) (x:Int) (h:List Int) (hm:m.length≤1048576) (hh:h.length≤1048576):gg.f m x h=some (jz m x h):=by
 simp only[gg.f,gg.begin,Tr.au,Tr.ag,Tr.ae,Tr.ai,aI.told,aZ,fH.told,kS,eG.told,ml h (cf m) hh (iH m _ hm),af,jz];cases cY x 0 (h.length:Int)<;>rfl
def di (a b:Int):Bool:=decide (a≥0)&&(decide (a≤b)&&decide (b≤1000000))
theorem gJ (a b:Int):cS.f a b=some (di a b):=by
 simp only[cS.f,cS.begin,Tr.ae,Tr.ai,di];cases decide (a≥0)<;>cases decide (a≤b)<;>rfl
theorem eH (a b:Int):ck.f a b=some (di a b):=by
 simp only[ck.f,ck.begin,Tr.ae,Tr.ai,di];cases decide (a≥0)<;>cases decide (a≤b)<;>rfl
def iB (p:List aC) (m r:List Int) (a3 a4 a5 a6 a7 a8 a9 a10:Int) (h:List Int) (a12:Int):Bool:=
 (pI p&&iw p.length m)&&(fS a4 a5 a6 a7&&(r.all isVal&&(cY a3 0 400000&&(di a8 a9&&(jz m a10 h&&cY a12 0 100000)))))
theorem gG (p:List aC) (m r:List Int) (a3 a4 a5 a6 a7 a8 a9 a10:Int) (h:List Int) (a12:Int) (hp:p.length≤1048576) (hs:∀t∈p,t.f0.length≤1048576) (hm:m.length≤1048576) (hr:r.length≤1048576) (hh:h.length≤1048576):
 bk.f p m r a3 a4 a5 a6 a7 a8 a9 a10 h a12=some (iB p m r a3 a4 a5 a6 a7 a8 a9 a10 h a12):=by
 simp only[bk.f,bk.begin,Tr.ag,Tr.ae,Tr.ai,eY.told,qM p m hp hs,gP.told,oL,cw.told,ja r hr,aG.told,bc,cS.told,gJ,gi.told,lK m a10 h hm hh,af,iB];cases(pI p&&iw p.length m)<;>cases fS a4 a5 a6 a7<;>cases r.all isVal<;>cases cY a3 0 400000<;>cases di a8 a9<;>cases jz m a10 h<;>rfl
theorem gK (p:List aC) (m r:List Int) (a3 a4 a5 a6 a7 a8 a9 a10:Int) (h:List Int) (a12:Int) (hp:p.length≤1048576) (hs:∀t∈p,t.f0.length≤1048576) (hm:m.length≤1048576) (hr:r.length≤1048576) (hh:h.length≤1048576):
 bF.f p m r a3 a4 a5 a6 a7 a8 a9 a10 h a12=some (iB p m r a3 a4 a5 a6 a7 a8 a9 a10 h a12):=by
 simp only[bF.f,bF.begin,Tr.ag,Tr.ae,Tr.ai,fb.told,qB p m hp hs,gO.told,oK,dc.told,hZ r hr,aI.told,aZ,ck.told,eH,gg.told,lM m a10 h hm hh,af,iB];cases(pI p&&iw p.length m)<;>cases fS a4 a5 a6 a7<;>cases r.all isVal<;>cases cY a3 0 400000<;>cases di a8 a9<;>cases jz m a10 h<;>rfl
theorem j1 (l:List Int) (n:Int) (hl:l.length≤9223372036854775807) (h0:0≤n) (h1:n≤1048576):fZ.f l n=some (if n-l.length<0 then -1 else n-l.length):=by
 have w:wr (n-l.length)=n-l.length:=aQ (by omega);simp only[fZ.f,fZ.begin,Tr.ae,Tr.ai,w,decide_eq_true_eq];split<;>rfl
theorem pN (a:Int) (l:List Int) (n:Int) (hl:l.length≤9223372036854775807) (h0:0≤n) (h1:n≤1048576):iu.f a l n=some (if n-l.length<0 then -1 else n-l.length):=by
 simp only[iu.f,iu.begin,gn.told,gn.f,gn.begin,Tr.ae,Tr.ag,Tr.ai,fZ.told,j1 l n hl h0 h1,af,decide_eq_true_eq]
 by_cases h:n-(l.length:Int)<0
 ·simp[h]
 ·simp[h]
def gN (p:List gd) (m r h:List Int):Nat:=qv p+m.length+r.length+h.length
theorem pB (p:List gd) (m r:List Int) (a3 a4 a5 a6 a7 a8 a9 a10:Int) (h:List Int) (a12:Int) (n:Int) (hp:p.length≤9223372036854775807) (hs:∀t∈p,t.f0.length≤9223372036854775807) (hm:m.length≤9223372036854775807) (hr:r.length≤9223372036854775807) (hh:h.length≤9223372036854775807) (h0:0≤n) (h1:n≤1048576):
 gW.f p m r a3 a4 a5 a6 a7 a8 a9 a10 h a12 n=some (if(gN p m r h:Int)≤n then n-gN p m r h else -1):=by
 simp only[gW.f,gW.begin,Tr.ag,Tr.ae,Tr.ai,fk.told,mJ p n hp hs h0 h1,af,decide_eq_true_eq]
 by_cases q:(qv p:Int)≤n
 ·have q':¬(n-(qv p:Int)<0):=by omega
  simp only[q,q',↓reduceIte,fZ.told,j1 m (n-qv p) hm (by omega) (by omega),af]
  by_cases q1:n-(qv p:Int)-m.length<0
  ·simp only[q1,↓reduceIte];rw[if_pos (by decide),if_neg (by unfold gN;omega)]
  ·simp only[q1,↓reduceIte,j1 r (n-qv p-m.length) hr (by omega) (by omega),af]
   by_cases q2:n-(qv p:Int)-m.length-r.length<0
   ·simp only[q2,↓reduceIte];rw[if_pos (by decide),if_neg (by unfold gN;omega)]
   ·simp only[q2,↓reduceIte,iu.told,pN a10 h (n-qv p-m.length-r.length) hh (by omega) (by omega),af]
    by_cases q3:n-(qv p:Int)-m.length-r.length-h.length<0
    ·simp only[q3,↓reduceIte];rw[if_pos (by decide),if_neg (by unfold gN;omega)]
    ·simp only[q3,↓reduceIte];rw[if_pos (by unfold gN;omega)];unfold gN;refine congrArg some (show(_:Int)=_ from ?_);omega
 ·simp only[q,↓reduceIte];rw[if_pos (by decide),if_neg (by unfold gN;omega)]
theorem pJ (p:List gd) (m r:List Int) (a3 a4 a5 a6 a7 a8 a9 a10:Int) (h:List Int) (a12:Int) (hp:p.length≤1048576) (hs:∀t∈p,t.f0.length≤1048576) (hm:m.length≤1048576) (hr:r.length≤1048576) (hh:h.length≤1048576):
 dw.f p m r a3 a4 a5 a6 a7 a8 a9 a10 h a12=some (p.map ku,m,r,a3,a4,a5,a6,a7,a8,a9,a10,h,a12):=by
 simp only[dw.f,dw.begin,Tr.ag,Tr.ai,fw.told,m4 p hp hs,dA.told,jG m hm,jG r hr,iZ.told,nY,iN.told,iN.f,iN.begin,iO.told,iO.f,iO.begin,gm.told,gm.f,gm.begin,jG h hh,af]
theorem su (p:List gd) (m r h:List Int) (hn:gN p m r h≤1048576):
 p.length≤1048576∧(∀t∈p,t.f0.length≤1048576)∧m.length≤1048576∧r.length≤1048576∧h.length≤1048576∧(p.map ku).length≤1048576∧(∀t∈p.map ku,t.f0.length≤1048576)∧wt (p.map ku)≤100000000:=by
 unfold gN at hn;obtain⟨b1,b2,b3⟩:=zd p 1048576 (by omega);refine⟨b1,b2,by omega,by omega,by omega,by rw[List.length_map];exact b1,fun t ht=> ?_,by omega⟩;obtain⟨u,hu,rfl⟩:=List.mem_map.mp ht;show(u.f0.map r9).length≤1048576;rw[List.length_map];exact b2 u hu
theorem mG {A S R:Type} (l:List A) (f:S→A→S) (g:S→R) (Inv:Nat→S→Prop) (L:Nat→S→Option R) (s:S) (h0:Inv 0 s)
 (hstep:∀i (h:i<l.length) s,Inv i s→L i s=L (i+1) (f s l[i])∧Inv (i+1) (f s l[i])) (hend:∀s,Inv l.length s→L l.length s=some (g s)):L 0 s=some (g (l.foldl f s)):=by
 have key:∀(n i:Nat) s,i+n=l.length→Inv i s→L i s=some (g ((l.drop i).foldl f s)):=by
  intro n
  induction n with
  | zero=>intro i s hi hI;obtain rfl:i=l.length:=(by omega);rw[List.drop_length];exact hend s hI
  | succ n ih=>
    intro i s hi hI;have h:i<l.length:=by omega
    obtain⟨e,hI'⟩:=hstep i h s hI;rw[e,ih (i+1) _ (by omega) hI',List.drop_eq_getElem_cons h,List.foldl_cons]
 exact key l.length 0 s (by omega) h0
theorem oJ {B R:Type} (n:Nat) (f:Nat→B) (g:List B→R) (L:Nat→List B→Option R) (k:Nat) (hk:k≤n)
 (hstep:∀i,i<n→∀s:List B,s.length≤i→L i s=L (i+1) (s++[f i])) (hend:∀s,L n s=some (g s)):L k []=some (g ((List.range' k (n-k)).map f)):=by
 have key:∀(m i:Nat) (s:List B),i+m=n→s.length≤i→L i s=some (g (s++(List.range' i m).map f)):=by
  intro m
  induction m with
  | zero=>intro i s hi hs;obtain rfl:i=n:=(by omega);rw[hend];simp
  | succ m ih=>
    intro i s hi hs;rw[hstep i (by omega) s hs,ih (i+1) _ (by omega) (by rw[List.length_append,List.length_singleton];omega),List.range'_succ,List.map_cons,List.append_assoc];rfl
 have:=key (n-k) k [] (by omega) (by simp)
 simpa using this
def nm (l:List Int) (k:Int):List ju:=if cY k 0 l.length=true then(List.range' k.toNat (l.length-k.toNat)).map fun(i:Nat)=>(⟨(i:Int),dh l (i:Int)⟩:ju)else[]
theorem ry (l:List Int) (k:Int):(nm l k).length≤l.length:=by
 unfold nm;split
 ·rw[List.length_map,List.length_range'];omega
 ·simp
theorem bY {B:Type} (s:List B) (x:B) (n:Nat) (hs:s.length≤n) (hn:n≤1048576) (k:Nat) (hk:k≤1000):((s.length:Int)+(([x]:List B).length:Int))*(k:Nat)≤room:=fits s [x] (by omega) (by simp) k hk
theorem mL (m:List Int) (k:Int) (hm:m.length≤1048576):cT.f m k=some (nm (cf m) k):=by
 have hl:=iH m 1048576 hm;simp only[cT.f,cT.begin,Tr.ag,Tr.ae,Tr.ai,Tr.aj,fE.told,kY,aG.told,bc,af];unfold nm;cases hb:cY k 0 ((cf m).length:Int)with
 | false=>rfl
 | true=>
   rw[aL]at hb;obtain⟨j,rfl⟩:∃j:Nat,k=j:=⟨k.toNat,by omega⟩;simp only[Bool.not_true,Bool.false_eq_true,↓reduceIte,Int.toNat_natCast];refine oJ (cf m).length (fun i=>(⟨(i:Int),dh (cf m) (i:Int)⟩:ju)) id (fun i s=>lp cT.tree (.c6 s (cf m) (i:Int))) j (by omega) (fun i h s hs=> ?_) (fun s=> ?_)
   ·rw[an];have h1:∀x:ju,((s.length:Int)+(([x]:List ju).length:Int))*(16:Nat)≤room:=fun x=>bY s x 1048576 (by omega) (by omega) 16 (by omega);simp only[cT.tree,Tr.ae,Tr.ak,Tr.aj,aA h,aF h,and_self,h1,decide_true,↓reduceIte,aq (show i<4611686018427387904 by omega)]
   ·rw[an];simp only[cT.tree,Tr.ae,Tr.ai,aV,Bool.false_eq_true,↓reduceIte,id]
theorem mN (m:List Int) (k:Int) (hm:m.length≤1048576):cU.f m k=some (nm (cf m) k):=by
 have hl:=iH m 1048576 hm;simp only[cU.f,cU.begin,Tr.ag,Tr.ae,Tr.ai,Tr.aj,fH.told,kS m,aI.told,aZ,af];unfold nm;cases hb:cY k 0 ((cf m).length:Int)with
 | false=>rfl
 | true=>
   rw[aL]at hb;obtain⟨j,rfl⟩:∃j:Nat,k=j:=⟨k.toNat,by omega⟩;simp only[Bool.not_true,Bool.false_eq_true,↓reduceIte,Int.toNat_natCast];refine oJ (cf m).length (fun i=>(⟨(i:Int),dh (cf m) (i:Int)⟩:ju)) id (fun i s=>lp cU.tree (.c6 (cf m) s (i:Int))) j (by omega) (fun i h s hs=> ?_) (fun s=> ?_)
   ·rw[an];have h1:∀x:ju,((s.length:Int)+(([x]:List ju).length:Int))*(16:Nat)≤room:=fun x=>bY s x 1048576 (by omega) (by omega) 16 (by omega);simp only[cU.tree,Tr.ae,Tr.ak,Tr.aj,aA h,aF h,and_self,h1,decide_true,↓reduceIte,aq (show i<4611686018427387904 by omega)]
   ·rw[an];simp only[cU.tree,Tr.ae,Tr.ai,aV,Bool.false_eq_true,↓reduceIte,id]
def nr (g:List Int) (a b:Int):List Int:=if a=(g.length:Int)then(if(g.length:Int)<255 then g++[b]else g)else g
theorem uS (g:List Int) (a b:Int) (h:g.length≤1048576):(nr g a b).length≤1048576:=by
 unfold nr;split
 ·split
  ·rw[List.length_append,List.length_singleton];omega
  ·exact h
 ·exact h
theorem o4 (g:List Int) (a b:Int) (hg:g.length≤1048576):gT.f g a b=some (nr g a b):=by
 simp only[gT.f,gT.begin,Tr.ae,Tr.ak,Tr.ai,bY g b 1048576 hg (by omega) 8 (by omega),↓reduceIte,decide_eq_true_eq,nr];split
 ·split<;>rfl
 ·rfl
theorem oG (g:List Int) (a b:Int) (hg:g.length≤1048576):gS.f g a b=some (nr g a b,((nr g a b).length:Int)):=by
 simp only[gS.f,gS.begin,Tr.ae,Tr.ak,Tr.ai,Tr.ag,Tr.bI,Tr.au,aT.told,bZ g hg,af,bY g b 1048576 hg (by omega) 8 (by omega),↓reduceIte,decide_eq_true_eq,aU,nr];split
 ·split<;>rfl
 ·rfl
def jg (g:List Int) (p:ju×Bool):List Int:=if p.2=true then nr g p.1.f0 p.1.f1 else g
def ko (g:List Int) (l:List ju) (k:List Bool):List Int:=(l.zip k).foldl jg g
theorem lh (g:List Int) (p:ju×Bool) (h:g.length≤1048576):(jg g p).length≤1048576:=by
 unfold jg;split
 ·exact uS _ _ _ h
 ·exact h
theorem sk (g:List Int) (l:List ju) (k:List Bool) (h:g.length≤1048576):(ko g l k).length≤1048576:=
 p9 (l.zip k) jg (fun _ s=>s.length≤1048576) g h (fun i hi s hs=>lh _ _ hs)
theorem mf (g:List Int) (l:List ju) (k:List Bool) (hg:g.length≤1048576) (hl:l.length≤1048576) (hk:k.length≤1048576):bX.f g l k=some (ko g l k,((ko g l k).length:Int)):=by
 simp only[bX.f,bX.begin,Tr.ak,Tr.aj,fits ([]:List Int) g (by simp) hg 8 (by omega),↓reduceIte,List.nil_append];refine mG (l.zip k) jg (fun s=>(s,(s.length:Int))) (fun _ s=>s.length≤1048576) (fun i s=>lp bX.tree (.c3 l k [] s (i:Int))) g hg (fun i h s hs=> ?_) (fun s hs=> ?_)
 ·have h':=h;rw[List.length_zip]at h';have h1:i<l.length:=by omega
  have h2:i<k.length:=by omega
  refine⟨?_,lh _ _ hs⟩;rw[an,List.getElem_zip];simp only[bX.tree,Tr.ae,Tr.ak,Tr.aj,Tr.ag,gT.told,aA h1,aA h2,aF h1,aF h2,ar h1,ar h2,and_self,↓reduceIte,o4 s _ _ hs,af,aq (show i<4611686018427387904 by omega),jg];cases k[i]<;>rfl
 ·rw[an,List.length_zip]
  by_cases h:l.length≤k.length
  ·simp only[bX.tree,Tr.ae,Tr.ai,Nat.min_eq_left h,aV,Bool.false_eq_true,↓reduceIte]
  ·simp only[bX.tree,Tr.ae,Tr.ai,Nat.min_eq_right (by omega:k.length≤l.length),aV,Bool.false_eq_true,↓reduceIte];split<;>rfl
theorem mr (g:List Int) (l:List ju) (k:List Bool) (hg:g.length≤1048576) (hl:l.length≤1048576) (hk:k.length≤1048576):bO.f g l k=some (ko g l k,((ko g l k).length:Int)):=by
 simp only[bO.f,bO.begin,Tr.ag,Tr.aj,aT.told,bZ g hg,af];refine mG (l.zip k) jg (fun s=>(s,(s.length:Int))) (fun _ s=>s.length≤1048576) (fun i s=>lp bO.tree (.c3 k [] s l (List.length l:Int) (i:Int))) g hg (fun i h s hs=> ?_) (fun s hs=> ?_)
 ·have h':=h;rw[List.length_zip]at h';have h1:i<l.length:=by omega
  have h2:i<k.length:=by omega
  refine⟨?_,lh _ _ hs⟩;rw[an,List.getElem_zip];simp only[bO.tree,Tr.ae,Tr.ak,Tr.aj,Tr.ag,gS.told,aA h1,aA h2,aF h1,aF h2,ar h1,ar h2,and_self,↓reduceIte,oG s _ _ hs,af,aq (show i<4611686018427387904 by omega),jg];cases k[i]<;>rfl
 ·have key:∀(n i:Nat),i+n=l.length→min l.length k.length≤i→lp bO.tree (.c3 k [] s l (List.length l:Int) (i:Int))=some (s,(s.length:Int)):=by
   intro n
   induction n with
   | zero=>
     intro i hi _;obtain rfl:i=l.length:=by omega
     rw[an];simp only[bO.tree,Tr.ae,Tr.bI,Tr.au,Tr.ai,aV,Bool.false_eq_true,↓reduceIte,aU]
   | succ n ih=>
     intro i hi hm;have h1:i<l.length:=by omega
     have h2:decide ((i:Int)<(k.length:Int))=false:=decide_eq_false (by omega);rw[an];simp only[bO.tree,Tr.ae,Tr.ak,Tr.aj,aA h1,h2,aF h1,and_self,↓reduceIte,Bool.false_eq_true,aq (show i<4611686018427387904 by omega)];exact ih (i+1) (by omega) (by omega)
  rw[List.length_zip];exact key (l.length-min l.length k.length) (min l.length k.length) (by omega) (Nat.le_refl _)
theorem kZ (x:Int) (h:List Int) (hh:h.length≤1048576):fG.f x h=some (x,h):=by
 simp only[fG.f,fG.begin,Tr.bI,Tr.au,Tr.ak,Tr.ai,fits ([]:List Int) h (by simp) hh 8 (by omega),↓reduceIte,List.nil_append,aU]
theorem kC (x:Int) (h:List Int) (hh:h.length≤1048576):eK.f x h=some (x,h):=by
 simp only[eK.f,eK.begin,Tr.bI,Tr.au,Tr.ag,Tr.ai,aT.told,bZ h hh,af,aU]
def ia (m:List Int) (x:Int) (h:List Int) (k:List Bool) (b:Bool):Int×List Int×Bool:=
 if jz m x h=true then(if b=true then((ko h (nm (cf m) x) k).length:Int)else x,ko h (nm (cf m) x) k,true)else(x,h,false)
theorem mQ (m:List Int) (x:Int) (h:List Int) (k:List Bool) (b:Bool) (hm:m.length≤1048576) (hh:h.length≤1048576) (hk:k.length≤1048576):fp.f m x h k b=some (ia m x h k b):=by
 have hp:=Nat.le_trans (ry (cf m) x) (iH m _ hm);simp only[fp.f,fp.begin,Tr.ag,Tr.ae,Tr.bI,Tr.au,Tr.ai,fG.told,kZ x h hh,gi.told,lK m x h hm hh,cT.told,mL m x hm,bX.told,mf h _ k hh hp hk,af,aU,ia];cases jz m x h<;>cases b<;>rfl
theorem mS (m:List Int) (x:Int) (h:List Int) (k:List Bool) (b:Bool) (hm:m.length≤1048576) (hh:h.length≤1048576) (hk:k.length≤1048576):fu.f m x h k b=some (ia m x h k b):=by
 have hp:=Nat.le_trans (ry (cf m) x) (iH m _ hm);simp only[fu.f,fu.begin,Tr.ag,Tr.ae,Tr.bI,Tr.au,Tr.ai,eK.told,kC x h hh,gg.told,lM m x h hm hh,cU.told,mN m x hm,bO.told,mr h _ k hh hp hk,af,aU,ia];cases jz m x h<;>cases b<;>rfl
theorem iA (p:List aC) (m r:List Int) (a3 a4 a5 a6 a7 a8 a9 a10:Int) (h:List Int) (a12:Int) (hp:p.length≤1048576) (hs:∀t∈p,t.f0.length≤1048576) (hm:m.length≤1048576) (hr:r.length≤1048576) (hh:h.length≤1048576):
 aS.f p m r a3 a4 a5 a6 a7 a8 a9 a10 h a12=some (p,m,r,a3,a4,a5,a6,a7,a8,a9,a10,h,a12):=by
 simp only[aS.f,aS.begin,Tr.ag,Tr.ak,Tr.ai,cJ.told,nZ p hp hs,fG.told,kZ _ h hh,fits ([]:List Int) m (by simp) hm 8 (by omega),fits ([]:List Int) r (by simp) hr 8 (by omega),af,↓reduceIte,List.nil_append]
theorem gX (p:List aC) (m r:List Int) (a3 a4 a5 a6 a7 a8 a9 a10:Int) (h:List Int) (a12:Int) (hp:p.length≤1048576) (hs:∀t∈p,t.f0.length≤1048576) (hm:m.length≤1048576) (hr:r.length≤1048576) (hh:h.length≤1048576):
 bh.f p m r a3 a4 a5 a6 a7 a8 a9 a10 h a12=some (p,m,r,a3,a4,a5,a6,a7,a8,a9,a10,h,a12):=by
 simp only[bh.f,bh.begin,Tr.ag,Tr.au,Tr.ai,cu.told,lR p hp hs,aT.told,bZ m hm,bZ r hr,eK.told,kC _ h hh,af]
def oU (p:List aC) (m r:List Int) (a3 a4 a5 a6 a7 a8 a9 a10:Int) (h:List Int) (a12:Int) (k:List Bool) (b:Bool):List aC×List Int×List Int×Int×Int×Int×Int×Int×Int×Int×Int×List Int×Int×Bool:=
 if iB p m r a3 a4 a5 a6 a7 a8 a9 a10 h a12=true then(p,m,r,a3,a4,a5,a6,a7,a8,a9,(ia m a10 h k b).1,(ia m a10 h k b).2.1,a12,true)else(p,m,r,a3,a4,a5,a6,a7,a8,a9,a10,h,a12,false)
theorem pD (p:List aC) (m r:List Int) (a3 a4 a5 a6 a7 a8 a9 a10:Int) (h:List Int) (a12:Int) (k:List Bool) (b:Bool) (hp:p.length≤1048576) (hs:∀t∈p,t.f0.length≤1048576) (hm:m.length≤1048576) (hr:r.length≤1048576) (hh:h.length≤1048576) (hk:k.length≤1048576):
 ik.f p m r a3 a4 a5 a6 a7 a8 a9 a10 h a12 k b=some (oU p m r a3 a4 a5 a6 a7 a8 a9 a10 h a12 k b):=by
 simp only[ik.f,ik.begin,Tr.ag,Tr.ae,Tr.ai,aS.told,iA p m r a3 a4 a5 a6 a7 a8 a9 a10 h a12 hp hs hm hr hh,bk.told,gG p m r a3 a4 a5 a6 a7 a8 a9 a10 h a12 hp hs hm hr hh,fp.told,mQ m a10 h k b hm hh hk,af,oU];cases iB p m r a3 a4 a5 a6 a7 a8 a9 a10 h a12<;>rfl
theorem pA (p:List aC) (m r:List Int) (a3 a4 a5 a6 a7 a8 a9 a10:Int) (h:List Int) (a12:Int) (k:List Bool) (b:Bool) (hp:p.length≤1048576) (hs:∀t∈p,t.f0.length≤1048576) (hm:m.length≤1048576) (hr:r.length≤1048576) (hh:h.length≤1048576) (hk:k.length≤1048576):
 il.f p m r a3 a4 a5 a6 a7 a8 a9 a10 h a12 k b=some (oU p m r a3 a4 a5 a6 a7 a8 a9 a10 h a12 k b):=by
 simp only[il.f,il.begin,Tr.ag,Tr.ae,Tr.ai,bh.told,gX p m r a3 a4 a5 a6 a7 a8 a9 a10 h a12 hp hs hm hr hh,bF.told,gK p m r a3 a4 a5 a6 a7 a8 a9 a10 h a12 hp hs hm hr hh,fu.told,mS m a10 h k b hm hh hk,af,oU];cases iB p m r a3 a4 a5 a6 a7 a8 a9 a10 h a12<;>rfl
theorem qA (m:List Int) (x:Int) (h:List Int) (k:List Bool) (b:Bool) (hh:h.length≤1048576):(ia m x h k b).2.1.length≤1048576:=by
 unfold ia;split
 ·exact sk _ _ _ hh
 ·exact hh
def sat (n:Int):Int:=if n< -1000000 then -1000000 else if n>1000000 then 1000000 else n
theorem kU (n:Int): -1000000≤sat n∧sat n≤1000000:=by unfold sat;split;omega;split<;>omega
theorem qp (a:Int):db.f a (-1000000) 1000000=some (sat a):=by
 simp only[db.f,db.begin,Tr.ae,Tr.ai,decide_eq_true_eq,sat];rw[if_neg (by omega)];split
 ·rfl
 ·split<;>rfl
theorem qH (a:Int):cm.f a (-1000000) 1000000=some (sat a):=by
 simp only[cm.f,cm.begin,Tr.ae,Tr.ai,decide_eq_true_eq,sat];rw[if_neg (by omega)];refine congrArg some (show(_:Int)=_ from ?_);split<;>split<;>(try split)<;>(try split)<;>omega
theorem jo (a:Int):cL.f a=some (sat a):=by simp only[cL.f,cL.begin,Tr.ag,Tr.ai,db.told,qp,af]
theorem jl (a:Int):cM.f a=some (sat a):=by simp only[cM.f,cM.begin,Tr.ag,Tr.ai,cm.told,qH,af]
theorem sZ (a b:Int):wr (sat a+sat b)=sat a+sat b:=aQ (by have:=kU a;have:=kU b;omega)
theorem sY (a b:Int):wr (sat a-sat b)=sat a-sat b:=aQ (by have:=kU a;have:=kU b;omega)
theorem zv (x y:Int) (hx: -1000000≤x∧x≤1000000) (hy: -1000000≤y∧y≤1000000): -1000000000000≤x*y∧x*y≤1000000000000:=by
 have h1:=Int.mul_nonneg (a:=1000000-x) (b:=1000000-y) (by omega) (by omega);have h2:=Int.mul_nonneg (a:=1000000+x) (b:=1000000+y) (by omega) (by omega);have h3:=Int.mul_nonneg (a:=1000000-x) (b:=1000000+y) (by omega) (by omega);have h4:=Int.mul_nonneg (a:=1000000+x) (b:=1000000-y) (by omega) (by omega);rw[Int.sub_mul,Int.mul_sub,Int.mul_sub]at h1;rw[Int.add_mul,Int.mul_add,Int.mul_add]at h2;rw[Int.sub_mul,Int.mul_add,Int.mul_add]at h3;rw[Int.add_mul,Int.mul_sub,Int.mul_sub]at h4;generalize x*y=p at*;omega
theorem te (a b:Int):wr (sat a*sat b)=sat a*sat b:=aQ (by have:=zv _ _ (kU a) (kU b);omega)
theorem kg (a b:Int):dL.f a b=some (sat (sat a+sat b)):=by simp only[dL.f,dL.begin,Tr.ag,Tr.ai,cL.told,jo,af,sZ]
theorem kb (a b:Int):dJ.f a b=some (sat (sat a+sat b)):=by simp only[dJ.f,dJ.begin,Tr.ag,Tr.ai,cM.told,jl,af,sZ]
theorem ni (a b:Int):fq.f a b=some (sat (sat a-sat b)):=by simp only[fq.f,fq.begin,Tr.ag,Tr.ai,cL.told,jo,af,sY]
theorem na (a b:Int):fm.f a b=some (sat (sat a-sat b)):=by simp only[fm.f,fm.begin,Tr.ag,Tr.ai,cM.told,jl,af,sY]
theorem mW (a b:Int):fr.f a b=some (sat (sat a*sat b)):=by simp only[fr.f,fr.begin,Tr.ag,Tr.ai,cL.told,jo,af,te]
theorem mP (a b:Int):fl.f a b=some (sat (sat a*sat b)):=by simp only[fl.f,fl.begin,Tr.ag,Tr.ai,cM.told,jl,af,te]
def sa (b:Bool):Int:=if b=true then 1 else 0
theorem j0 (b:Bool):gA.f b=some (sa b):=by cases b<;>rfl
theorem l6 (b:Bool):iW.f b=some (sa b):=by cases b<;>rfl
def val (vs:List Int) (n:Int):Int:=if n<0 then dh vs (-1-n)else n
theorem pS {vs:List Int} {n:Int} (hv:vs.length=8) (hn: -8≤n) (h:n<0):wr (-1-n)= -1-n∧((0:Int)≤-1-n∧-1-n<(vs.length:Int)):=⟨aQ (by omega),by omega,by omega⟩
theorem kD (vs:List Int) (n:Int) (hv:vs.length=8) (hn: -8≤n):fK.f vs n=some (val vs n):=by
 simp only[fK.f,fK.begin,Tr.ae,Tr.ak,Tr.ai,decide_eq_true_eq];unfold val
 by_cases h:n<0
 ·obtain⟨w,f⟩:=pS hv hn h;rw[if_pos h,if_pos h,w,if_pos f]
 ·rw[if_neg h,if_neg h]
theorem ld (vs:List Int) (n:Int) (hv:vs.length=8) (hn: -8≤n):gl.f vs n=some (val vs n):=by
 simp only[gl.f,gl.begin,Tr.ae,Tr.ak,Tr.ai,decide_eq_true_eq];unfold val
 by_cases h:n<0
 ·obtain⟨w,f⟩:=pS hv hn h;rw[if_pos h,if_pos h,w,if_pos f]
 ·rw[if_neg h,if_neg h]
def zn (vs:List Int) (o a b:Int):Int:=
 if o=1 then sat (sat (val vs a)+sat (val vs b))else if o=2 then sat (sat (val vs a)-sat (val vs b))else if o=3 then sat (sat (val vs a)*sat (val vs b))
 else if o=4 then(if val vs b<val vs a then val vs b else val vs a)else if o=5 then(if val vs b>val vs a then val vs b else val vs a)
 else if o=6 then sa (decide (val vs a<val vs b))else sa (decide (val vs a=val vs b))
theorem ov (vs:List Int) (o a b:Int) (hv:vs.length=8) (ha: -8≤a) (hb: -8≤b):cA.f vs o a b=some (zn vs o a b):=by
 simp only[cA.f,cA.begin,Tr.ag,Tr.ae,Tr.ai,fK.told,kD vs a hv ha,kD vs b hv hb,dL.told,kg,fq.told,ni,fr.told,mW,gA.told,j0,af,decide_eq_true_eq,zn];split
 ·rfl
 split
 ·rfl
 split
 ·rfl
 split
 ·rfl
 split
 ·rfl
 split<;>rfl
def rX (vs:List Int):Bool:=vs.all isVal&&decide ((vs.length:Int)=8)
theorem oc {o a b:Int} (h:l7 o a b=true):(1≤o∧o≤7)∧(-8≤a∧a≤999)∧(-8≤b∧b≤999):=by
 unfold l7 at h;rw[Bool.and_eq_true,Bool.and_eq_true,aL,aL,aL]at h;exact⟨h.1,h.2.1,h.2.2⟩
theorem xf {vs:List Int} (h:rX vs=true):vs.length=8:=by
 unfold rX at h;rw[Bool.and_eq_true]at h;have:=of_decide_eq_true h.2;omega
theorem nE (vs:List Int) (o a b:Int) (hl:vs.length≤1048576):cG.f vs o a b=some (if rX vs=true then(if l7 o a b=true then zn vs o a b else 0)else 0):=by
 simp only[cG.f,cG.begin,Tr.ag,Tr.ae,Tr.ai,Tr.au,gh.told,lQ vs hl,cV.told,fJ,af];show(if(!rX vs)=true then _ else _)=_;cases hv:rX vs with
 | false=>rfl
 | true=>
   cases hx:l7 o a b with
   | false=>rfl
   | true=>
     obtain⟨_,ha,hb⟩:=oc hx;have hl8:=xf hv;simp only[Bool.not_true,Bool.false_eq_true,↓reduceIte,gl.told,ld vs a hl8 ha.1,ld vs b hl8 hb.1,dJ.told,kb,fm.told,na,fl.told,mP,iW.told,l6,af,decide_eq_true_eq,zn];split
     ·rfl
     split
     ·rfl
     split
     ·rfl
     split
     ·rfl
     split
     ·rfl
     split<;>rfl
theorem pW {x:Int}:isVal x=true↔-1000000≤x∧x≤1000000:=aL
theorem sU {vs:List Int} (h:vs.all isVal=true) (i:Int):isVal (dh vs i)=true:=by
 unfold dh;rw[List.getD_eq_getElem?_getD];cases hg:vs[i.toNat]? with
 | none=>rfl
 | some x=>exact List.all_eq_true.mp h x (List.mem_of_getElem? hg)
theorem sV {vs:List Int} {n:Int} (h:vs.all isVal=true) (hn:n≤999):isVal (val vs n)=true:=by
 unfold val;split
 ·exact sU h _
 ·rw[pW];omega
theorem wL {vs:List Int} {o a b:Int} (hv:rX vs=true) (hx:l7 o a b=true):isVal (zn vs o a b)=true:=by
 unfold rX at hv;rw[Bool.and_eq_true]at hv;obtain⟨_,ha,hb⟩:=oc hx;have va:=sV (n:=a) hv.1 ha.2;have vb:=sV (n:=b) hv.1 hb.2;have hs:∀n,isVal (sat n)=true:=fun n=>pW.mpr (kU n);have h01:∀b,isVal (sa b)=true:=fun b=>by cases b<;>rfl
 unfold zn;split
 ·exact hs _
 split
 ·exact hs _
 split
 ·exact hs _
 split
 ·split
  ·exact vb
  ·exact va
 split
 ·split
  ·exact vb
  ·exact va
 split
 ·exact h01 _
 ·exact h01 _
def mq (m:List Int):Nat→List fL→Option (List fL)
 | 0,acc=>some acc
 | i+1,acc=>if cY (dh m (9+2*(i:Int))) 0 7=true then mq m i (acc++[(⟨dh m (9+2*(i:Int)),dh m (9+2*(i:Int)+1)⟩:fL)])else none
def mM (m:List Int) (o:Option (List fL)):List fL:=match o with
 | some l=>l++[(⟨8,pack (unpack (dh m 8)).1 0 (unpack (dh m 8)).2.2⟩:fL)]
 | none=>[]
def jw (m:List Int):List fL:=if m.length=49 then(if(unpack (dh m 8)).2.1<1 then[]else mM m (mq m (unpack (dh m 8)).2.1.toNat []))else[]
theorem rA (m:List Int):∀(i:Nat) (acc l:List fL),mq m i acc=some l→l.length=acc.length+i
 | 0,acc,l,h=>by cases h;rfl
 | i+1,acc,l,h=>by
   unfold mq at h;split at h
   ·have:=rA m i _ l h;rw[List.length_append,List.length_singleton]at this;omega
   ·cases h
theorem km (c:Int) (h:¬(unpack c).2.1<1):(unpack c).2.1≤8:=by
 rcases ln c with e | e
 ·rw[e]at h;exact absurd (by decide) h
 ·omega
theorem o5 (m:List Int):(jw m).length≤9:=by
 unfold jw;split
 ·split
  ·simp
  ·rename_i h;have h8:=km _ h;unfold mM;split
   ·rename_i l hl;have:=rA m _ _ _ hl;rw[List.length_append,List.length_singleton];rw[List.length_nil]at this;omega
   ·simp
 ·simp
theorem qd (m:List Int) (hm:m.length=49) (i:Nat) (hi:i<8):
 wr (2*(i:Int))=2*(i:Int)∧wr (9+2*(i:Int))=9+2*(i:Int)∧wr (9+2*(i:Int)+1)=9+2*(i:Int)+1∧((0:Int)≤9+2*(i:Int)∧9+2*(i:Int)<(m.length:Int))∧((0:Int)≤9+2*(i:Int)+1∧9+2*(i:Int)+1<(m.length:Int))∧wr ((i:Int)-1)=(i:Int)-1∧((i+1:Nat):Int)-1=(i:Int)∧decide ((i:Int)≥0)=true:=
 ⟨aQ (by omega),aQ (by omega),aQ (by omega),by omega,by omega,aQ (by omega),by omega,decide_eq_true (by omega)⟩
theorem lI (m:List Int) (hm:m.length=49) (t c tl:Int) (hc:¬c<1):∀(i:Nat) (acc:List fL),i≤8→acc.length+i≤8→
 lp aY.tree (.c6 m acc t c tl ((i:Int)-1))=some (match mq m i acc with | some l=>l++[(⟨8,pack t 0 tl⟩:fL)] | none=>[])
 | 0,acc,_,ha=>by
   rw[an];have h1:∀x:fL,((acc.length:Int)+(([x]:List fL).length:Int))*(16:Nat)≤room:=fun x=>fits acc [x] (by omega) (by simp) 16 (by omega);have h2:decide (((0:Nat):Int)-1≥0)=false:=by decide
   have h3:decide (c≤0)=false:=decide_eq_false (by omega);simp only[aY.tree,Tr.ae,Tr.ak,Tr.ag,Tr.ai,h2,h3,bU.told,gq,af,h1,Bool.false_eq_true,↓reduceIte,mq]
 | i+1,acc,hi,ha=>by
   rw[an];obtain⟨w1,w2,w3,n1,n2,w4,e1,e2⟩:=qd m hm i (by omega);have h1:∀x:fL,((acc.length:Int)+(([x]:List fL).length:Int))*(16:Nat)≤room:=fun x=>fits acc [x] (by omega) (by simp) 16 (by omega);simp only[aY.tree,Tr.ae,Tr.ak,Tr.ag,Tr.ai,Tr.eu,Tr.aj,e1,e2,w1,w2,w3,w4,n1,n2,and_self,aG.told,bc,af,h1,↓reduceIte];unfold mq;cases hb:cY (dh m (9+2*(i:Int))) 0 7 with
   | false=>rfl
   | true=>
     simp only[Bool.not_true,Bool.false_eq_true,↓reduceIte];exact lI m hm t c tl hc i _ (by omega) (by rw[List.length_append,List.length_singleton];omega)
theorem lH (m:List Int) (hm:m.length=49) (t tl:Int):∀(i:Nat) (acc:List fL),i≤8→acc.length+i≤8→
 lp bu.tree (.c8 m t tl acc ((i:Int)-1))=some (match mq m i acc with | some l=>l++[(⟨8,pack t 0 tl⟩:fL)] | none=>[])
 | 0,acc,_,ha=>by
   rw[an];have h1:∀x:fL,((acc.length:Int)+(([x]:List fL).length:Int))*(16:Nat)≤room:=fun x=>fits acc [x] (by omega) (by simp) 16 (by omega);have h2:decide (((0:Nat):Int)-1≥0)=false:=by decide
   simp only[bu.tree,Tr.ae,Tr.ak,Tr.ag,Tr.ai,h2,bQ.told,gp,af,h1,Bool.false_eq_true,↓reduceIte,mq]
 | i+1,acc,hi,ha=>by
   rw[an];obtain⟨w1,w2,w3,n1,n2,w4,e1,e2⟩:=qd m hm i (by omega);have h1:∀x:fL,((acc.length:Int)+(([x]:List fL).length:Int))*(16:Nat)≤room:=fun x=>fits acc [x] (by omega) (by simp) 16 (by omega);simp only[bu.tree,Tr.ae,Tr.ak,Tr.ag,Tr.ai,Tr.eu,Tr.aj,e1,e2,w1,w2,w3,w4,n1,n2,and_self,dR.told,dR.f,dR.begin,aI.told,aZ,af,h1,↓reduceIte];unfold mq;cases hb:cY (dh m (9+2*(i:Int))) 0 7 with
   | false=>rfl
   | true=>
     simp only[Bool.not_true,Bool.false_eq_true,↓reduceIte];exact lH m hm t tl i _ (by omega) (by rw[List.length_append,List.length_singleton];omega)
theorem pH (m:List Int) (t c tl i:Int) (hi:i<0) (hc:c<1):lp aY.tree (.c6 m [] t c tl i)=some []:=by
 rw[an];have h2:decide (i≥0)=false:=decide_eq_false (by omega);have h3:decide (c≤0)=true:=decide_eq_true (by omega);simp only[aY.tree,Tr.ae,Tr.ai,h2,h3,Bool.false_eq_true,↓reduceIte]
theorem iY (m:List Int):aY.f m=some (jw m):=by
 simp only[aY.f,aY.begin,Tr.ae,Tr.ak,Tr.ag,Tr.ai,Tr.aj,bB.told,fI,af];unfold jw
 by_cases hm:m.length=49
 ·have hm':decide ((m.length:Int)=49)=true:=decide_eq_true (by omega);rw[if_pos hm];simp only[hm',je m hm,and_self,Bool.not_true,Bool.false_eq_true,↓reduceIte]
  by_cases h:(unpack (dh m 8)).2.1<1
  ·rw[if_pos h]
   have hw:wr ((unpack (dh m 8)).2.1-1)<0:=by
    have:wr ((unpack (dh m 8)).2.1-1)=(unpack (dh m 8)).2.1-1:=aQ (by rcases ln (dh m 8)with e | e<;>first | (rw[e];decide) | omega);omega
   exact pH m _ _ _ _ hw h
  ·rw[if_neg h];have h8:=km _ h;obtain⟨n,hn⟩:∃n:Nat,(unpack (dh m 8)).2.1=n:=⟨(unpack (dh m 8)).2.1.toNat,by omega⟩;have hw:wr ((unpack (dh m 8)).2.1-1)=(n:Int)-1:=by rw[hn];exact aQ (by omega)
   rw[hw,lI m hm _ _ _ h n [] (by omega) (by simp;omega),hn,Int.toNat_natCast];rfl
 ·have hm':decide ((m.length:Int)=49)=false:=decide_eq_false (by omega);rw[if_neg hm];simp only[hm',Bool.not_false,↓reduceIte]
theorem iX (m:List Int):bu.f m=some (jw m):=by
 simp only[bu.f,bu.begin,Tr.ae,Tr.ak,Tr.ag,Tr.ai,Tr.aj,bC.told,fD,af,decide_eq_true_eq];unfold jw
 by_cases hm:m.length=49
 ·have hm':decide ((m.length:Int)=49)=true:=decide_eq_true (by omega);rw[if_pos hm];simp only[hm',je m hm,and_self,Bool.not_true,Bool.false_eq_true,↓reduceIte]
  by_cases h:(unpack (dh m 8)).2.1<1
  ·rw[if_pos h,if_pos h]
  ·rw[if_neg h,if_neg h];have h8:=km _ h;obtain⟨n,hn⟩:∃n:Nat,(unpack (dh m 8)).2.1=n:=⟨(unpack (dh m 8)).2.1.toNat,by omega⟩;have hw:wr ((unpack (dh m 8)).2.1-1)=(n:Int)-1:=by rw[hn];exact aQ (by omega)
   rw[hw,lH m hm _ _ n [] (by omega) (by simp;omega),hn,Int.toNat_natCast];rfl
 ·have hm':decide ((m.length:Int)=49)=false:=decide_eq_false (by omega);rw[if_neg hm];simp only[hm',Bool.not_false,↓reduceIte]
def xZ (m:List Int) (w:fL):List Int:=if cY w.f0 0 ((m.length:Int)-1)=true then m.set w.f0.toNat w.f1 else m
def iQ (m:List Int) (l:List fL):List Int:=l.foldl xZ m
theorem sJ (m:List Int) (w:fL):(xZ m w).length=m.length:=by unfold xZ;split<;>simp
theorem ou:∀(l:List fL) (m:List Int),(iQ m l).length=m.length
 | [],m=>rfl
 | w::l,m=>by
   show(iQ (xZ m w) l).length=_;rw[ou l,sJ]
theorem lU (m:List Int) (l:List fL) (k:Nat) (hm:m.length≤1048576) (hl:l.length≤1048576):bM.f m l (k:Int)=some (iQ m (l.take k)):=by
 simp only[bM.f,bM.begin,Tr.ak,Tr.aj,fits ([]:List Int) m (by simp) hm 8 (by omega),↓reduceIte,List.nil_append];refine mG (l.take k) xZ id (fun _ s=>s.length=m.length) (fun i s=>lp bM.tree (.c3 m l (k:Int) s (i:Int))) m rfl (fun i h s hs=> ?_) (fun s hs=> ?_)
 ·have h':=h;rw[List.length_take]at h';have h1:i<l.length:=by omega
  have h2:i<k:=by omega
  refine⟨?_,by rw[sJ];exact hs⟩;rw[an,List.getElem_take];have hw:wr ((m.length:Int)-1)=(m.length:Int)-1:=aQ (by omega);simp only[bM.tree,Tr.ae,Tr.ak,Tr.ag,Tr.aj,Tr.au,aG.told,bc,af,aA h1,aA h2,aF h1,ar h1,and_self,↓reduceIte,hw,aq (show i<4611686018427387904 by omega)];unfold xZ;rw[hs];cases hb:cY l[i].f0 0 ((m.length:Int)-1)with
  | false=>rfl
  | true=>
    rw[aL]at hb;have hn:(0:Int)≤l[i].f0∧l[i].f0<(m.length:Int):=by omega
    simp only[hn,and_self,decide_true,↓reduceIte]
 ·rw[an,List.length_take]
  by_cases h:l.length≤k
  ·simp only[bM.tree,Tr.ae,Tr.ai,Nat.min_eq_right h,aV,Bool.false_eq_true,↓reduceIte,id]
  ·simp only[bM.tree,Tr.ae,Tr.ai,Nat.min_eq_left (by omega:k≤l.length),aV,Bool.false_eq_true,↓reduceIte,id];split<;>rfl
theorem eL {n:Nat} {m:List Int} (h:iw n m=true):m.length=49∧¬(unpack (dh m 8)).1<0∧(unpack (dh m 8)).1<n∧(m.take 8).all isVal=true∧(jV m).all isVal=true∧(List.range (Int.toNat (unpack (dh m 8)).2.1)).all (gV m)=true:=by
 unfold iw at h;simp only[Bool.and_eq_true,decide_eq_true_eq,Bool.not_eq_true',decide_eq_false_iff_not]at h;exact⟨h.1,h.2.1,by omega,h.2.2.2.1,h.2.2.2.2.1,h.2.2.2.2.2⟩
theorem oX (m:List Int):fN.f m=some (if m.length=49 then m.take 8 else[]):=by
 simp only[fN.f,fN.begin,Tr.ae,Tr.ak,Tr.ai,List.nil_append]
 by_cases hm:m.length=49
 ·have hm':decide ((m.length:Int)=49)=true:=decide_eq_true (by omega);have n1:(0:Int)≤0∧(0:Int)≤8∧(8:Int)≤(m.length:Int):=by omega
  have n2:=fits ([]:List Int) (m.take (Int.toNat 8)) (by simp) (by rw[List.length_take];omega) 8 (by omega);rw[if_pos hm];simp only[hm',n1,n2,and_self,Bool.not_true,Bool.false_eq_true,↓reduceIte];rfl
 ·have hm':decide ((m.length:Int)=49)=false:=decide_eq_false (by omega);rw[if_neg hm];simp only[hm',Bool.not_false,↓reduceIte]
theorem om (m:List Int):fQ.f m=some (if m.length=49 then m.take 8 else[]):=by
 simp only[fQ.f,fQ.begin,Tr.ae,Tr.ak,Tr.ai,Tr.ag]
 by_cases hm:m.length=49
 ·have hm':decide ((m.length:Int)=49)=true:=decide_eq_true (by omega);have n1:(0:Int)≤0∧(0:Int)≤8∧(8:Int)≤(m.length:Int):=by omega
  rw[if_pos hm];simp only[hm',n1,and_self,Bool.not_true,Bool.false_eq_true,↓reduceIte,aT.told,bZ (m.take (Int.toNat 8)) (by rw[List.length_take];omega),af];rfl
 ·have hm':decide ((m.length:Int)=49)=false:=decide_eq_false (by omega);rw[if_neg hm];simp only[hm',Bool.not_false,↓reduceIte]
def Ok {A:Type} (o:Option A) (P:A→Prop):Prop:=∃r,o=some r∧P r
theorem upto {S R:Type} (N:Nat) (Inv:Nat→S→Prop) (L:Nat→S→Option R) (P:R→Prop)
 (h:∀i,i≤N→∀s,Inv i s→Ok (L i s) P∨(i<N∧∃s',L i s=L (i+1) s'∧Inv (i+1) s')):∀i,i≤N→∀s,Inv i s→Ok (L i s) P:=by
 have key:∀(n i:Nat),i+n=N→∀s,Inv i s→Ok (L i s) P:=by
  intro n
  induction n with
  | zero=>
    intro i hi s hs;rcases h i (by omega) s hs with e | ⟨e,_⟩
    ·exact e
    ·omega
  | succ n ih=>
    intro i hi s hs;rcases h i (by omega) s hs with e | ⟨_,s',e,hs'⟩
    ·exact e
    ·rw[e];exact ih (i+1) (by omega) s' hs'
 exact fun i hi s hs=>key (N-i) i (by omega) s hs
def Trans (d:Int) (l:List aB):Prop:=∀n t,okB n (l++t) d=okB n t d
theorem Trans.nil (d:Int):Trans d []:=fun _ _=>rfl
theorem k7 {a b c:Int} (ha:0≤a∧a≤5) (hb:0≤b∧b≤8) (hc:0≤c∧c≤24):unpack (pack a b c)=(a,b,c):=by
 have hp:∀x y z:Int,0≤x∧x≤5→0≤y∧y≤8→0≤z∧z≤24→pack x y z=x+8*(y+16*z):=fun x y z h1 h2 h3=>by
  unfold pack;rw[aL.mpr h1,aL.mpr h2,aL.mpr h3];rfl
 rw[hp a b c ha hb hc];unfold unpack;generalize hw:a+8*(b+16*c)=w;have w0:0≤w:=by omega
 have e1:Int.tmod w 8=a:=by rw[Int.tmod_eq_emod_of_nonneg w0];omega
 have e2:Int.tdiv w 8=b+16*c:=by rw[Int.tdiv_eq_ediv_of_nonneg w0];omega
 have e3:wr (b+16*c)=b+16*c:=aQ (by omega);have e4:Int.tmod (b+16*c) 16=b:=by rw[Int.tmod_eq_emod_of_nonneg (by omega)];omega
 have e5:Int.tdiv w 128=c:=by rw[Int.tdiv_eq_ediv_of_nonneg w0];omega
 have e6:wr c=c:=aQ (by omega);rw[e1,e2,e3,e4,e5,e6,hp a b c ha hb hc,if_neg (by omega),if_pos hw]
theorem qy {m:List Int} {k:Nat} {j:Int} {v:Int} (hk:k<m.length) (hj:j=(k:Int)):dh (m.set k v) j=v:=by
 subst hj;show(m.set k v).getD ((k:Int)).toNat 0=v;rw[List.getD,Int.toNat_natCast,List.getElem?_set_self hk];rfl
theorem wV {m:List Int} {k:Nat} {v:Int} (h:m.all isVal=true) (hv:isVal v=true):(m.set k v).all isVal=true:=by
 rw[List.all_eq_true]at h⊢;intro x hx;rcases List.mem_or_eq_of_mem_set hx with hx | rfl
 ·exact h x hx
 ·exact hv
def Clean (n:Nat) (m:List Int):Prop:=iw n m=true∧(unpack (dh m 8)).2.1=0
theorem mA {n:Nat} {m:List Int} {t c tl:Int} (hm:m.length=49) (e:unpack (dh m 8)=(t,c,tl)) (ht:0≤t∧t<n) (h8:(m.take 8).all isVal=true) (hs:(jV m).all isVal=true) (hl:(List.range c.toNat).all (gV m)=true):iw n m=true:=by
 unfold iw;rw[e,decide_eq_true hm,decide_eq_false (show¬t<0 by omega),decide_eq_false (show¬t≥(n:Int) by omega),h8,hs,hl];rfl
def pY (s:aB):Bool:=kN s.f0 s.f1 s.f2 s.f3.f0 s.f3.f1 s.f3.f2
def inr (lo hi:Int):List aB→Int→Bool
 | [],_=>true
 | s::l,d=>pY s&&(cY (dep s.f0 d) lo hi&&inr lo hi l (dep s.f0 d))
def fin:List aB→Int→Int
 | [],d=>d
 | s::l,d=>fin l (dep s.f0 d)
theorem iR (n:Nat):∀(l:List aB) (d:Int),okB n l d=true→inr 0 3 l d=true∧fin l d=0∧n≤24
 | [],d,h=>by
   unfold okB at h;rw[Bool.and_eq_true,decide_eq_true_eq,decide_eq_true_eq]at h;exact⟨rfl,h.1,by omega⟩
 | s::l,d,h=>by
   unfold okB at h;rw[Bool.and_eq_true,Bool.and_eq_true]at h;obtain⟨a,b,c⟩:=iR n l _ h.2.2;refine⟨?_,b,c⟩;unfold inr pY;rw[h.1,h.2.1,a];rfl
theorem sP (x d c:Int):dep x (d+c)=dep x d+c:=by unfold dep;split;omega;split<;>omega
theorem wU (x a b c:Int):cY (x+c) (a+c) (b+c)=cY x a b:=by
 rw[Bool.eq_iff_iff,aL,aL];omega
theorem qt (lo hi c:Int):∀(l:List aB) (d:Int),inr (lo+c) (hi+c) l (d+c)=inr lo hi l d
 | [],d=>rfl
 | s::l,d=>by
   show(pY s&&(cY (dep s.f0 (d+c)) (lo+c) (hi+c)&&inr (lo+c) (hi+c) l (dep s.f0 (d+c))))=_;rw[sP,wU,qt lo hi c l];rfl
theorem qP (c:Int):∀(l:List aB) (d:Int),fin l (d+c)=fin l d+c
 | [],d=>rfl
 | s::l,d=>by show fin l (dep s.f0 (d+c))=_;rw[sP,qP c l];rfl
theorem j7 {lo hi lo' hi':Int} (h1:lo'≤lo) (h2:hi≤hi'):∀(l:List aB) (d:Int),inr lo hi l d=true→inr lo' hi' l d=true
 | [],d,_=>rfl
 | s::l,d,h=>by
   unfold inr at h⊢;rw[Bool.and_eq_true,Bool.and_eq_true,aL]at h;rw[h.1,j7 h1 h2 l _ h.2.2,(aL (x:=dep s.f0 d)).mpr (by omega)];rfl
theorem oI (k c:Int) (hc:0≤c):∀(l:List aB) (d:Int),c<d→d≤k→inr 0 k l d=true→fin l d≤c→
 ∃a s r,l=a++s::r∧s.f0=6∧inr (c+1) k a d=true∧fin a d=c+1∧inr 0 k r c=true∧fin r c=fin l d
 | [],d,hd,_,_,h=>absurd (show d≤c from h) (by omega)
 | s::l,d,hd,hk,h,hf=>by
   unfold inr at h;rw[Bool.and_eq_true,Bool.and_eq_true,aL]at h;obtain⟨h1,⟨h2,h2'⟩,h3⟩:=h
   by_cases q:dep s.f0 d≤c
   ·have hs:s.f0=6∧d=c+1∧dep s.f0 d=c:=by
     revert q h2 h2';unfold dep;intro h2 h2' q;split at q
     ·omega
     ·split at q
      ·rename_i e;exact⟨e,by omega,by rw[if_neg (by omega),if_pos e];omega⟩
      ·omega
    obtain⟨hs6,hd1,hdc⟩:=hs;rw[hdc]at h3;exact⟨[],s,l,rfl,hs6,rfl,hd1,h3,by show _=fin l (dep s.f0 d);rw[hdc]⟩
   ·obtain⟨a,s',r,e,e6,p1,p2,p3,p4⟩:=oI k c hc l (dep s.f0 d) (by omega) h2' h3 hf;refine⟨s::a,s',r,by rw[e];rfl,e6,?_,p2,p3,p4⟩;unfold inr;rw[h1,p1,(aL (x:=dep s.f0 d)).mpr (by omega)];rfl
def Dk (k:Int) (l:List aB):Prop:=inr 0 k l 0=true∧fin l 0=0
theorem oE {k d:Int} {x:aB} {l:List aB} (hd:0≤d) (hx:x.f0=4∨x.f0=5) (h:inr 0 k (x::l) d=true) (hf:fin (x::l) d=0):
 ∃a s r,l=a++s::r∧s.f0=6∧1≤k∧Dk (k-1) a∧inr 1 k a 1=true∧fin a 1=1∧inr 0 k r d=true∧fin r d=0:=by
 unfold inr at h;rw[Bool.and_eq_true,Bool.and_eq_true,aL]at h;obtain⟨h1,⟨h2,h2'⟩,h3⟩:=h;have e:dep x.f0 d=d+1:=by unfold dep;rw[if_pos hx]
 rw[e]at h2 h2' h3;have hf':fin l (d+1)=0:=by have:fin l (dep x.f0 d)=0:=hf;rw[e]at this;exact this
 obtain⟨a,s,r,e1,e6,p1,p2,p3,p4⟩:=oI k d hd l (d+1) (by omega) h2' h3 (by omega);have q1:=qt 1 (k-d) d a 1;rw[show 1+d=d+1 by omega,show k-d+d=k by omega,p1]at q1;have q2:=qP d a 1;rw[show 1+d=d+1 by omega,p2]at q2;have q3:=qt 0 (k-d-1) 1 a 0;rw[show(0:Int)+1=1 by omega,show k-d-1+1=k-d by omega,←q1]at q3;have q4:=qP 1 a 0;rw[show(0:Int)+1=1 by omega]at q4;exact⟨a,s,r,e1,e6,by omega,⟨j7 (by omega) (by omega) a 0 q3.symm,by omega⟩,j7 (by omega) (by omega) a 1 q1.symm,by omega,p3,by omega⟩
theorem iF {A:Type} {l a r:List A} {x:A} {i:Nat} (h:l.drop i=a++x::r):∃h':i+a.length<l.length,l[i+a.length]=x∧l.drop (i+a.length+1)=r:=by
 have hl:=congrArg List.length h;rw[List.length_drop,List.length_append,List.length_cons]at hl;have h':i+a.length<l.length:=by omega
 refine⟨h',?_,?_⟩
 ·have e:(l.drop i)[a.length]? =some x:=by rw[h];simp
  rw[List.getElem?_drop,List.getElem?_eq_getElem h']at e;exact Option.some.inj e
 ·rw[show i+a.length+1=i+(a.length+1)from rfl,←List.drop_drop,h];simp
theorem hP (x:Int):bS.f x=some (decide (x=4∨x=5)):=by
 simp only[bS.f,bS.begin,Tr.ae,Tr.ai]
 by_cases h4:x=4
 ·simp[h4]
 ·simp[h4]
theorem sL {x d:Int} (h0:0≤d) (h1:d≤30):wr (d+1)=d+1∧wr (d-1)=d-1∧wr (d+1-1)=d+1-1:=⟨aQ (by omega),aQ (by omega),aQ (by omega)⟩
theorem kW (l:List aB) (i:Nat) (d:Int) (hi:i<l.length) (hl:l.length≤1048576) (h0:0≤d) (h1:d≤30):
 lp cz.tree (.c3 l d (i:Int))=if dep l[i].f0 d=0 then some (i:Int)else lp cz.tree (.c3 l (dep l[i].f0 d) ((i+1:Nat):Int)):=by
 rw[an];obtain⟨w1,w2,w3⟩:=sL (x:=0) h0 h1;have w7:wr ((i:Int)+1)=((i+1:Nat):Int):=aq (by omega);simp only[cz.tree,Tr.ae,Tr.ag,Tr.ak,Tr.ai,Tr.aj,bS.told,hP,af,aA hi,aF hi,ar hi,and_self,↓reduceIte,w1,w2,w3,w7,decide_eq_true_eq];unfold dep
 by_cases h4:l[i].f0=4∨l[i].f0=5
 ·have h6:¬l[i].f0=6:=by omega
  simp only[h4,h6,↓reduceIte]
 ·by_cases h6:l[i].f0=6
  ·simp only[h6,show¬((6:Int)=4∨(6:Int)=5) by omega,↓reduceIte]
  ·simp only[h4,h6,↓reduceIte]
theorem rz (l:List aB) (hl:l.length≤1048576) (k:Int) (hk:k≤30):∀(a:List aB) (d:Int) (j:Nat) (s:aB) (r:List aB),l.drop j=a++s::r→s.f0=6→1≤d→d≤k→inr 1 k a d=true→fin a d=1→
 lp cz.tree (.c3 l d (j:Int))=some ((j+a.length:Nat):Int)
 | [],d,j,s,r,hd,h6,h1,hk',_,hf=>by
   obtain⟨h',e,_⟩:=iF (a:=[]) hd;have hd1:d=1:=hf;rw[kW l j d h' hl (by omega) (by omega)];rw[show l[j]=s from e,h6,hd1];rfl
 | x::a,d,j,s,r,hd,h6,h1,hk',hp,hf=>by
   obtain⟨h',e,e2⟩:=iF (a:=[]) (show l.drop j=[]++x::(a++s::r)from hd);rw[kW l j d h' hl (by omega) (by omega)];rw[show l[j]=x from e];unfold inr at hp;rw[Bool.and_eq_true,Bool.and_eq_true,aL]at hp;rw[if_neg (by omega),rz l hl k hk a (dep x.f0 d) (j+1) s r e2 h6 hp.2.1.1 hp.2.1.2 hp.2.2 hf,List.length_cons];congr 2;omega
theorem pw (l:List aB) (hl:l.length≤1048576) (k:Int) (hk1:1≤k) (hk:k≤30) (i:Nat) (x:aB) (a:List aB) (s:aB) (r:List aB) (hd:l.drop i=x::(a++s::r)) (hx:x.f0=4∨x.f0=5) (h6:s.f0=6) (hp:inr 1 k a 1=true) (hf:fin a 1=1):
 cz.f l (i:Int)=some ((i+1+a.length:Nat):Int):=by
 simp only[cz.f,cz.begin,Tr.aj];obtain⟨h',e,e2⟩:=iF (a:=[]) (show l.drop i=[]++x::(a++s::r)from hd);rw[kW l i 0 h' hl (by omega) (by omega),show l[i]=x from e];have hdep:dep x.f0 0=1:=by unfold dep;rw[if_pos hx];rfl
 rw[hdep,if_neg (by omega)];exact rz l hl k hk a 1 (i+1) s r e2 h6 (by omega) (by omega) hp hf
theorem gH (x:Int):b6.f x=some (decide (x=1∨x=2)):=by
 simp only[b6.f,b6.begin,Tr.ae,Tr.ai]
 by_cases h4:x=1
 ·simp[h4]
 ·simp[h4]
theorem oz (x:Int):dy.f x=some (decide (x=1∨x=3∨x=4)):=by
 simp only[dy.f,dy.begin,Tr.ae,Tr.ai]
 by_cases h4:x=1
 ·simp[h4]
 ·by_cases h3:x=3
  ·simp[h3]
  ·simp[h4,h3]
theorem jR (zs:List Int) (P:Int→Prop) (h:∀x∈zs,P x):∀m,m≤zs.length→(∀x∈Go.Lib.compactUpTo zs.toArray m,P x)∧(Go.Lib.compactUpTo zs.toArray m).length≤m
 | 0,_=>by
   have:Go.Lib.compactUpTo zs.toArray 0=[]:=rfl;rw[this];exact⟨by simp,by simp⟩
 | m+1,hm=>by
   obtain⟨a,b⟩:=jR zs P h m (by omega);rw[Go.Lib.compactUpTo_succ]
   have hx:P (zs.toArray[m]!):=by
    have h':m<zs.length:=by omega
    have:zs.toArray[m]! =zs[m]:=by simp[h']
    rw[this];exact h _ (List.getElem_mem h')
   split
   ·refine⟨fun x hx'=> ?_,by rw[List.length_append,List.length_singleton];omega⟩;rcases List.mem_append.mp hx' with hx' | hx'
    ·exact a x hx'
    ·rw[List.mem_singleton]at hx';rw[hx'];exact hx
   ·rw[List.append_nil];exact⟨a,by omega⟩
theorem tQ (l:List Int) (P:Int→Prop) (h:∀x∈l,P x) (hl:l.length≤1048576):∃m n,slices_Sort_int.f l=some m∧slices_Compact_int.f m=some n∧(∀x∈n,P x)∧n.length≤l.length:=by
 have e1:slices_Sort_int.f l=some (l.mergeSort fun x y=>decide (x≤y)):=by
  unfold slices_Sort_int.f;rw[if_pos (by omega)]
 have hm:∀x∈(l.mergeSort fun x y=>decide (x≤y)),P x:=fun x hx=>h x (List.mem_mergeSort.mp hx);obtain⟨a,b⟩:=jR (l.mergeSort fun x y=>decide (x≤y)) P hm _ (Nat.le_refl _);refine⟨_,_,e1,rfl,a,?_⟩;have b':(Go.Lib.compact (l.mergeSort fun x y=>decide (x≤y))).length≤(l.mergeSort fun x y=>decide (x≤y)).length:=b;rw[List.length_mergeSort]at b';exact b'
def jM (k:Int) (l:List aB) (i:Nat):Prop:=∃d:Int,0≤d∧inr 0 k (l.drop i) d=true∧fin (l.drop i) d=0
theorem jM.next {k:Int} {l:List aB} {i:Nat} (h:jM k l i) (hi:i<l.length):pY l[i]=true∧jM k l (i+1):=by
 obtain⟨d,hd,h1,h2⟩:=h;rw[List.drop_eq_getElem_cons hi]at h1 h2;unfold inr at h1;rw[Bool.and_eq_true,Bool.and_eq_true,aL]at h1;exact⟨h1.1,dep l[i].f0 d,h1.2.1.1,h1.2.2,h2⟩
theorem mg {s:aB} (h:pY s=true) (hv:s.f0=1∨s.f0=2):0≤s.f1∧s.f1≤7:=by
 unfold pY kN at h;rcases hv with e | e
 ·rw[if_pos e]at h;simp only[Bool.and_eq_true,aL]at h;exact h.2.1
 ·rw[if_neg (by omega),if_pos e]at h;simp only[Bool.and_eq_true,aL]at h;exact h.2.1
def mw (m:List Int) (x:aN):List Int:=if x.f1= -1 then m else m.set x.f1.toNat x.f2
def bj (m:List Int) (o:List aN):List Int:=o.foldl mw m
def ll (x:aN):Prop:=(0≤x.f0∧x.f0≤5)∧(-1≤x.f1∧x.f1<49)
def gZ (n:Nat) (M m:List Int):Prop:=iw n m=true∧cf M<+:cf m
def rj (n:Nat) (M:List Int) (o:List aN):Prop:=(∀x∈o,ll x)∧∀k,gZ n M (bj M (o.take k))
theorem gf (m:List Int) (o:List aN) (x:aN):bj m (o++[x])=mw (bj m o) x:=by unfold bj;rw[List.foldl_append];rfl
theorem rj.snoc {n:Nat} {M:List Int} {o:List aN} {x:aN} (h:rj n M o) (hx:ll x) (hg:gZ n M (mw (bj M o) x)):rj n M (o++[x]):=by
 refine⟨fun y hy=> ?_,fun k=> ?_⟩
 ·rcases List.mem_append.mp hy with hy | hy
  ·exact h.1 y hy
  ·rw[List.mem_singleton]at hy;rw[hy];exact hx
 ·by_cases q:k≤o.length
  ·rw[List.take_append_of_le_length q];exact h.2 k
  ·rw[List.take_of_length_le (by rw[List.length_append,List.length_singleton];omega),gf];exact hg
def rZ (m:List Int) (tl:Int):List Int:=(m.drop 25).take tl.toNat
theorem j9 {m:List Int} {tl:Int} (h:(unpack (dh m 8)).2.2=tl) (h0:0≤tl):jV m=rZ m tl:=by
 unfold jV rZ;rw[h,List.drop_take];congr 1;omega
theorem jh {m:List Int} {t c tl:Int} (hm:m.length=49) (h:unpack (dh m 8)=(t,c,tl)) (h0:0≤tl):cf m=rZ m tl:=by
 unfold cf;rw[if_pos hm,h,if_neg (by simp only;omega)];exact j9 (by rw[h]) h0
theorem cC {m:List Int} {j i:Nat} {v:Int} (hj:j<m.length):(m.set j v).getD i 0=if i=j then v else m.getD i 0:=by
 rw[List.getD_eq_getElem?_getD,List.getElem?_set]
 by_cases h:i=j
 ·subst h;rw[if_pos rfl,if_pos rfl,if_pos hj];rfl
 ·rw[if_neg (fun e=>h e.symm),if_neg h,List.getD_eq_getElem?_getD]
theorem nN (m:List Int) (tl:Int) (i:Nat):(rZ m tl)[i]? =if i<tl.toNat then m[25+i]? else none:=by
 unfold rZ;rw[List.getElem?_take,List.getElem?_drop]
theorem nQ {m:List Int} {tl:Int} (h:∀i:Nat,(i:Int)<tl→isVal (m.getD (25+i) 0)=true):(rZ m tl).all isVal=true:=by
 rw[List.all_eq_true];intro x hx;obtain⟨i,hi⟩:=List.mem_iff_getElem?.mp hx;rw[nN]at hi;split at hi
 ·have:=h i (by omega);rw[List.getD_eq_getElem?_getD,hi]at this;exact this
 ·cases hi
theorem qz {m M:List Int} {tl:Int} (hm:m.length=49) (hM:M.length=49) (h:∀i:Nat,(i:Int)<tl→m.getD (25+i) 0=M.getD (25+i) 0):rZ m tl=rZ M tl:=by
 refine List.ext_getElem? (fun i=> ?_);rw[nN,nN]
 by_cases q:i<tl.toNat
 ·rw[if_pos q,if_pos q]
  by_cases q':25+i<49
  ·have:=h i (by omega);rw[List.getD_eq_getElem?_getD,List.getElem?_eq_getElem (by omega),List.getD_eq_getElem?_getD,List.getElem?_eq_getElem (by omega)]at this;rw[List.getElem?_eq_getElem (by omega),List.getElem?_eq_getElem (by omega)];exact congrArg some this
  ·rw[List.getElem?_eq_none (by omega),List.getElem?_eq_none (by omega)]
 ·rw[if_neg q,if_neg q]
theorem wM (m:List Int) {a b:Int} (h:a≤b):rZ m a<+:rZ m b:=by
 unfold rZ;have:(m.drop 25).take a.toNat=((m.drop 25).take b.toNat).take a.toNat:=by rw[List.take_take,Nat.min_eq_left (by omega)]
 rw[this];exact List.take_prefix _ _
structure kT (n:Nat) (t tl:Int) (M:List Int):Prop where
 len:M.length=49
 t0:0≤t∧t<n∧t≤5
 CM:0≤tl∧tl≤24
 jV:cf M=rZ M tl
 val:∀i:Nat,(i:Int)<tl→isVal (M.getD (25+i) 0)=true
structure pe (t tl:Int) (M:List Int) (c:Nat) (s:Int) (m:List Int):Prop where
 len:m.length=49
 CG:dh m 8=pack t c tl
 c8:c≤8
 s0:0≤s
 var:∀i:Nat,i<8→isVal (m.getD i 0)=true
 log:∀i:Nat,i<c→gV m i=true
 vo:∀i:Nat,(i:Int)<tl→m.getD (25+i) 0=M.getD (25+i) 0
 new:∀i:Nat,tl≤(i:Int)→(i:Int)<tl+s→i<24→isVal (m.getD (25+i) 0)=true
theorem pe.jN {n:Nat} {t tl:Int} {M m:List Int} {c:Nat} {s:Int} (b:kT n t tl M) (h:pe t tl M c s m):gZ n M m:=by
 have hc:=h.c8;have ht:=b.t0;have htl:=b.CM;have hu:unpack (dh m 8)=(t,(c:Int),tl):=by rw[h.CG];exact k7 (by omega) (by omega) (by omega)
 refine⟨mA h.len hu (by omega) ?_ ?_ ?_,?_⟩
 ·rw[List.all_eq_true];intro x hx;obtain⟨i,hi,rfl⟩:=List.mem_iff_getElem.mp hx;rw[List.length_take]at hi;have:=h.var i (by omega);rw[List.getD_eq_getElem?_getD,List.getElem?_eq_getElem (by have:=h.len;omega)]at this;rw[List.getElem_take];exact this
 ·rw[j9 (tl:=tl) (by rw[hu]) (by omega)];exact nQ (fun i hi=>by rw[h.vo i hi];exact b.val i hi)
 ·rw[List.all_eq_true];intro i hi;rw[List.mem_range]at hi;exact h.log i (by omega)
 ·rw[jh h.len hu (by omega),b.jV,qz h.len b.len h.vo];exact List.prefix_rfl
theorem kV (m:List Int) (i:Nat):dh m (i:Int)=m.getD i 0:=by show m.getD ((i:Int)).toNat 0=_;rw[Int.toNat_natCast]
theorem jS (m:List Int) (i:Nat):gV m i=(cY (m.getD (9+2*i) 0) 0 7&&isVal (m.getD (9+2*i+1) 0)):=by
 unfold gV;rw[←kV,←kV];congr 2
theorem pe.set {t tl:Int} {M m:List Int} {c:Nat} {s:Int} (h:pe t tl M c s m) {j:Nat} {v:Int} (hj:j<49) (h8:j≠8) (hv:j<8→isVal v=true) (hlog:j<9∨9+2*c≤j) (hbox:j<25∨(tl≤(j:Int)-25∧isVal v=true)):pe t tl M c s (m.set j v) where
 len:=by rw[List.length_set];exact h.len
 CG:=by have e:=h.CG;have:=h.len;rw[show(8:Int)=((8:Nat):Int)from rfl,kV]at e⊢;rw[cC (by omega),if_neg (by omega)];exact e
 c8:=h.c8
 s0:=h.s0
 var:=fun i hi=>by
  have:=h.len;rw[cC (by omega)];split
  ·exact hv (by omega)
  ·exact h.var i hi
 log:=fun i hi=>by
  have:=h.len;have e:=h.log i hi;rw[jS]at e⊢;rw[cC (by omega),cC (by omega)]
  by_cases q:j<9
  ·rw[if_neg (by omega),if_neg (by omega)];exact e
  ·rw[if_neg (by omega),if_neg (by omega)];exact e
 vo:=fun i hi=>by
  have:=h.len;rw[cC (by omega),if_neg (by omega)];exact h.vo i hi
 new:=fun i h1 h2 h3=>by
  have:=h.len;rw[cC (by omega)];split
  ·rcases hbox with q | q
   ·omega
   ·exact q.2
  ·exact h.new i h1 h2 h3
theorem pe.DH {t tl:Int} {M m:List Int} {c:Nat} {s:Int} (h:pe t tl M c s m) (hc:c<8) (hp:gV m c=true):pe t tl M (c+1) s (m.set 8 (pack t ((c+1:Nat):Int) tl)) where
 len:=by rw[List.length_set];exact h.len
 CG:=qy (by have:=h.len;omega) rfl
 c8:=by omega
 s0:=h.s0
 var:=fun i hi=>by have:=h.len;rw[cC (by omega),if_neg (by omega)];exact h.var i hi
 log:=fun i hi=>by
  have:=h.len
  have e:gV m i=true:=by
   rcases(show i<c∨i=c by omega)with q | q
   ·exact h.log i q
   ·rw[q];exact hp
  rw[jS]at e⊢;rw[cC (by omega),cC (by omega),if_neg (by omega),if_neg (by omega)];exact e
 vo:=fun i hi=>by have:=h.len;rw[cC (by omega),if_neg (by omega)];exact h.vo i hi
 new:=fun i h1 h2 h3=>by have:=h.len;rw[cC (by omega),if_neg (by omega)];exact h.new i h1 h2 h3
theorem pe.box {t tl:Int} {M m:List Int} {c:Nat} {s:Int} (htl:0≤tl) (h:pe t tl M c s m) {j:Nat} {v:Int} (hj:(j:Int)=tl+s) (h24:j<24) (hv:isVal v=true):pe t tl M c (s+1) (m.set (25+j) v):=by
 have hs:=h.s0;have hc:=h.c8;have h':=h.set (j:=25+j) (v:=v) (by omega) (by omega) (fun q=>by omega) (Or.inr (by omega)) (Or.inr ⟨by omega,hv⟩)
 exact{h' with
  s0:=by omega
  new:=fun i h1 h2 h3=>by
   by_cases q:i=j
   ·subst q;rw[cC (by have:=h.len;omega),if_pos rfl];exact hv
   ·exact h'.new i h1 (by omega) h3}
theorem pe.DP {t tl:Int} {M m:List Int} {c:Nat} {s:Int} (h:pe t tl M c s m) (h24:24≤tl+s):pe t tl M c (s+1) m:=
 {h with
  s0:=by have:=h.s0;omega
  new:=fun i h1 h2 h3=>h.new i h1 (by omega) h3}
theorem pe.last {n:Nat} {t tl:Int} {M m:List Int} {c:Nat} {s nt tl':Int} (b:kT n t tl M) (h:pe t tl M c s m) (hn:n≤6) (hnt:0≤nt∧nt<n) (htl:tl'=if tl+s<24 then tl+s else 24):
 gZ n M (m.set 8 (pack nt 0 tl'))∧unpack (dh (m.set 8 (pack nt 0 tl')) 8)=(nt,0,tl'):=by
 have hs:=h.s0;have h0:=b.CM;have hr:tl≤tl'∧tl'≤24∧tl'≤tl+s:=by rw[htl];split<;>omega
 have hlen:=h.len;have hu:unpack (dh (m.set 8 (pack nt 0 tl')) 8)=(nt,0,tl'):=by rw[show dh (m.set 8 (pack nt 0 tl')) 8=pack nt 0 tl' from qy (by omega) rfl];exact k7 (by omega) (by omega) (by omega)
 have hl':(m.set 8 (pack nt 0 tl')).length=49:=by rw[List.length_set];exact h.len
 have hg:∀i:Nat,i≠8→(m.set 8 (pack nt 0 tl')).getD i 0=m.getD i 0:=fun i hi=>by rw[cC (by omega),if_neg hi]
 refine⟨⟨mA hl' hu (by omega) ?_ ?_ rfl,?_⟩,hu⟩
 ·rw[List.all_eq_true];intro x hx;obtain⟨i,hi,rfl⟩:=List.mem_iff_getElem.mp hx;rw[List.length_take]at hi;have:=h.var i (by omega);rw[←hg i (by omega),List.getD_eq_getElem?_getD,List.getElem?_eq_getElem (by omega)]at this;rw[List.getElem_take];exact this
 ·rw[j9 (tl:=tl') (by rw[hu]) (by omega)];refine nQ (fun i hi=> ?_);rw[hg _ (by omega)]
  by_cases q:(i:Int)<tl
  ·rw[h.vo i q];exact b.val i q
  ·exact h.new i (by omega) (by omega) (by omega)
 ·rw[jh hl' hu (by omega),b.jV];have e:rZ M tl=rZ (m.set 8 (pack nt 0 tl')) tl:=(qz hl' b.len (fun i hi=>by rw[hg _ (by omega)];exact h.vo i hi)).symm;rw[e];exact wM _ hr.1
structure TI (n:Nat) (t tl:Int) (M:List Int) (B:Nat) (o:List aN) (u:List Int) (sn:Int) (lg:List Int) (f:List Bool) (vs:List Int):Prop where
 safe:rj n M o
 run:pe t tl M lg.length sn (bj M o)
 used:∀x∈u,isVal x=true
 j8:o.length≤B
 oa:u.length≤B
 tH:sn≤B
 wz:lg.length≤f.count true
 sH:rX vs=true
theorem TI.mono {n:Nat} {t tl:Int} {M:List Int} {B B':Nat} {o:List aN} {u:List Int} {sn:Int} {lg:List Int} {f:List Bool} {vs:List Int} (h:TI n t tl M B o u sn lg f vs) (hB:B≤B'):TI n t tl M B' o u sn lg f vs:=
 {h with j8:=Nat.le_trans h.j8 hB,oa:=Nat.le_trans h.oa hB,tH:=by have:=h.tH;omega}
theorem TI.push {n:Nat} {t tl:Int} {M:List Int} {B:Nat} {o:List aN} {u:List Int} {sn:Int} {lg:List Int} {f:List Bool} {vs:List Int} (b:kT n t tl M) (h:TI n t tl M B o u sn lg f vs)
 (x:aN) {sn':Int} {lg':List Int} {f':List Bool} {vs':List Int} (hx:ll x) (hr:pe t tl M lg'.length sn' (mw (bj M o) x)) (hs:sn'≤B+1) (hl:lg'.length≤f'.count true) (hv:rX vs'=true):
 TI n t tl M (B+1) (o++[x]) u sn' lg' f' vs' where
 safe:=h.safe.snoc hx (hr.jN b)
 run:=by rw[gf];exact hr
 used:=h.used
 j8:=by rw[List.length_append,List.length_singleton];have:=h.j8;omega
 oa:=by have:=h.oa;omega
 tH:=by omega
 wz:=hl
 sH:=hv
theorem TI.work {n:Nat} {t tl:Int} {M:List Int} {B:Nat} {o:List aN} {u:List Int} {sn:Int} {lg:List Int} {f:List Bool} {vs:List Int} (b:kT n t tl M) (h:TI n t tl M B o u sn lg f vs)
 {c:Int} (hc:0≤c∧c≤5):TI n t tl M (B+1) (o++[(⟨c,-1,0⟩:aN)]) u sn lg f vs:=
 h.push b _ ⟨hc,by show(-1:Int)≤-1∧(-1:Int)<49;omega⟩ h.run (by have:=h.tH;omega) h.wz h.sH
theorem kn {vs:List Int}:rX vs=true↔vs.all isVal=true∧vs.length=8:=by
 unfold rX;rw[Bool.and_eq_true,decide_eq_true_eq];exact⟨fun h=>⟨h.1,by have:=h.2;omega⟩,fun h=>⟨h.1,by have:=h.2;omega⟩⟩
theorem xd {vs:List Int} {k:Nat} {v:Int} (h:rX vs=true) (hv:isVal v=true):rX (vs.set k v)=true:=by
 rw[kn]at h⊢;exact⟨wV h.1 hv,by rw[List.length_set];exact h.2⟩
theorem ky (m:List Int) (c j v:Int) (hj:0≤j):mw m (⟨c,j,v⟩:aN)=m.set j.toNat v:=by
 unfold mw;rw[if_neg (by show¬j= -1;omega)]
theorem pU (l:List Bool):l.count true≤l.length:=List.count_le_length
theorem qQ (l:List Bool) (k:Nat):l.count true≤(l.set k true).count true:=by
 by_cases h:k<l.length
 ·have hp:=List.count_pos_iff (a:=true) (l:=l);rw[List.count_set h];cases hb:l[k]with
  | true=>
    have:0<l.count true:=hp.mpr (hb▸List.getElem_mem h);simp;omega
  | false=>simp
 ·rw[List.set_eq_of_length_le (by omega)];exact Nat.le_refl _
theorem pz (l:List Bool) (k:Nat) (h:k<l.length) (hf:l.getD k true=false):(l.set k true).count true=l.count true+1:=by
 rw[List.getD_eq_getElem?_getD,List.getElem?_eq_getElem h]at hf;have hf':l[k]=false:=hf;rw[List.count_set h,hf'];simp
theorem iI (c:Int) (o:List aN) (u:List Int) (t tl sn:Int) (lg:List Int) (f0 f1 f2 f3 f4 f5 f6 f7:Bool) (vs:List Int) (ho:o.length≤1000000):
 cE.f c o u t tl sn lg f0 f1 f2 f3 f4 f5 f6 f7 vs=some (o++[(⟨c,-1,0⟩:aN)],u,t,tl,sn,lg,f0,f1,f2,f3,f4,f5,f6,f7,vs):=by
 simp only[cE.f,cE.begin,Tr.ak,Tr.ai,bY o _ 1048576 (by omega) (by omega) 24 (by omega),↓reduceIte]
theorem dt (a v:Int) (o:List aN) (u:List Int) (t tl sn:Int) (lg:List Int) (f0 f1 f2 f3 f4 f5 f6 f7:Bool) (vs:List Int) (ho:o.length≤1000000):
 bw.f a v o u t tl sn lg f0 f1 f2 f3 f4 f5 f6 f7 vs=some (o++[(⟨3,a,v⟩:aN)],u,t,tl,sn,lg,f0,f1,f2,f3,f4,f5,f6,f7,vs):=by
 simp only[bw.f,bw.begin,Tr.ak,Tr.ai,bY o _ 1048576 (by omega) (by omega) 24 (by omega),↓reduceIte]
set_option maxHeartbeats 4000000 in
theorem tK (k v:Int) (o:List aN) (u:List Int) (t tl sn:Int) (lg:List Int) (f0 f1 f2 f3 f4 f5 f6 f7:Bool) (vs:List Int) (hk:0≤k∧k≤7):∃g0 g1 g2 g3 g4 g5 g6 g7:Bool,[g0,g1,g2,g3,g4,g5,g6,g7]=([f0,f1,f2,f3,f4,f5,f6,f7]:List Bool).set k.toNat true∧lp aE.tree (.c6 k v o u t tl sn lg f0 f1 f2 f3 f4 f5 f6 f7 vs)=lp aE.tree (.c7 k v o u t tl sn lg g0 g1 g2 g3 g4 g5 g6 g7 vs):=by
 rw[an]
 rcases(show k=0∨k=1∨k=2∨k=3∨k=4∨k=5∨k=6∨k=7 by omega)with rfl | rfl | rfl | rfl | rfl | rfl | rfl | rfl<;>
  (simp only[aE.tree,Tr.ae,Tr.aj,decide_true,↓reduceIte,Int.reduceEq,decide_false,Bool.false_eq_true]
   exact⟨_,_,_,_,_,_,_,_,rfl,rfl⟩)
theorem oR {s:aB} (h:pY s=true):(1≤s.f0∧s.f0≤6)∧(s.f0=5→1≤s.f2∧s.f2≤5):=by
 unfold pY kN at h;refine⟨?_,fun e=> ?_⟩
 ·split at h
  ·omega
  ·split at h
   ·omega
   ·split at h
    ·omega
    ·split at h
     ·omega
     ·split at h
      ·omega
      ·cases h
 ·rw[if_neg (by omega),if_neg (by omega),if_neg (by omega),if_pos e]at h;simp only[Bool.and_eq_true,aL]at h;exact h.2.2
theorem tV (x:Int):isVal (sat x)=true:=by unfold isVal;rw[aL];exact kU x
theorem TI.BN {n:Nat} {t tl:Int} {M:List Int} {B:Nat} {o:List aN} {u:List Int} {sn:Int} {lg:List Int} {f:List Bool} {vs:List Int} (h:TI n t tl M B o u sn lg f vs) {v:Int} (hv:isVal v=true):TI n t tl M (B+1) o (u++[v]) sn lg f vs:=
 {h with
  used:=fun x hx=>by
   rcases List.mem_append.mp hx with hx | hx
   ·exact h.used x hx
   ·rw[List.mem_singleton]at hx;rw[hx];exact hv
  j8:=by have:=h.j8;omega
  oa:=by have:=h.oa;rw[List.length_append,List.length_singleton];omega
  tH:=by have:=h.tH;omega}
def W5 (k:Nat):Nat:=6*5 ^ k
theorem wF (k:Nat):W5 (k+1)=5*W5 k:=by unfold W5;rw[Nat.pow_succ];omega
theorem zV (k:Nat):6≤W5 k:=by have:0<5 ^ k:=Nat.pow_pos (by omega);unfold W5;omega
theorem sg {w a b c:Int} (h:unpack w=(a,b,c)) (ha:0≤a):w=pack a b c:=by
 unfold unpack at h;split at h
 ·have:=congrArg Prod.fst h;simp only at this;omega
 ·split at h
  ·rename_i e;have h1:Int.tmod w 8=a:=congrArg Prod.fst h;have h2:Int.tmod (wr (Int.tdiv w 8)) 16=b:=congrArg (fun x=>x.2.1) h;have h3:wr (Int.tdiv w 128)=c:=congrArg (fun x=>x.2.2) h;rw[h1,h2,h3]at e;exact e.symm
  ·have:=congrArg Prod.fst h;simp only at this;omega
theorem jb {n:Nat} {m:List Int} (h:iw n m=true):∃t c tl,unpack (dh m 8)=(t,c,tl)∧dh m 8=pack t c tl∧m.length=49∧(0≤t∧t<n∧t≤5)∧(0≤c∧c≤8)∧(0≤tl∧tl≤24)∧
 (m.take 8).all isVal=true∧(∀i:Nat,(i:Int)<tl→isVal (m.getD (25+i) 0)=true)∧(∀i:Nat,(i:Int)<c→gV m i=true)∧cf m=rZ m tl:=by
 obtain⟨h1,h2,h3,h4,h5,h6⟩:=eL h;obtain⟨g1,g2,g3,g4,g5,g6⟩:=np h2;rcases hu:unpack (dh m 8)with⟨t,c,tl⟩
 rw[hu]at h2 h3 h6 g1 g2 g3 g4 g5 g6;simp only at h2 h3 h6 g1 g2 g3 g4 g5 g6;refine⟨t,c,tl,rfl,sg hu g1,h1,⟨g1,h3,g2⟩,⟨g3,g4⟩,⟨g5,g6⟩,h4,fun i hi=> ?_,fun i hi=> ?_,jh h1 hu g5⟩
 ·rw[j9 (tl:=tl) (by rw[hu]) g5,List.all_eq_true]at h5;refine h5 _ (List.mem_iff_getElem?.mpr ⟨i,?_⟩);rw[nN,if_pos (by omega),List.getD_eq_getElem?_getD,List.getElem?_eq_getElem (by omega)];rfl
 ·rw[List.all_eq_true]at h6;exact h6 i (List.mem_range.mpr (by omega))
theorem oW {m:List Int} (hm:m.length=49) (h:(m.take 8).all isVal=true) (i:Nat) (hi:i<8):isVal (m.getD i 0)=true:=by
 rw[List.all_eq_true]at h;refine h _ (List.mem_iff_getElem?.mpr ⟨i,?_⟩);rw[List.getElem?_take,if_pos hi,List.getD_eq_getElem?_getD,List.getElem?_eq_getElem (by omega)];rfl
theorem Clean.base {n:Nat} {m:List Int} (h:Clean n m):∃t tl,unpack (dh m 8)=(t,0,tl)∧kT n t tl m∧pe t tl m 0 0 m:=by
 obtain⟨t,c,tl,hu,hc,hm,ht,hcc,htl,h8,hs,hl,hw⟩:=jb h.1;have hc0:c=0:=by have:=h.2;rw[hu]at this;exact this
 subst hc0;exact⟨t,tl,hu,⟨hm,ht,htl,hw,hs⟩,⟨hm,hc,by omega,by omega,fun i hi=>oW hm h8 i hi,fun i hi=>absurd hi (by omega),fun i _=>rfl,fun i h1 h2 _=>absurd h1 (by omega)⟩⟩
theorem vt {p:List aC} (hp:pI p=true) {t:Int} (ht:0≤t∧t<(p.length:Int)):okB (bG p t).f0.length (bG p t).f0 0=true∧(bG p t).f0.length≤24:=by
 obtain⟨i,rfl⟩:∃i:Nat,t=i:=⟨t.toNat,by omega⟩;have hi:i<p.length:=by omega
 have e:bG p (i:Int)=p[i]:=ar hi;unfold pI at hp;rw[Bool.and_eq_true,List.all_eq_true]at hp;have:=hp.1 _ (List.getElem_mem hi);unfold yn at this;rw[Bool.and_eq_true]at this;rw[e];exact⟨this.1,(iR _ _ _ this.1).2.2⟩
structure zJ (n:Nat) (m:List Int) (o:List aN) (u:List Int):Prop where
 safe:rj n m o
 j8:o.length≤20000
 used:∀x∈u,isVal x=true
 oa:u.length≤20000
 clean:Clean n (bj m o)
theorem kB (zs:List Int) (x:Int):∀m,m≤zs.length→(x∈Go.Lib.compactUpTo zs.toArray m↔x∈zs.take m)
 | 0,_=>by
   have:Go.Lib.compactUpTo zs.toArray 0=[]:=rfl;rw[this,List.take_zero]
 | m+1,hm=>by
   have h':m<zs.length:=by omega
   have ih:=kB zs x m (by omega);have hm':zs.toArray[m]! =zs[m]:=by simp[h']
   rw[Go.Lib.compactUpTo_succ,List.take_add_one,List.getElem?_eq_getElem h',List.mem_append,List.mem_append,ih,hm']
   by_cases q:Go.Lib.keeps zs.toArray m=true
   ·rw[if_pos q];rfl
   ·rw[if_neg q];unfold Go.Lib.keeps at q;rw[decide_eq_true_eq,not_or,Classical.not_not,hm']at q;have h'':m-1<zs.length:=by omega
    have e:zs.toArray[m-1]! =zs[m-1]:=by simp[h'']
    rw[e]at q;refine⟨fun h=>h.elim Or.inl (fun h=>by simp at h),fun h=>h.elim Or.inl fun h=>Or.inl ?_⟩;have hx:x=zs[m]:=by simpa using h
    rw[hx,q.2];refine List.mem_iff_getElem?.mpr ⟨m-1,?_⟩;rw[List.getElem?_take,if_pos (by omega),List.getElem?_eq_getElem h'']
theorem lV (l:List Int) (hl:l.length≤1048576):∃m n,slices_Sort_int.f l=some m∧slices_Compact_int.f m=some n∧(∀x,x∈n↔x∈l)∧n.length≤l.length:=by
 obtain⟨m,n,e1,e2,_,h⟩:=tQ l (fun _=>True) (fun _ _=>trivial) hl;refine⟨m,n,e1,e2,fun x=> ?_,h⟩
 have e1':slices_Sort_int.f l=some (l.mergeSort fun x y=>decide (x≤y)):=by
  unfold slices_Sort_int.f;rw[if_pos (by omega)]
 obtain rfl:=Option.some.inj (e1.symm.trans e1');have e2':slices_Compact_int.f (l.mergeSort fun x y=>decide (x≤y))=some (Go.Lib.compact (l.mergeSort fun x y=>decide (x≤y))):=rfl;obtain rfl:=Option.some.inj (e2.symm.trans e2');have:=kB (l.mergeSort fun x y=>decide (x≤y)) x _ (Nat.le_refl _);rw[List.take_length,List.mem_mergeSort]at this;exact this
theorem l3 (l:List Int) (k:Int) (hl:l.length≤1048576):∃r,cv.f l k=some r∧decide (r≥0)=l.any (fun x=>decide (k=x)):=by
 simp only[cv.f,cv.begin,Tr.aj];refine pa l (fun x=>decide (k=x)) (fun i=>lp cv.tree (.c2 l k (l.length:Int) (i:Int))) (fun i h=> ?_) ?_
 ·rw[an];simp only[cv.tree,Tr.ae,Tr.ak,Tr.ai,Tr.aj,aA h,aF h,ar h,and_self,decide_true,↓reduceIte,aq (show i<4611686018427387904 by omega)]
 ·rw[an];simp only[cv.tree,Tr.ae,Tr.ai,aV,Bool.false_eq_true,↓reduceIte]
theorem jZ (l:List Int) (k:Int) (hl:l.length≤1048576):ff.f l k=some (decide (k∈l)):=by
 obtain⟨r,e,h⟩:=l3 l k hl;simp only[ff.f,ff.begin,Tr.ag,Tr.ai,dC.told,dC.f,dC.begin,cv.told,e,af,h];congr 1;rw[Bool.eq_iff_iff,List.any_eq_true,decide_eq_true_eq];exact⟨fun⟨x,hx,he⟩=>by rw[of_decide_eq_true he];exact hx,fun h=>⟨k,h,decide_eq_true rfl⟩⟩
def Wr (l:List aB) (g:Nat→Prop) (i:Nat) (x:Int):Prop:=∃j y,j<i∧l[j]? =some y∧g j∧(y.f0=1∨y.f0=2)∧y.f1=x
theorem nO {l:List aB} {g:Nat→Prop} {x:Int}:¬Wr l g 0 x:=fun⟨_,_,h,_⟩=>absurd h (by omega)
theorem jv {l:List aB} {g:Nat→Prop} {i:Nat} {x:Int} (h:i<l.length):Wr l g (i+1) x↔Wr l g i x∨(g i∧(l[i].f0=1∨l[i].f0=2)∧l[i].f1=x):=by
 refine⟨fun⟨j,y,h1,h2,h3⟩=> ?_,fun h'=> ?_⟩
 ·by_cases q:j<i
  ·exact Or.inl ⟨j,y,q,h2,h3⟩
  ·obtain rfl:j=i:=by omega
   rw[List.getElem?_eq_getElem h]at h2;cases h2;exact Or.inr h3
 ·rcases h' with⟨j,y,h1,h2⟩ | h'
  ·exact⟨j,y,by omega,h2⟩
  ·exact⟨i,l[i],by omega,List.getElem?_eq_getElem h,h'⟩
theorem vC {l:List aB} {g g':Nat→Prop} {i:Nat} {x:Int} (h:∀j,j<i→(g j↔g' j)):Wr l g i x↔Wr l g' i x:=
 ⟨fun⟨j,y,h1,h2,h3,h4⟩=>⟨j,y,h1,h2,(h j h1).mp h3,h4⟩,fun⟨j,y,h1,h2,h3,h4⟩=>⟨j,y,h1,h2,(h j h1).mpr h3,h4⟩⟩
theorem gC (x a:Int) (s:List Int):x∈s++[a]↔x∈s∨a=x:=by
 rw[List.mem_append,List.mem_singleton];exact⟨fun h=>h.imp id Eq.symm,fun h=>h.imp id Eq.symm⟩
theorem my (l:List aB) (hl:l.length≤1048576) (hb:okB l.length l 0=true):∃r,fT.f l=some r∧r.length≤l.length∧∀x,x∈r↔Wr l (fun _=>True) l.length x:=by
 have key:=upto l.length (fun i (s:List Int)=>s.length≤i∧∀x,x∈s↔Wr l (fun _=>True) i x) (fun i s=>lp cD.tree (.c3 s l (l.length:Int) (i:Int))) (fun r=>r.length≤l.length∧∀x,x∈r↔Wr l (fun _=>True) l.length x) (fun i hi s hs=>by
  obtain⟨hs,hm⟩:=hs;rw[an]
  by_cases q:i<l.length
  ·have fit:∀x:Int,((s.length:Int)+(([x]:List Int).length:Int))*(8:Nat)≤room:=fun x=>bY s x 1048576 (by omega) (by omega) 8 (by omega)
   by_cases hv:l[i].f0=1∨l[i].f0=2
   ·refine Or.inr ⟨q,s++[l[i].f1],?_,by rw[List.length_append,List.length_singleton];omega,fun x=> ?_⟩
    ·simp only[cD.tree,Tr.ae,Tr.ak,Tr.ag,Tr.aj,aA q,aF q,ar q,and_self,↓reduceIte,b6.told,gH,af,hv,decide_true,fO.told,fO.f,fO.begin,Tr.ai,fit,aq (show i<4611686018427387904 by omega)]
    ·rw[gC,hm,jv q];exact⟨fun h=>h.imp id fun h=>⟨trivial,hv,h⟩,fun h=>h.imp id fun h=>h.2.2⟩
   ·refine Or.inr ⟨q,s,?_,by omega,fun x=> ?_⟩
    ·simp only[cD.tree,Tr.ae,Tr.ak,Tr.ag,Tr.aj,aA q,aF q,ar q,and_self,↓reduceIte,b6.told,gH,af,hv,decide_false,decide_true,Bool.false_eq_true,aq (show i<4611686018427387904 by omega)]
    ·rw[hm,jv q];exact⟨Or.inl,fun h=>h.elim id fun h=>absurd h.2.1 hv⟩
  ·obtain rfl:i=l.length:=by omega
   obtain⟨m,n,e1,e2,hn,b⟩:=lV s (by omega);refine Or.inl ⟨n,?_,by omega,fun x=>by rw[hn,hm]⟩;simp only[cD.tree,Tr.ae,Tr.ag,Tr.ai,aV,Bool.false_eq_true,↓reduceIte,slices_Sort_int.told,e1,slices_Compact_int.told,e2,af]) 0 (by omega) [] ⟨by simp,fun x=>⟨fun h=>by simp at h,fun h=>absurd h nO⟩⟩
 obtain⟨r,e,h⟩:=key;refine⟨r,?_,h⟩;simp only[fT.f,fT.begin,Tr.ag,Tr.ae,Tr.ai,bE.told,g8 l hl,af,cD.told,cD.f,cD.begin,Tr.aj,hb,Bool.not_true,Bool.false_eq_true,↓reduceIte];have e':lp cD.tree (.c3 [] l (l.length:Int) 0)=some r:=e;rw[e'];rfl
theorem mV (l:List aB) (g:List Bool) (hl:l.length≤1048576) (hg:g.length=l.length):∃r,dY.f l g=some r∧r.1.length≤l.length∧∀x,x∈r.1↔Wr l (fun j=>g[j]? =some false) l.length x:=by
 have key:=upto l.length (fun i (s:List Int)=>s.length≤i∧∀x,x∈s↔Wr l (fun j=>g[j]? =some false) i x) (fun i s=>lp dY.tree (.c3 s l (l.length:Int) (i:Int) g)) (fun r=>r.1.length≤l.length∧∀x,x∈r.1↔Wr l (fun j=>g[j]? =some false) l.length x) (fun i hi s hs=>by
  obtain⟨hs,hm⟩:=hs;rw[an]
  by_cases q:i<l.length
  ·have q':i<g.length:=by omega
   have fit:∀x:Int,((s.length:Int)+(([x]:List Int).length:Int))*(8:Nat)≤room:=fun x=>bY s x 1048576 (by omega) (by omega) 8 (by omega)
   by_cases hv:l[i].f0=1∨l[i].f0=2
   ·cases hb:g[i]with
    | false=>
      refine Or.inr ⟨q,s++[l[i].f1],?_,by rw[List.length_append,List.length_singleton];omega,fun x=> ?_⟩
      ·simp only[dY.tree,Tr.ae,Tr.ak,Tr.ag,Tr.aj,aA q,aF q,aF q',ar q,ar q',hb,and_self,↓reduceIte,b6.told,gH,af,hv,decide_true,cO.told,cO.f,cO.begin,Tr.ai,Bool.not_false,fit,aq (show i<4611686018427387904 by omega)]
      ·rw[gC,hm,jv q,List.getElem?_eq_getElem q',hb];exact⟨fun h=>h.imp id fun h=>⟨rfl,hv,h⟩,fun h=>h.imp id fun h=>h.2.2⟩
    | true=>
      refine Or.inr ⟨q,s,?_,by omega,fun x=> ?_⟩
      ·simp only[dY.tree,Tr.ae,Tr.ak,Tr.ag,Tr.aj,aA q,aF q,aF q',ar q,ar q',hb,and_self,↓reduceIte,b6.told,gH,af,hv,decide_true,cO.told,cO.f,cO.begin,Tr.ai,Bool.not_true,Bool.false_eq_true,fit,aq (show i<4611686018427387904 by omega)]
      ·rw[hm,jv q,List.getElem?_eq_getElem q',hb];exact⟨Or.inl,fun h=>h.elim id fun h=>by cases h.1⟩
   ·refine Or.inr ⟨q,s,?_,by omega,fun x=> ?_⟩
    ·simp only[dY.tree,Tr.ae,Tr.ak,Tr.ag,Tr.aj,aA q,aF q,ar q,and_self,↓reduceIte,b6.told,gH,af,hv,decide_false,decide_true,Bool.false_eq_true,aq (show i<4611686018427387904 by omega)]
    ·rw[hm,jv q];exact⟨Or.inl,fun h=>h.elim id fun h=>absurd h.2.1 hv⟩
  ·obtain rfl:i=l.length:=by omega
   obtain⟨m,n,e1,e2,hn,b⟩:=lV s (by omega);refine Or.inl ⟨(n,g),?_,by show n.length≤_;omega,fun x=>by rw[←hm];exact hn x⟩;simp only[dY.tree,Tr.ae,Tr.ag,Tr.ai,aV,Bool.false_eq_true,↓reduceIte,slices_Sort_int.told,e1,slices_Compact_int.told,e2,af]) 0 (by omega) [] ⟨by simp,fun x=>⟨fun h=>by simp at h,fun h=>absurd h nO⟩⟩
 exact key
def Ends (l:List aB) (i e:Nat):Prop:=∃x a s r,l.drop i=x::(a++s::r)∧(x.f0=4∨x.f0=5)∧s.f0=6∧inr 1 30 a 1=true∧fin a 1=1∧e=i+1+a.length
theorem Ends.rh {l:List aB} {i e:Nat} (h:Ends l i e) (hl:l.length≤1048576):cz.f l (i:Int)=some (e:Int):=by
 obtain⟨x,a,s,r,h1,h2,h3,h4,h5,rfl⟩:=h;exact pw l hl 30 (by omega) (by omega) i x a s r h1 h2 h3 h4 h5
theorem Ends.inj {l:List aB} {i e e':Nat} (hl:l.length≤1048576) (h:Ends l i e) (h':Ends l i e'):e=e':=by
 have:=(h.rh hl).symm.trans (h'.rh hl);have:=Option.some.inj this;omega
theorem jM.sO {k:Int} {l:List aB} {i:Nat} (h:jM k l i) (hi:i<l.length) (hk:k≤30) (hx:l[i].f0=4∨l[i].f0=5):
 ∃a s r,l.drop i=l[i]::(a++s::r)∧s.f0=6∧1≤k∧Dk (k-1) a∧inr 1 30 a 1=true∧fin a 1=1∧i+1+a.length<l.length∧(l.take (i+1+a.length)).drop (i+1)=a∧l.drop (i+1+a.length+1)=r∧jM k l (i+1+a.length+1):=by
 obtain⟨d,hd,h1,h2⟩:=h;have hdr:=List.drop_eq_getElem_cons hi;rw[hdr]at h1 h2;obtain⟨a,s,r,e1,e6,k1,hb,p1,p2,p3,p4⟩:=oE hd hx h1 h2;rw[e1]at hdr;obtain⟨g1,g2,g3⟩:=iF (show l.drop i=(l[i]::a)++s::r from hdr);simp only[List.length_cons]at g1 g3
 have hia:(l.take (i+1+a.length)).drop (i+1)=a:=by
  rw[List.drop_take,show i+1+a.length-(i+1)=a.length by omega];have:l.drop (i+1)=a++s::r:=e1;rw[this];simp
 have g3':l.drop (i+1+a.length+1)=r:=by rw[show i+1+a.length+1=i+(a.length+1)+1 by omega];exact g3
 exact⟨a,s,r,hdr,e6,k1,hb,j7 (by omega) hk a 1 p1,p2,by omega,hia,g3',d,hd,by rw[g3'];exact p3,by rw[g3'];exact p4⟩
def r8 (l:List aB) (i e:Nat):Prop:=(∃x,l[i]? =some x∧x.f0=4)∧Ends l i e
def sD (l:List aB) (j:Nat):Prop:=∃i e,r8 l i e∧i≤j∧j≤e
theorem jM.at {k:Int} {l:List aB}:∀(i:Nat),jM k l 0→i≤l.length→jM k l i
 | 0,h,_=>h
 | i+1,h,hi=>((jM.at i h (by omega)).next (by omega)).2
theorem nested {k:Int} {l:List aB} {i:Nat} {x:aB} {a:List aB} {s:aB} {r:List aB} (hl:l.length≤1048576) (hd:l.drop i=x::(a++s::r)) (hs:s.f0=6) (hb:Dk k a) (hk:k≤30) {i' e':Nat} (h1:i<i') (h2:i'≤i+1+a.length) (h:r8 l i' e'):e'≤i+1+a.length:=by
 obtain⟨⟨y,hy,h4⟩,he⟩:=h;obtain⟨m,rfl⟩:∃m,i'=i+1+m:=⟨i'-(i+1),by omega⟩;have hdrop:l.drop (i+1)=a++s::r:=by rw[←List.drop_drop,hd];rfl
 have hy':(a++s::r)[m]? =some y:=by rw[←hdrop,List.getElem?_drop];exact hy
 have hm:m<a.length:=by
  by_cases q:m<a.length
  ·exact q
  ·have:m=a.length:=by omega
   subst this;rw[List.getElem?_append_right (Nat.le_refl _),Nat.sub_self]at hy';have:s=y:=Option.some.inj hy';rw[←this]at h4;omega
 rw[List.getElem?_append_left hm,List.getElem?_eq_getElem hm]at hy';have hy'':a[m]=y:=Option.some.inj hy';have hF:jM k a 0:=⟨0,by omega,hb.1,hb.2⟩;obtain⟨a',s',r',e1,e6,_,_,p1,p2,p3,_,_,_⟩:=(hF.at m (by omega)).sO hm hk (Or.inl (by rw[hy''];exact h4))
 have hd':l.drop (i+1+m)=a[m]::(a'++s'::(r'++s::r)):=by
  rw[←List.drop_drop,hdrop,List.drop_append_of_le_length (by omega),e1];simp
 have:=he.inj hl (⟨a[m],a',s',_,hd',Or.inl (by rw[hy''];exact h4),e6,p1,p2,rfl⟩:Ends l (i+1+m) _);omega
theorem l5 (l:List aB) (hl:l.length≤1048576) (hb:okB l.length l 0=true):∃r,bo.f l=some r∧r.length≤l.length∧∀x,x∈r↔Wr l (fun j=>¬sD l j) l.length x:=by
 obtain⟨b1,b2,b3⟩:=iR _ _ _ hb;have n1:(0:Int)≤(l.length:Int)∧(l.length:Int)≤(l.length:Int)∧(l.length:Int)*(1:Nat)≤room:=⟨by omega,by omega,by unfold room;omega⟩
 have key9:∀(e i:Nat),e<l.length→cz.f l (i:Int)=some (e:Int)→∀(n j:Nat) (g:List Bool),j+n=e+1→g.length=l.length→∃g',g'.length=l.length∧(∀m,m<l.length→(g'[m]? =some true↔g[m]? =some true∨(j≤m∧m≤e)))∧lp bo.tree (.c9 l g (i:Int) (j:Int) l (l.length:Int) (i:Int))=lp bo.tree (.c5 l g' l (l.length:Int) (wr ((i:Int)+1))):=by
  intro e i he hend n
  induction n with
  | zero=>
    intro j g hj hg;refine⟨g,hg,fun m _=>⟨Or.inl,fun h=>h.elim id fun h=>by omega⟩,?_⟩;rw[an];have q:decide ((j:Int)≤(e:Int))=false:=decide_eq_false (by omega);simp only[bo.tree,Tr.ag,Tr.ae,Tr.aj,cz.told,hend,af,q,Bool.false_eq_true,↓reduceIte]
  | succ n ih=>
    intro j g hj hg;obtain⟨g',hg',hm',e'⟩:=ih (j+1) (g.set j true) (by omega) (by rw[List.length_set];exact hg);refine⟨g',hg',fun m hm=> ?_,?_⟩
    ·rw[hm' m hm,List.getElem?_set]
     by_cases qm:j=m
     ·subst qm;rw[if_pos rfl,if_pos (by omega)];exact⟨fun _=>Or.inr ⟨by omega,by omega⟩,fun _=>Or.inl rfl⟩
     ·rw[if_neg qm];exact⟨fun h=>h.imp id fun h=>by omega,fun h=>h.imp id fun h=>by omega⟩
    ·rw[an];have q:decide ((j:Int)≤(e:Int))=true:=decide_eq_true (by omega);have q':j<g.length:=by omega
     simp only[bo.tree,Tr.ag,Tr.ae,Tr.ak,Tr.aj,cz.told,hend,af,q,aF q',and_self,↓reduceIte,Int.toNat_natCast,aq (show j<4611686018427387904 by omega)];exact e'
 have key:=upto l.length (fun i (g:List Bool)=>g.length=l.length∧jM 3 l i∧∀m,m<l.length→(g[m]? =some true↔∃i' e,i'<i∧r8 l i' e∧i'≤m∧m≤e)) (fun i g=>lp bo.tree (.c5 l g l (l.length:Int) (i:Int))) (fun r=>r.length≤l.length∧∀x,x∈r↔Wr l (fun j=>¬sD l j) l.length x) (fun i hi g hs=>by
  obtain⟨hg,hF,hM⟩:=hs
  by_cases q:i<l.length
  ·obtain⟨hok,hF'⟩:=hF.next q
   by_cases h4:l[i].f0=4
   ·obtain⟨a,s,r,e1,e6,_,_,p1,p2,p3,_,_,_⟩:=hF.sO q (by omega) (Or.inl h4);have hE:Ends l i (i+1+a.length):=⟨l[i],a,s,r,e1,Or.inl h4,e6,p1,p2,rfl⟩;have hI:r8 l i (i+1+a.length):=⟨⟨l[i],List.getElem?_eq_getElem q,h4⟩,hE⟩;obtain⟨g',hg',hm',e'⟩:=key9 (i+1+a.length) i p3 (hE.rh hl) (i+1+a.length+1-i) i g (by omega) hg;refine Or.inr ⟨q,g',?_,hg',hF',fun m hm=> ?_⟩
    ·rw[an];simp only[bo.tree,Tr.ae,Tr.ak,Tr.aj,aA q,aF q,ar q,and_self,↓reduceIte,decide_eq_true h4,decide_true,e',aq (show i<4611686018427387904 by omega)]
    ·rw[hm' m hm,hM m hm];refine⟨fun h=>h.elim (fun⟨i',e,h1,h2⟩=>⟨i',e,by omega,h2⟩) fun h=>⟨i,_,by omega,hI,h⟩,fun⟨i',e,h1,h2,h3⟩=> ?_⟩
     by_cases qi:i'<i
     ·exact Or.inl ⟨i',e,qi,h2,h3⟩
     ·obtain rfl:i'=i:=by omega
      have:=h2.2.inj hl hE;exact Or.inr (by omega)
   ·refine Or.inr ⟨q,g,?_,hg,hF',fun m hm=> ?_⟩
    ·rw[an];simp only[bo.tree,Tr.ae,Tr.ak,Tr.aj,aA q,aF q,ar q,and_self,↓reduceIte,decide_eq_false h4,decide_true,Bool.false_eq_true,aq (show i<4611686018427387904 by omega)]
    ·rw[hM m hm];refine⟨fun⟨i',e,h1,h2⟩=>⟨i',e,by omega,h2⟩,fun⟨i',e,h1,h2,h3⟩=> ?_⟩
     by_cases qi:i'<i
     ·exact⟨i',e,qi,h2,h3⟩
     ·obtain rfl:i'=i:=by omega
      obtain⟨⟨y,hy,hy4⟩,_⟩:=h2;rw[List.getElem?_eq_getElem q]at hy;cases hy;exact absurd hy4 h4
  ·obtain rfl:i=l.length:=by omega
   obtain⟨r,er,hr,hrm⟩:=mV l g hl hg;refine Or.inl ⟨r.1,?_,hr,fun x=> ?_⟩
   ·rw[an];simp only[bo.tree,Tr.ae,Tr.ag,Tr.ai,aV,Bool.false_eq_true,↓reduceIte,dY.told,er,af]
   ·rw[hrm];refine vC fun j hj=> ?_;have hj':j<g.length:=by omega
    have:=hM j hj;rw[List.getElem?_eq_getElem hj']at this⊢;cases hgj:g[j]with
    | true=>
      rw[hgj]at this;obtain⟨i',e,h1,h2,h3⟩:=this.mp rfl;exact⟨fun h=>(by cases h),fun h=>(h ⟨i',e,h2,h3⟩).elim⟩
    | false=>
      rw[hgj]at this;refine⟨fun _ hI=> ?_,fun _=>rfl⟩;obtain⟨i',e,h2,h3⟩:=hI;have hi':i'<l.length:=by omega
      have:=this.mpr ⟨i',e,hi',h2,h3⟩;cases this) 0 (by omega) (List.replicate l.length false) ⟨by simp,⟨0,by omega,b1,b2⟩,fun m hm=>⟨fun h=>by simp[List.getElem?_replicate,hm]at h,fun⟨i',e,h,_⟩=>absurd h (by omega)⟩⟩
 obtain⟨r,e,hr⟩:=key;refine⟨r,?_,hr⟩;simp only[bo.f,bo.begin,Tr.ag,Tr.ae,Tr.ak,Tr.aj,bE.told,g8 l hl,af,hb,Bool.not_true,Bool.false_eq_true,↓reduceIte,n1,and_self,Int.toNat_natCast];exact e
theorem eR {A:Type} {o:List A} {j:Nat} (q:j<o.length):o.take (j+1)=o.take j++[o[j]]:=by rw[List.take_add_one,List.getElem?_eq_getElem q];rfl
def j6 (o a b:Int) (k:Nat):Bool:=l7 o a b&&(decide (a= -1-(k:Int)) || decide (b= -1-(k:Int)))
def note (W F R:Nat→Bool) (k:Nat):Bool:=F k || (R k&& !W k)
def kj (W:Nat→Bool) (v:Int) (k:Nat):Bool:=W k || decide (v=(k:Int))
def fi (x:aB) (W:Nat→Bool):Nat→Bool:=if x.f0=1∨x.f0=2 then kj W x.f1 else W
def fF (x:aB) (W F:Nat→Bool):Nat→Bool:=if x.f0=1∨x.f0=3∨x.f0=4 then note W F (j6 x.f3.f0 x.f3.f1 x.f3.f2)else F
inductive iy:Nat→List aB→(Nat→Bool)→(Nat→Bool)→(Nat→Bool)→(Nat→Bool)→Prop
 | nil (n W F):iy n [] W F W F
 | plain {n x l W F W' F'}:x.f0≠4→pY x=true→iy n l (fi x W) (fF x W F) W' F'→iy n (x::l) W F W' F'
 | ifs {n x a s r W F W1 F1 W' F'}:x.f0=4→pY x=true→s.f0=6→inr 1 30 a 1=true→fin a 1=1→iy n a (fi x W) (fF x W F) W1 F1→iy (n+1) r (fi x W) F1 W' F'→iy (n+1) (x::(a++s::r)) W F W' F'
theorem mK (o a b:Int):∃r,cK.f o a b=some r∧r.length≤2∧(∀x∈r,0≤x∧x≤7)∧∀k:Nat,(k:Int)∈r↔j6 o a b k=true:=by
 cases hx:l7 o a b with
 | false=>
   simp only[cK.f,cK.begin,Tr.ag,Tr.ae,Tr.ai,cV.told,fJ,hx,af,Bool.not_false,↓reduceIte];exact⟨_,rfl,by simp,by simp,fun k=>by unfold j6;rw[hx];simp⟩
 | true=>
   obtain⟨_,ha,hb⟩:=oc hx
   have key:=upto 2 (fun i (s:List Int)=>s.length≤i∧(∀x∈s,0≤x∧x≤7)∧∀k:Nat,(k:Int)∈s↔∃j,j<i∧dh [a,b] (j:Int)= -1-(k:Int)) (fun i s=>lp cK.tree (.c5 s [a,b] (2:Int) (i:Int))) (fun r=>r.length≤2∧(∀x∈r,0≤x∧x≤7)∧∀k:Nat,(k:Int)∈r↔j6 o a b k=true) (fun i hi s hs=>by
    obtain⟨hl,hv,hm⟩:=hs;rw[an]
    by_cases q:i<2
    ·have q1:decide ((i:Int)<2)=true:=decide_eq_true (by omega);have q2:(0:Int)≤(i:Int)∧(i:Int)<((([a,b]:List Int).length:Nat):Int):=by simp;omega
     have hr: -8≤dh [a,b] (i:Int)∧dh [a,b] (i:Int)≤999:=by
      rcases(show i=0∨i=1 by omega)with rfl | rfl
      ·exact ha
      ·exact hb
     have hsucc:∀k:Nat,(∃j,j<i+1∧dh [a,b] (j:Int)= -1-(k:Int))↔(∃j,j<i∧dh [a,b] (j:Int)= -1-(k:Int))∨dh [a,b] (i:Int)= -1-(k:Int):=fun k=>
      ⟨fun⟨j,h1,h2⟩=>by
       by_cases qj:j<i
       ·exact Or.inl ⟨j,qj,h2⟩
       ·obtain rfl:j=i:=by omega
        exact Or.inr h2,fun h=>h.elim (fun⟨j,h1,h2⟩=>⟨j,by omega,h2⟩) fun h=>⟨i,by omega,h⟩⟩
     by_cases hn:dh [a,b] (i:Int)<0
     ·have w:wr (-1-dh [a,b] (i:Int))= -1-dh [a,b] (i:Int):=aQ (by omega);refine Or.inr ⟨q,s++[-1-dh [a,b] (i:Int)],?_,by rw[List.length_append,List.length_singleton];omega,?_,fun k=> ?_⟩
      ·simp only[cK.tree,Tr.ae,Tr.ak,Tr.aj,q1,q2,and_self,decide_eq_true hn,w,bY s _ 1048576 (by omega) (by omega) 8 (by omega),decide_true,↓reduceIte,aq (show i<4611686018427387904 by omega)]
      ·intro x hx;rcases List.mem_append.mp hx with hx | hx
       ·exact hv x hx
       ·rw[List.mem_singleton]at hx;omega
      ·rw[gC,hm,hsucc];exact⟨fun h=>h.imp id fun h=>by omega,fun h=>h.imp id fun h=>by omega⟩
     ·refine Or.inr ⟨q,s,?_,by omega,hv,fun k=> ?_⟩
      ·simp only[cK.tree,Tr.ae,Tr.ak,Tr.aj,q1,q2,and_self,decide_eq_false hn,Bool.false_eq_true,decide_true,↓reduceIte,aq (show i<4611686018427387904 by omega)]
      ·rw[hm,hsucc];exact⟨Or.inl,fun h=>h.elim id fun h=>by omega⟩
    ·have q1:decide ((i:Int)<2)=false:=decide_eq_false (by omega);obtain⟨m,n,e1,e2,hn,hb⟩:=lV s (by omega);refine Or.inl ⟨n,?_,by omega,fun x hx=>hv x ((hn x).mp hx),fun k=> ?_⟩
     ·simp only[cK.tree,Tr.ae,Tr.ag,Tr.ai,q1,Bool.false_eq_true,↓reduceIte,slices_Sort_int.told,e1,slices_Compact_int.told,e2,af]
     ·obtain rfl:i=2:=by omega
      rw[hn,hm];unfold j6;rw[hx,Bool.true_and,Bool.or_eq_true,decide_eq_true_eq,decide_eq_true_eq];refine⟨fun⟨j,h1,h2⟩=> ?_,fun h=>h.elim (fun h=>⟨0,by omega,h⟩) fun h=>⟨1,by omega,h⟩⟩;rcases(show j=0∨j=1 by omega)with rfl | rfl
      ·exact Or.inl h2
      ·exact Or.inr h2) 0 (by omega) [] ⟨by simp,by simp,fun k=>⟨fun h=>by simp at h,fun⟨j,h,_⟩=>absurd h (by omega)⟩⟩
   obtain⟨r,e,h⟩:=key;refine⟨r,?_,h⟩;simp only[cK.f,cK.begin,Tr.ag,Tr.ae,Tr.aj,cV.told,fJ,hx,af,Bool.not_true,Bool.false_eq_true,↓reduceIte];exact e
set_option maxHeartbeats 8000000 in
theorem jA (o a b:Int) (W F:Nat→Bool):bn.f o a b (W 0) (W 1) (W 2) (W 3) (W 4) (W 5) (W 6) (W 7) (F 0) (F 1) (F 2) (F 3) (F 4) (F 5) (F 6) (F 7)=some (W 0,W 1,W 2,W 3,W 4,W 5,W 6,W 7,note W F (j6 o a b) 0,note W F (j6 o a b) 1,note W F (j6 o a b) 2,note W F (j6 o a b) 3,note W F (j6 o a b) 4,note W F (j6 o a b) 5,note W F (j6 o a b) 6,note W F (j6 o a b) 7):=by
 obtain⟨l,e,hl,hv,hm⟩:=mK o a b;simp only[bn.f,bn.begin,Tr.ag,Tr.aj,cK.told,e,af];obtain⟨G,hG⟩:∃G:Nat→Nat→Bool,∀i k,G i k=note W F (fun k=>decide ((k:Int)∈l.take i)) k:=⟨_,fun _ _=>rfl⟩
 have key:∀(n i:Nat),i+n=l.length→lp bn.tree (.c2 l (l.length:Int) (i:Int) (W 0) (W 1) (W 2) (W 3) (W 4) (W 5) (W 6) (W 7) (G i 0) (G i 1) (G i 2) (G i 3) (G i 4) (G i 5) (G i 6) (G i 7))=some (W 0,W 1,W 2,W 3,W 4,W 5,W 6,W 7,G l.length 0,G l.length 1,G l.length 2,G l.length 3,G l.length 4,G l.length 5,G l.length 6,G l.length 7):=by
  intro n
  induction n with
  | zero=>
    intro i hi;obtain rfl:i=l.length:=by omega
    rw[an];simp only[bn.tree,Tr.ae,Tr.ai,aV,Bool.false_eq_true,↓reduceIte]
  | succ n ih=>
    intro i hi;have q:i<l.length:=by omega
    rw[←ih (i+1) (by omega)];have hk:=hv l[i] (List.getElem_mem q);have hr:dh l (i:Int)=l[i]:=ar q
    have hs:∀k:Nat,G (i+1) k=(G i k || (decide (l[i]=(k:Int))&& !W k)):=fun k=>by
     rw[hG,hG];unfold note;dsimp only
     have:decide ((k:Int)∈l.take (i+1))=(decide ((k:Int)∈l.take i) || decide (l[i]=(k:Int))):=by
      rw[Bool.eq_iff_iff,Bool.or_eq_true,decide_eq_true_eq,decide_eq_true_eq,decide_eq_true_eq,List.take_add_one,List.getElem?_eq_getElem q];exact gC _ _ _
     rw[this,Bool.and_or_distrib_right,Bool.or_assoc]
    clear ih hG hm e hv;generalize l[i]=k at hk hr hs;have w:wr ((i:Int)+1)=((i+1:Nat):Int):=aq (show i<4611686018427387904 by omega);have h0:G (i+1) 0=(G i 0 || (decide (k=(0:Int))&& !W 0)):=hs 0;have h1:G (i+1) 1=(G i 1 || (decide (k=(1:Int))&& !W 1)):=hs 1;have h2:G (i+1) 2=(G i 2 || (decide (k=(2:Int))&& !W 2)):=hs 2;have h3:G (i+1) 3=(G i 3 || (decide (k=(3:Int))&& !W 3)):=hs 3;have h4:G (i+1) 4=(G i 4 || (decide (k=(4:Int))&& !W 4)):=hs 4;have h5:G (i+1) 5=(G i 5 || (decide (k=(5:Int))&& !W 5)):=hs 5;have h6:G (i+1) 6=(G i 6 || (decide (k=(6:Int))&& !W 6)):=hs 6;have h7:G (i+1) 7=(G i 7 || (decide (k=(7:Int))&& !W 7)):=hs 7;clear hs;rw[an];simp only[bn.tree,Tr.ae,Tr.ak,Tr.aj,aA q,aF q,and_self,decide_true,↓reduceIte];rw[hr]
    rcases(show k=0∨k=1∨k=2∨k=3∨k=4∨k=5∨k=6∨k=7 by omega)with rfl | rfl | rfl | rfl | rfl | rfl | rfl | rfl<;>
     (simp only[Int.reduceEq,decide_false,decide_true,Bool.false_and,Bool.true_and,Bool.or_false]at h0 h1 h2 h3 h4 h5 h6 h7
      simp only[Int.reduceEq,decide_false,decide_true,Bool.false_eq_true,↓reduceIte,h0,h1,h2,h3,h4,h5,h6,h7];split
      ·rename_i h;simp only[h,Bool.or_true];rw[an];simp only[bn.tree,Tr.ae,Tr.aj,decide_true,↓reduceIte,Int.reduceEq,decide_false,Bool.false_eq_true];rw[an];simp only[bn.tree,Tr.aj,w]
      ·rename_i h;simp only[Bool.eq_false_iff.mpr h,Bool.or_false];rw[an];simp only[bn.tree,Tr.aj,w])
 have e0:∀k,G 0 k=F k:=fun k=>by rw[hG];unfold note;rw[List.take_zero];simp
 have e1:∀k,G l.length k=note W F (j6 o a b) k:=fun k=>by
  rw[hG];unfold note;dsimp only;have:decide ((k:Int)∈l.take l.length)=j6 o a b k:=by rw[List.take_length,Bool.eq_iff_iff,decide_eq_true_eq,hm]
  rw[this]
 have:=key l.length 0 (by omega);simp only[e0,e1]at this;exact this
theorem xw (W:Nat→Bool) (v:Int) (k:Nat) (h:v=(k:Int)):kj W v k=true:=by unfold kj;rw[decide_eq_true h,Bool.or_true]
theorem wD (W:Nat→Bool) (v:Int) (k:Nat) (h:¬v=(k:Int)):kj W v k=W k:=by unfold kj;rw[decide_eq_false h,Bool.or_false]
set_option maxHeartbeats 8000000 in
theorem oV (self_:Self ay.I ay.A ay.K) (l:List aB) (i:Nat) (hi:i<l.length) (hok:pY l[i]=true) (W F:Nat→Bool):
 lp (ay.tree self_) (.c1 l (i:Int) (W 0) (W 1) (W 2) (W 3) (W 4) (W 5) (W 6) (W 7) (F 0) (F 1) (F 2) (F 3) (F 4) (F 5) (F 6) (F 7))=lp (ay.tree self_) (.c8 l (i:Int) l[i].f0 l[i].f1 l[i].f2 l[i].f3.f0 l[i].f3.f1 l[i].f3.f2 (fi l[i] W 0) (fi l[i] W 1) (fi l[i] W 2) (fi l[i] W 3) (fi l[i] W 4) (fi l[i] W 5) (fi l[i] W 6) (fi l[i] W 7) (fF l[i] W F 0) (fF l[i] W F 1) (fF l[i] W F 2) (fF l[i] W F 3) (fF l[i] W F 4) (fF l[i] W F 5) (fF l[i] W F 6) (fF l[i] W F 7)):=by
 rw[an];have hvar:=mg hok;generalize hx:l[i]=x at hok hvar;have hr:aw l (i:Int)=x:=(ar hi).trans hx;have sF:(x.f0=1∨x.f0=3∨x.f0=4)→fF x W F=note W F (j6 x.f3.f0 x.f3.f1 x.f3.f2):=fun h=>by unfold fF;rw[if_pos h]
 have sF':¬(x.f0=1∨x.f0=3∨x.f0=4)→fF x W F=F:=fun h=>by unfold fF;rw[if_neg h]
 have sW:(x.f0=1∨x.f0=2)→fi x W=kj W x.f1:=fun h=>by unfold fi;rw[if_pos h]
 have sW':¬(x.f0=1∨x.f0=2)→fi x W=W:=fun h=>by unfold fi;rw[if_neg h]
 generalize hWW:fi x W=W' at sW sW';generalize hFF:fF x W F=F' at sF sF';simp only[ay.tree,Tr.ae,Tr.ak,Tr.ag,aA hi,aF hi,hr,and_self,decide_true,↓reduceIte,dy.told,oz,b6.told,gH,af];clear hWW hFF hok hx hr
 by_cases hE:x.f0=1∨x.f0=3∨x.f0=4
 ·simp only[decide_eq_true hE,↓reduceIte,bn.told,jA x.f3.f0 x.f3.f1 x.f3.f2 W F,af];rw[sF hE]
  by_cases hV:x.f0=1∨x.f0=2
  ·obtain⟨v0,v1⟩:=hvar hV;rw[sW hV];simp only[decide_eq_true hV,↓reduceIte]
   rcases(show x.f1=0∨x.f1=1∨x.f1=2∨x.f1=3∨x.f1=4∨x.f1=5∨x.f1=6∨x.f1=7 by omega)with h | h | h | h | h | h | h | h<;>
    simp[h,kj,Tr.au,Tr.aj]
  ·rw[sW' hV];simp only[decide_eq_false hV,Bool.false_eq_true,↓reduceIte,Tr.aj]
 ·simp only[decide_eq_false hE,Bool.false_eq_true,↓reduceIte];rw[sF' hE]
  by_cases hV:x.f0=1∨x.f0=2
  ·obtain⟨v0,v1⟩:=hvar hV;rw[sW hV];simp only[decide_eq_true hV,↓reduceIte]
   rcases(show x.f1=0∨x.f1=1∨x.f1=2∨x.f1=3∨x.f1=4∨x.f1=5∨x.f1=6∨x.f1=7 by omega)with h | h | h | h | h | h | h | h<;>
    simp[h,kj,Tr.au,Tr.aj]
  ·rw[sW' hV];simp only[decide_eq_false hV,Bool.false_eq_true,↓reduceIte,Tr.aj]
def vr (self_:Self ay.I ay.A ay.K) (n:Nat):Prop:=
 ∀(l:List aB) (W F W1 F1:Nat→Bool),l.length≤1048576→iy n l W F W1 F1→self_.f (l,W 0,W 1,W 2,W 3,W 4,W 5,W 6,W 7,F 0,F 1,F 2,F 3,F 4,F 5,F 6,F 7)=some (W1 0,W1 1,W1 2,W1 3,W1 4,W1 5,W1 6,W1 7,F1 0,F1 1,F1 2,F1 3,F1 4,F1 5,F1 6,F1 7)
set_option maxHeartbeats 4000000 in
theorem nP (self_:Self ay.I ay.A ay.K) (n:Nat) (hs:∀n',n=n'+1→vr self_ n'):vr (ay.step self_) n:=by
 intro l W F W1 F1 hl hR
 have key:∀(n':Nat) (m:List aB) (W F W1 F1:Nat→Bool),iy n' m W F W1 F1→n'=n→∀i,i≤l.length→l.drop i=m→lp (ay.tree self_) (.c1 l (i:Int) (W 0) (W 1) (W 2) (W 3) (W 4) (W 5) (W 6) (W 7) (F 0) (F 1) (F 2) (F 3) (F 4) (F 5) (F 6) (F 7))=some (W1 0,W1 1,W1 2,W1 3,W1 4,W1 5,W1 6,W1 7,F1 0,F1 1,F1 2,F1 3,F1 4,F1 5,F1 6,F1 7):=by
  intro n' m W F W1 F1 h
  induction h with
  | nil n' W F=>
    intro _ i hi hd;have h0:=congrArg List.length hd;rw[List.length_drop,List.length_nil]at h0;obtain rfl:i=l.length:=by omega
    rw[an];simp only[ay.tree,Tr.ae,Tr.ai,aV,Bool.false_eq_true,↓reduceIte]
  | @plain n' x m W F W' F' h4 hok h ih=>
    intro hn i hi hd;obtain⟨q,e,e2⟩:=iF (a:=[]) (show l.drop i=[]++x::m from hd);have q':i<l.length:=q;have e':l[i]=x:=e;rw[oV self_ l i q' (by rw[e'];exact hok) W F,e',an];simp only[ay.tree,Tr.ae,Tr.aj,decide_eq_false h4,Bool.false_eq_true,↓reduceIte,aq (show i<4611686018427387904 by omega)];exact ih hn (i+1) (by omega) e2
  | @ifs n' x a s r W F Wa Fa W' F' h4 hok h6 p1 p2 ha hr iha ihr=>
    intro hn i hi hd;obtain⟨q,e,e2⟩:=iF (a:=[]) (show l.drop i=[]++x::(a++s::r)from hd);obtain⟨g1,g2,g3⟩:=iF (show l.drop i=(x::a)++s::r from hd);simp only[List.length_cons]at g1 g3;have q':i<l.length:=q;have e':l[i]=x:=e;have hE:Ends l i (i+1+a.length):=⟨x,a,s,r,hd,Or.inl h4,h6,p1,p2,rfl⟩
    have hia:(l.take (i+1+a.length)).drop (i+1)=a:=by
     rw[List.drop_take,show i+1+a.length-(i+1)=a.length by omega];have:l.drop (i+1)=a++s::r:=e2;rw[this];simp
    have hn1:(0:Int)≤((i+1:Nat):Int)∧((i+1:Nat):Int)≤((i+1+a.length:Nat):Int)∧((i+1+a.length:Nat):Int)≤(l.length:Int):=by omega
    have et:=hs n' hn.symm a _ _ _ _ (by omega) ha;have we:wr (((i+1+a.length:Nat):Int)+1)=((i+1+a.length+1:Nat):Int):=aq (by omega);rw[oV self_ l i q' (by rw[e'];exact hok) W F,e',an];simp only[ay.tree,Tr.ae,Tr.ag,Tr.aj,decide_eq_true h4,↓reduceIte,cz.told,hE.rh hl,af];rw[an];simp only[ay.tree,Tr.ak,Tr.ag,Tr.aj,aq (show i<4611686018427387904 by omega),hn1,and_self,↓reduceIte,Int.toNat_natCast,Self.told,hia,et,af,we];exact ihr hn (i+1+a.length+1) (by omega) (by rw[show i+1+a.length+1=i+(a.length+1)+1 by omega];exact g3)
 exact key n l W F W1 F1 hR rfl 0 (by omega) rfl
theorem lT (l:List aB) (W F W1 F1:Nat→Bool) (hl:l.length≤1048576) (h:iy 3 l W F W1 F1):ay.f l (W 0) (W 1) (W 2) (W 3) (W 4) (W 5) (W 6) (W 7) (F 0) (F 1) (F 2) (F 3) (F 4) (F 5) (F 6) (F 7)=some (W1 0,W1 1,W1 2,W1 3,W1 4,W1 5,W1 6,W1 7,F1 0,F1 1,F1 2,F1 3,F1 4,F1 5,F1 6,F1 7):=by
 have h0:=nP (Self.iter ay.step 4) 0 (fun n' h=>absurd h (by omega));have h1:=nP (Self.iter ay.step 5) 1 (fun n' h=>by cases h;exact h0);have h2:=nP (Self.iter ay.step 6) 2 (fun n' h=>by cases h;exact h1);have h3:=nP (Self.iter ay.step 7) 3 (fun n' h=>by cases h;exact h2);exact h3 l W F W1 F1 hl h
set_option maxHeartbeats 4000000 in
theorem kK (l:List aB) (a b c:Int) (hl:l.length≤1048576) (hb:okB l.length l 0=true) (hx:l7 a b c=true) {W1 F1:Nat→Bool} (h:iy 3 l (fun _=>false) (fun _=>false) W1 F1):
 ∃r,bD.f l a b c=some r∧r.length≤8∧∀x,x∈r↔∃k:Nat,k<8∧note W1 F1 (j6 a b c) k=true∧x=(k:Int):=by
 have e1:=lT l _ _ _ _ hl h;have e2:=jA a b c W1 F1;generalize note W1 F1 (j6 a b c)=Y at e2
 obtain⟨r,e,hr⟩:=upto 8 (fun i (s:List Int)=>s.length≤i∧∀x,x∈s↔∃k:Nat,k<i∧Y k=true∧x=(k:Int)) (fun i s=>lp bD.tree (.c8 s (Y 0) (Y 1) (Y 2) (Y 3) (Y 4) (Y 5) (Y 6) (Y 7) (i:Int))) (fun r=>r.length≤8∧∀x,x∈r↔∃k:Nat,k<8∧Y k=true∧x=(k:Int)) (fun i hi s hs=>by
  obtain⟨hs,hm⟩:=hs;rw[an]
  by_cases q:i<8
  ·have q1:decide ((i:Int)<8)=true:=decide_eq_true (by omega);have q2:(0:Int)≤(i:Int)∧(i:Int)<8:=by omega
   have hY:List.getD [Y 0,Y 1,Y 2,Y 3,Y 4,Y 5,Y 6,Y 7] i false=Y i:=by
    rcases(show i=0∨i=1∨i=2∨i=3∨i=4∨i=5∨i=6∨i=7 by omega)with rfl | rfl | rfl | rfl | rfl | rfl | rfl | rfl<;>rfl
   cases hb:Y i with
   | true=>
     rw[hb]at hY;refine Or.inr ⟨q,s++[(i:Int)],?_,by rw[List.length_append,List.length_singleton];omega,fun x=> ?_⟩
     ·simp only[bD.tree,Tr.ae,Tr.ak,Tr.aj,q1,q2,and_self,decide_true,Int.toNat_natCast,hY,bY s _ 1048576 (by omega) (by omega) 8 (by omega),↓reduceIte,aq (show i<4611686018427387904 by omega)]
     ·rw[gC,hm];refine⟨fun h=>h.elim (fun⟨k,h1,h2⟩=>⟨k,by omega,h2⟩) fun h=>⟨i,by omega,hb,h.symm⟩,fun⟨k,h1,h2,h3⟩=> ?_⟩
      by_cases qk:k<i
      ·exact Or.inl ⟨k,qk,h2,h3⟩
      ·exact Or.inr (by omega)
   | false=>
     rw[hb]at hY;refine Or.inr ⟨q,s,?_,by omega,fun x=> ?_⟩
     ·simp only[bD.tree,Tr.ae,Tr.ak,Tr.aj,q1,q2,and_self,decide_true,Int.toNat_natCast,hY,Bool.false_eq_true,↓reduceIte,aq (show i<4611686018427387904 by omega)]
     ·rw[hm];refine⟨fun⟨k,h1,h2⟩=>⟨k,by omega,h2⟩,fun⟨k,h1,h2,h3⟩=> ?_⟩
      by_cases qk:k<i
      ·exact⟨k,qk,h2,h3⟩
      ·obtain rfl:k=i:=by omega
       rw[hb]at h2;cases h2
  ·obtain rfl:i=8:=by omega
   refine Or.inl ⟨s,?_,by omega,hm⟩;simp only[bD.tree,Tr.ae,Tr.ai,show decide (((8:Nat):Int)<8)=false from rfl,Bool.false_eq_true,↓reduceIte]) 0 (by omega) [] ⟨by simp,fun x=>⟨fun h=>by simp at h,fun⟨k,h,_⟩=>absurd h (by omega)⟩⟩
 refine⟨r,?_,hr⟩;simp only[bD.f,bD.begin,Tr.ag,Tr.ae,Tr.ai,Tr.aj,dn.told,dn.f,dn.begin,bE.told,g8 l hl,cV.told,fJ,hx,af,hb,Bool.not_true,Bool.false_eq_true,↓reduceIte,ay.told,e1,bn.told,e2];exact e
def jT (a b:List Int) (x:Int):Bool:=decide (x∈a) || !decide (x∈b)
theorem kd (x:Int) (a b:List Int) (ha:a.length≤1048576) (hb:b.length≤1048576):cR.f x a b=some (!jT a b x,a,b):=by
 simp only[cR.f,cR.begin,Tr.ag,Tr.ae,Tr.ai,ff.told,jZ a x ha,jZ b x hb,af,jT];cases decide (x∈a)<;>cases decide (x∈b)<;>rfl
theorem jB (l a b:List Int) (hl:l.length≤1048576) (ha:a.length≤1048576) (hb:b.length≤1048576):∃j,aK.f l a b=some (j,a,b)∧((j= -1∧l.filter (jT a b)=l)∨∃n:Nat,j=(n:Int)∧n<l.length∧(l.take (n+1)).filter (jT a b)=l.take n):=by
 have key:=upto l.length (fun i (_:Unit)=>(l.take i).filter (jT a b)=l.take i) (fun i _=>lp aK.tree (.c2 l (l.length:Int) (i:Int) a b)) (fun r=>∃j,r=(j,a,b)∧((j= -1∧l.filter (jT a b)=l)∨∃n:Nat,j=(n:Int)∧n<l.length∧(l.take (n+1)).filter (jT a b)=l.take n)) (fun i hi s hs=>by
  rw[an]
  by_cases q:i<l.length
  ·have ev:=kd (dh l (i:Int)) a b ha hb;have hr:dh l (i:Int)=l[i]:=ar q;rw[hr]at ev;cases hk:jT a b l[i]with
   | false=>
     rw[hk]at ev;refine Or.inl ⟨((i:Int),a,b),?_,_,rfl,Or.inr ⟨i,rfl,q,?_⟩⟩
     ·simp only[aK.tree,Tr.ae,Tr.ak,Tr.ag,Tr.ai,aA q,aF q,hr,and_self,decide_true,↓reduceIte,cR.told,ev,af,Bool.not_false]
     ·rw[List.take_add_one,List.getElem?_eq_getElem q,List.filter_append,hs];simp[hk]
   | true=>
     rw[hk]at ev;refine Or.inr ⟨q,(),?_,?_⟩
     ·simp only[aK.tree,Tr.ae,Tr.ak,Tr.ag,Tr.aj,aA q,aF q,hr,and_self,decide_true,↓reduceIte,cR.told,ev,af,Bool.not_true,Bool.false_eq_true,aq (show i<4611686018427387904 by omega)]
     ·rw[List.take_add_one,List.getElem?_eq_getElem q,List.filter_append,hs];simp[hk]
  ·obtain rfl:i=l.length:=by omega
   rw[List.take_length]at hs;refine Or.inl ⟨(-1,a,b),?_,_,rfl,Or.inl ⟨rfl,hs⟩⟩;simp only[aK.tree,Tr.ae,Tr.ai,aV,Bool.false_eq_true,↓reduceIte]) 0 (by omega) () (by simp)
 obtain⟨r,e,j,rfl,h⟩:=key;exact⟨j,e,h⟩
theorem jx (l a b:List Int) (hl:l.length≤1048576) (ha:a.length≤1048576) (hb:b.length≤1048576):∃r,ax.f l a b=some r∧r.1=l.filter (jT a b):=by
 obtain⟨j,ej,hj⟩:=jB l a b hl ha hb;rcases hj with⟨rfl,h⟩ | ⟨n,rfl,hn,hf⟩
 ·simp only[ax.f,ax.begin,Tr.ag,Tr.ae,Tr.ai,aK.told,ej,af,decide_true,↓reduceIte];exact⟨_,rfl,h.symm⟩
 ·have key:=upto l.length (fun i (s:List Int×Nat)=>s.1.length=l.length∧s.2<i∧s.1.take s.2=(l.take i).filter (jT a b)∧s.1.drop i=l.drop i) (fun i s=>lp ax.tree (.c5 s.1 (s.2:Int) (i:Int) a b)) (fun r=>r.1=l.filter (jT a b)) (fun i hi s hs=>by
   obtain⟨s1,s2⟩:=s;obtain⟨hs1,hs2,hs3,hs4⟩:=hs;simp only at hs1 hs2 hs3 hs4;rw[an]
   by_cases q:i<l.length
   ·have q1:i<s1.length:=by omega
    have q2:s2<s1.length:=by omega
    have hel:s1[i]=l[i]:=by
     have:=congrArg (fun z=>z[0]?) hs4;simp only[List.getElem?_drop,Nat.add_zero,List.getElem?_eq_getElem q1,List.getElem?_eq_getElem q]at this;exact Option.some.inj this
    have hr:dh s1 (i:Int)=l[i]:=(ar q1).trans hel;have ev:=kd l[i] a b ha hb;cases hk:jT a b l[i]with
    | true=>
      rw[hk]at ev;refine Or.inr ⟨q,(s1.set s2 l[i],s2+1),?_,by rw[List.length_set];exact hs1,by show s2+1<i+1;omega,?_,?_⟩
      ·simp only[ax.tree,Tr.ae,Tr.ak,Tr.ag,Tr.aj,aA q1,aF q1,aF q2,hr,and_self,decide_true,↓reduceIte,cR.told,ev,af,Bool.not_true,Bool.not_false,Int.toNat_natCast,aq (show i<4611686018427387904 by omega),aq (show s2<4611686018427387904 by omega)]
      ·show(s1.set s2 l[i]).take (s2+1)=_;rw[List.take_add_one,List.take_set_of_le (Nat.le_refl s2),hs3,List.getElem?_set_self q2,List.take_add_one,List.getElem?_eq_getElem q,List.filter_append];simp[hk]
      ·show(s1.set s2 l[i]).drop (i+1)=_;rw[List.drop_set_of_lt (by omega),←List.drop_drop,hs4,List.drop_drop]
    | false=>
      rw[hk]at ev;refine Or.inr ⟨q,(s1,s2),?_,hs1,by show s2<i+1;omega,?_,?_⟩
      ·simp only[ax.tree,Tr.ae,Tr.ak,Tr.ag,Tr.aj,aA q1,aF q1,hr,and_self,decide_true,↓reduceIte,cR.told,ev,af,Bool.not_false,Bool.not_true,Bool.false_eq_true,aq (show i<4611686018427387904 by omega)]
      ·show s1.take s2=_;rw[hs3,List.take_add_one,List.getElem?_eq_getElem q,List.filter_append];simp[hk]
      ·show s1.drop (i+1)=_;rw[←List.drop_drop,hs4,List.drop_drop]
   ·obtain rfl:i=s1.length:=by omega
    have q2:s2<s1.length:=hs2;have hlen:(List.take s2 s1++List.replicate (List.length s1-s2) (0:Int)).length=s1.length:=by rw[List.length_append,List.length_take,List.length_replicate];omega
    have n1:(0:Int)≤0∧(0:Int)≤(s2:Int)∧(s2:Int)≤(s1.length:Int):=by omega
    refine Or.inl ⟨(List.take s2 (List.take s2 s1++List.replicate (List.length s1-s2) (0:Int)),a,b),?_,?_⟩
    ·simp only[ax.tree,Tr.ae,Tr.ak,Tr.eu,Tr.ai,aV,Bool.false_eq_true,↓reduceIte,aF q2,and_self,Int.toNat_natCast,hlen,n1]
    ·show List.take s2 _=_;rw[List.take_left' (by rw[List.length_take];omega),hs3,hs1,List.take_length]) (n+1) (by omega) (l,n) ⟨rfl,by show n<n+1;omega,hf.symm,rfl⟩
  obtain⟨r,e,h⟩:=key;have hn1:decide ((n:Int)= -1)=false:=decide_eq_false (by omega);have w:wr ((n:Int)+1)=((n+1:Nat):Int):=aq (by omega);refine⟨r,?_,h⟩;simp only[ax.f,ax.begin,Tr.ag,Tr.ae,Tr.aj,aK.told,ej,af,hn1,Bool.false_eq_true,↓reduceIte,w];exact e
def yf (l:List aB) (Y:Nat→Bool) (x:Int):Prop:=Wr l (fun _=>True) l.length x∧((∃k:Nat,k<8∧Y k=true∧x=(k:Int))∨¬Wr l (fun j=>¬sD l j) l.length x)
theorem mH (l:List aB) (a b c:Int) (hl:l.length≤1048576) (hb:okB l.length l 0=true) (hx:l7 a b c=true) {W1 F1:Nat→Bool} (h:iy 3 l (fun _=>false) (fun _=>false) W1 F1):∃r,dS.f l a b c=some r∧r.length≤l.length+8∧∀x,x∈r↔yf l (note W1 F1 (j6 a b c)) x:=by
 obtain⟨r1,e1,h1,m1⟩:=kK l a b c hl hb hx h;obtain⟨r2,e2,h2,m2⟩:=l5 l hl hb;obtain⟨r3,e3,h3,m3⟩:=my l hl hb;obtain⟨r4,e4,h4⟩:=jx r3 r1 r2 (by omega) (by omega) (by omega)
 have key:lp dS.tree (.c4 l a b c r1 r2)=some r4.1:=by
  rw[an];simp only[dS.tree,Tr.ag,Tr.ai,fT.told,e3,ax.told,e4,af]
 refine⟨r4.1,?_,by rw[h4];have:=List.length_filter_le (jT r1 r2) r3;omega,fun x=> ?_⟩
 ·simp only[dS.f,dS.begin,Tr.ag,Tr.ae,Tr.bI,Tr.au,Tr.aj,dn.told,dn.f,dn.begin,Tr.ai,bE.told,g8 l hl,cV.told,fJ,hb,hx,af,Bool.not_true,Bool.false_eq_true,↓reduceIte,bD.told,e1,bo.told,e2,aU,key]
 ·rw[h4,List.mem_filter,m3];unfold jT yf;rw[Bool.or_eq_true,decide_eq_true_eq,m1,Bool.not_eq_true',decide_eq_false_iff_not,m2]
theorem jd (l:List Int) (k:Int) (hl:l.length≤1048576):cr.f l k=some (decide (k∈l)):=by
 simp only[cr.f,cr.begin,Tr.aj]
 have key:∀(n i:Nat),i+n=l.length→lp cr.tree (.c2 l k (i:Int))=some (decide (k∈l.drop i)):=by
  intro n
  induction n with
  | zero=>
    intro i hi;obtain rfl:i=l.length:=by omega
    rw[an,List.drop_length];simp only[cr.tree,Tr.ae,Tr.ai,aV,Bool.false_eq_true,↓reduceIte];simp
  | succ n ih=>
    intro i hi;have q:i<l.length:=by omega
    rw[an,List.drop_eq_getElem_cons q];simp only[cr.tree,Tr.ae,Tr.ak,Tr.ai,Tr.aj,aA q,aF q,ar q,and_self,↓reduceIte,aq (show i<4611686018427387904 by omega),ih (i+1) (by omega),decide_eq_true_eq]
    by_cases e:l[i]=k
    ·rw[if_pos e];simp[e]
    ·rw[if_neg e];congr 1;rw[Bool.eq_iff_iff,decide_eq_true_eq,decide_eq_true_eq,List.mem_cons];exact⟨Or.inr,fun h=>h.elim (fun h=>absurd h.symm e) id⟩
 exact key l.length 0 (by omega)
theorem nG (a b c d e f:Int):fW.f a b c d e f=some (decide (a=4∨a=5)):=by
 simp only[fW.f,fW.begin,Tr.ae,Tr.ai]
 by_cases h4:a=4
 ·simp[h4]
 ·simp[h4]
theorem jX (l:List aB) (i:Nat) (d:Int) (hi:i<l.length) (hl:l.length≤1048576) (h0:0≤d) (h1:d≤30):
 lp b7.tree (.c3 l d (i:Int))=if l[i].f0=6∧dep l[i].f0 d=0 then some (i:Int)else lp b7.tree (.c3 l (dep l[i].f0 d) ((i+1:Nat):Int)):=by
 rw[an];obtain⟨w1,w2,w3⟩:=sL (x:=0) h0 h1;have w7:wr ((i:Int)+1)=((i+1:Nat):Int):=aq (by omega);simp only[b7.tree,Tr.ae,Tr.ag,Tr.ak,Tr.ai,Tr.aj,fW.told,nG,af,aA hi,aF hi,ar hi,and_self,↓reduceIte,w1,w2,w3,w7,decide_eq_true_eq];unfold dep
 by_cases h4:l[i].f0=4∨l[i].f0=5
 ·have h6:¬l[i].f0=6:=by omega
  simp only[h4,h6,↓reduceIte,false_and]
 ·by_cases h6:l[i].f0=6
  ·simp only[h6,show¬((6:Int)=4∨(6:Int)=5) by omega,↓reduceIte,true_and]
  ·simp only[h4,h6,↓reduceIte,false_and]
theorem oT (l:List aB) (hl:l.length≤1048576) (k:Int) (hk:k≤30):∀(a:List aB) (d:Int) (j:Nat) (s:aB) (r:List aB),l.drop j=a++s::r→s.f0=6→1≤d→d≤k→inr 1 k a d=true→fin a d=1→
 lp b7.tree (.c3 l d (j:Int))=some ((j+a.length:Nat):Int)
 | [],d,j,s,r,hd,h6,h1,hk',_,hf=>by
   obtain⟨h',e,_⟩:=iF (a:=[]) hd;have hd1:d=1:=hf;rw[jX l j d h' hl (by omega) (by omega)];rw[show l[j]=s from e,h6,hd1];rfl
 | x::a,d,j,s,r,hd,h6,h1,hk',hp,hf=>by
   obtain⟨h',e,e2⟩:=iF (a:=[]) (show l.drop j=[]++x::(a++s::r)from hd);rw[jX l j d h' hl (by omega) (by omega)];rw[show l[j]=x from e];unfold inr at hp;rw[Bool.and_eq_true,Bool.and_eq_true,aL]at hp;rw[if_neg (by omega),oT l hl k hk a (dep x.f0 d) (j+1) s r e2 h6 hp.2.1.1 hp.2.1.2 hp.2.2 hf,List.length_cons];congr 2;omega
theorem Ends.qI {l:List aB} {i e:Nat} (h:Ends l i e) (hl:l.length≤1048576):b7.f l (i:Int)=some (e:Int):=by
 obtain⟨x,a,s,r,hd,hx,h6,hp,hf,rfl⟩:=h;simp only[b7.f,b7.begin,Tr.aj];obtain⟨h',e,e2⟩:=iF (a:=[]) (show l.drop i=[]++x::(a++s::r)from hd);rw[jX l i 0 h' hl (by omega) (by omega),show l[i]=x from e];have hdep:dep x.f0 0=1:=by unfold dep;rw[if_pos hx];rfl
 rw[hdep,if_neg (by omega)];exact oT l hl 30 (by omega) a 1 (i+1) s r e2 h6 (by omega) (by omega) hp hf
def L8 (F:Nat→Bool):List Bool:=[F 0,F 1,F 2,F 3,F 4,F 5,F 6,F 7]
theorem jU (F:Nat→Bool):(L8 F).length=8:=rfl
theorem sc (F:Nat→Bool) (k:Nat) (h:k<8):(L8 F)[k]? =some (F k):=by
 rcases(show k=0∨k=1∨k=2∨k=3∨k=4∨k=5∨k=6∨k=7 by omega)with rfl | rfl | rfl | rfl | rfl | rfl | rfl | rfl<;>rfl
theorem vk (F:Nat→Bool) (x:Int) (h:0≤x∧x≤7):DT (L8 F) x=F x.toNat:=by
 show(L8 F).getD x.toNat false=_;rw[List.getD_eq_getElem?_getD,sc F x.toNat (by omega)];rfl
theorem mu {F G:Nat→Bool} (h:∀k,k<8→F k=G k):L8 F=L8 G:=by
 unfold L8;rw[h 0 (by omega),h 1 (by omega),h 2 (by omega),h 3 (by omega),h 4 (by omega),h 5 (by omega),h 6 (by omega),h 7 (by omega)]
theorem oP (F:Nat→Bool) (x:Int) (h:0≤x∧x≤7):(L8 F).set x.toNat true=L8 (kj F x):=by
 refine List.ext_getElem? (fun k=> ?_);rw[List.getElem?_set,jU]
 by_cases q:k<8
 ·rw[sc _ k q,sc _ k q]
  by_cases e:x.toNat=k
  ·rw[if_pos e,if_pos (by omega),xw F x k (by omega)]
  ·rw[if_neg e,wD F x k (by omega)]
 ·rw[if_neg (by omega),List.getElem?_eq_none (by rw[jU];omega),List.getElem?_eq_none (by rw[jU];omega)]
theorem qG:List.replicate (Int.toNat 8) false=L8 (fun _=>false):=rfl
theorem jF (F:Nat→Bool):∃r,cd.f (L8 F)=some r∧r.length≤8∧∀x,x∈r↔∃k:Nat,k<8∧F k=true∧x=(k:Int):=by
 simp only[cd.f,cd.begin,Tr.aj]
 exact upto 8 (fun i (s:List Int)=>s.length≤i∧∀x,x∈s↔∃k:Nat,k<i∧F k=true∧x=(k:Int)) (fun i s=>lp cd.tree (.c3 (L8 F) s (i:Int))) (fun r=>r.length≤8∧∀x,x∈r↔∃k:Nat,k<8∧F k=true∧x=(k:Int)) (fun i hi s hs=>by
  obtain⟨hs,hm⟩:=hs;rw[an];have hl8:((L8 F).length:Int)=8:=rfl
  by_cases q:i<8
  ·have q1:decide ((i:Int)<8)=true:=decide_eq_true (by omega);have q2:(0:Int)≤(i:Int)∧(i:Int)<8:=by omega
   have hY:DT (L8 F) (i:Int)=F i:=by rw[vk F _ (by omega),Int.toNat_natCast]
   cases hb:F i with
   | true=>
     rw[hb]at hY;refine Or.inr ⟨q,s++[(i:Int)],?_,by rw[List.length_append,List.length_singleton];omega,fun x=> ?_⟩
     ·simp only[cd.tree,Tr.ae,Tr.ak,Tr.aj,hl8,q1,q2,and_self,decide_true,hY,bY s _ 1048576 (by omega) (by omega) 8 (by omega),↓reduceIte,aq (show i<4611686018427387904 by omega)]
     ·rw[gC,hm];refine⟨fun h=>h.elim (fun⟨k,h1,h2⟩=>⟨k,by omega,h2⟩) fun h=>⟨i,by omega,hb,h.symm⟩,fun⟨k,h1,h2,h3⟩=> ?_⟩
      by_cases qk:k<i
      ·exact Or.inl ⟨k,qk,h2,h3⟩
      ·exact Or.inr (by omega)
   | false=>
     rw[hb]at hY;refine Or.inr ⟨q,s,?_,by omega,fun x=> ?_⟩
     ·simp only[cd.tree,Tr.ae,Tr.ak,Tr.aj,hl8,q1,q2,and_self,decide_true,hY,Bool.false_eq_true,↓reduceIte,aq (show i<4611686018427387904 by omega)]
     ·rw[hm];refine⟨fun⟨k,h1,h2⟩=>⟨k,by omega,h2⟩,fun⟨k,h1,h2,h3⟩=> ?_⟩
      by_cases qk:k<i
      ·exact⟨k,qk,h2,h3⟩
      ·obtain rfl:k=i:=by omega
       rw[hb]at h2;cases h2
  ·obtain rfl:i=8:=by omega
   refine Or.inl ⟨s,?_,by omega,hm⟩;simp only[cd.tree,Tr.ae,Tr.ai,hl8,show decide (((8:Nat):Int)<8)=false from rfl,Bool.false_eq_true,↓reduceIte]) 0 (by omega) [] ⟨by simp,fun x=>⟨fun h=>by simp at h,fun⟨k,h,_⟩=>absurd h (by omega)⟩⟩
theorem g9 (a b c d e f:Int):cW.f a b c d e f=some (decide (a=1∨a=2)):=by
 simp only[cW.f,cW.begin,Tr.ae,Tr.ai]
 by_cases h4:a=1
 ·simp[h4]
 ·simp[h4]
theorem jM.var {k:Int} {l:List aB} {i:Nat} (h:jM k l i) (hi:i<l.length) (hv:l[i].f0=1∨l[i].f0=2):0≤l[i].f1∧l[i].f1≤7:=mg (h.next hi).1 hv
theorem ru (F:Nat→Bool) (x:Int) (k:Nat):kj F x k=true↔F k=true∨x=(k:Int):=by unfold kj;rw[Bool.or_eq_true,decide_eq_true_eq]
theorem zg {l:List aB} {g:Nat→Prop} {x:Int} {k:Int} (hF:jM k l 0) {i:Nat} (hi:i≤l.length) (h:Wr l g i x):0≤x∧x≤7:=by
 obtain⟨j,y,h1,h2,h3,h4,rfl⟩:=h;have hj:j<l.length:=by omega
 rw[List.getElem?_eq_getElem hj]at h2;cases h2;exact(hF.at j (by omega)).var hj h4
theorem vh {l:List aB} {g:Nat→Prop} {k:Int} (hF:jM k l 0) {F:Nat→Bool} (h:∀k:Nat,k<8→(F k=true↔Wr l g l.length (k:Int))) (x:Int):(∃k:Nat,k<8∧F k=true∧x=(k:Int))↔Wr l g l.length x:=by
 refine⟨fun⟨k,h1,h2,h3⟩=> ?_,fun hw=> ?_⟩
 ·rw[h3];exact(h k h1).mp h2
 ·have:=zg hF (Nat.le_refl _) hw;refine⟨x.toNat,by omega,(h x.toNat (by omega)).mpr ?_,by omega⟩;rw[show((x.toNat:Nat):Int)=x by omega];exact hw
theorem mj (l:List aB) (hl:l.length≤1048576) (hb:okB l.length l 0=true):∃r,da.f l=some r∧r.length≤8∧∀x,x∈r↔Wr l (fun _=>True) l.length x:=by
 obtain⟨b1,b2,b3⟩:=iR _ _ _ hb;have hF0:jM 3 l 0:=⟨0,by omega,b1,b2⟩;have eb:=iU l hl;rw[hb]at eb
 have key:=upto l.length (fun i (F:Nat→Bool)=>∀k:Nat,k<8→(F k=true↔Wr l (fun _=>True) i (k:Int))) (fun i F=>lp da.tree (.c3 l (L8 F) (i:Int))) (fun r=>r.length≤8∧∀x,x∈r↔Wr l (fun _=>True) l.length x) (fun i hi F hM=>by
  rw[an]
  by_cases q:i<l.length
  ·by_cases hv:l[i].f0=1∨l[i].f0=2
   ·have hx:=(hF0.at i (by omega)).var q hv;have n1:(0:Int)≤l[i].f1∧l[i].f1<((L8 F).length:Int):=by rw[jU];omega
    refine Or.inr ⟨q,kj F l[i].f1,?_,fun k hk=> ?_⟩
    ·simp only[da.tree,Tr.ae,Tr.ak,Tr.ag,Tr.aj,aA q,aF q,ar q,and_self,↓reduceIte,bm.told,eb,cW.told,g9,af,hv,decide_true,n1,oP F l[i].f1 hx,aq (show i<4611686018427387904 by omega)]
    ·rw[ru,hM k hk,jv q];exact⟨fun h=>h.imp id fun h=>⟨trivial,hv,h⟩,fun h=>h.imp id fun h=>h.2.2⟩
   ·refine Or.inr ⟨q,F,?_,fun k hk=> ?_⟩
    ·simp only[da.tree,Tr.ae,Tr.ak,Tr.ag,Tr.aj,aA q,aF q,ar q,and_self,↓reduceIte,bm.told,eb,cW.told,g9,af,hv,decide_false,decide_true,Bool.false_eq_true,aq (show i<4611686018427387904 by omega)]
    ·rw[hM k hk,jv q];exact⟨Or.inl,fun h=>h.elim id fun h=>absurd h.2.1 hv⟩
  ·obtain rfl:i=l.length:=by omega
   obtain⟨r,er,hr,hm⟩:=jF F;refine Or.inl ⟨r,?_,hr,fun x=>by rw[hm];exact vh hF0 hM x⟩;simp only[da.tree,Tr.ae,Tr.ag,Tr.ai,aV,Bool.false_eq_true,↓reduceIte,cd.told,er,af]) 0 (by omega) (fun _=>false) (fun k _=>⟨fun h=>(by cases h),fun h=>absurd h nO⟩)
 obtain⟨r,e,h⟩:=key;refine⟨r,?_,h⟩;have n0:(0:Int)≤8∧(8:Int)≤8∧(8:Int)*(1:Nat)≤room:=⟨by omega,by omega,by unfold room;omega⟩;simp only[da.f,da.begin,Tr.ak,Tr.aj,n0,and_self,↓reduceIte,qG];exact e
theorem l4 (l:List aB) (hl:l.length≤1048576) (hb:okB l.length l 0=true):∃r,cl.f l=some r∧r.length≤8∧∀x,x∈r↔Wr l (fun j=>¬sD l j) l.length x:=by
 obtain⟨b1,b2,b3⟩:=iR _ _ _ hb;have hF0:jM 3 l 0:=⟨0,by omega,b1,b2⟩;have eb:=iU l hl;rw[hb]at eb
 have key:∀(n i:Nat) (F:Nat→Bool),i+n=l.length→(∀k:Nat,k<8→(F k=true↔Wr l (fun j=>¬sD l j) i (k:Int)))→(∀i' e,i'<i→r8 l i' e→e<i)→∃r,lp cl.tree (.c3 l (L8 F) (i:Int))=some r∧r.length≤8∧∀x,x∈r↔Wr l (fun j=>¬sD l j) l.length x:=by
  intro n
  induction n using Nat.strongRecOn with
  | _ n ih=>
    intro i F hi hM hA;rw[an]
    by_cases q:i<l.length
    ·have hF:=hF0.at i (by omega)
     by_cases h4:l[i].f0=4
     ·obtain⟨a,s,r,e1,e6,_,hbal,p1,p2,p3,_,_,_⟩:=hF.sO q (by omega) (Or.inl h4);have hE:Ends l i (i+1+a.length):=⟨l[i],a,s,r,e1,Or.inl h4,e6,p1,p2,rfl⟩;have hI:r8 l i (i+1+a.length):=⟨⟨l[i],List.getElem?_eq_getElem q,h4⟩,hE⟩
      obtain⟨rr,er,hr⟩:=ih (l.length-(i+1+a.length+1)) (by omega) (i+1+a.length+1) F (by omega) (fun k hk=>by
       rw[hM k hk];refine⟨fun⟨j,y,h1,h2⟩=>⟨j,y,by omega,h2⟩,fun⟨j,y,h1,h2,h3,h5⟩=>⟨j,y,?_,h2,h3,h5⟩⟩
       by_cases qj:j<i
       ·exact qj
       ·exact(h3 ⟨i,_,hI,by omega,by omega⟩).elim) (fun i' e' h1 h2=>by
       by_cases qi:i'<i
       ·have:=hA i' e' qi h2;omega
       ·by_cases qe:i'=i
        ·subst qe;have:=h2.2.inj hl hE;omega
        ·have:=nested hl e1 e6 hbal (by omega) (show i<i' by omega) (by omega) h2;omega)
      refine⟨rr,?_,hr⟩;simp only[cl.tree,Tr.ae,Tr.ak,Tr.ag,Tr.aj,aA q,aF q,ar q,and_self,↓reduceIte,bm.told,eb,af,decide_eq_true h4,b7.told,hE.qI hl,aq (show i+1+a.length<4611686018427387904 by omega)];exact er
     ·have hnot:¬sD l i:=fun⟨i',e,h1,h2,h3⟩=>by
       by_cases qi:i'<i
       ·have:=hA i' e qi h1;omega
       ·obtain rfl:i'=i:=by omega
        obtain⟨⟨y,hy,hy4⟩,_⟩:=h1;rw[List.getElem?_eq_getElem q]at hy;cases hy;exact h4 hy4
      have hA':∀i' e,i'<i+1→r8 l i' e→e<i+1:=fun i' e h1 h2=>by
       by_cases qi:i'<i
       ·have:=hA i' e qi h2;omega
       ·obtain rfl:i'=i:=by omega
        obtain⟨⟨y,hy,hy4⟩,_⟩:=h2;rw[List.getElem?_eq_getElem q]at hy;cases hy;exact absurd hy4 h4
      by_cases hv:l[i].f0=1∨l[i].f0=2
      ·have hx:=hF.var q hv;have n1:(0:Int)≤l[i].f1∧l[i].f1<((L8 F).length:Int):=by rw[jU];omega
       obtain⟨rr,er,hr⟩:=ih (l.length-(i+1)) (by omega) (i+1) (kj F l[i].f1) (by omega) (fun k hk=>by
        rw[ru,hM k hk,jv q];exact⟨fun h=>h.imp id fun h=>⟨hnot,hv,h⟩,fun h=>h.imp id fun h=>h.2.2⟩) hA'
       refine⟨rr,?_,hr⟩;simp only[cl.tree,Tr.ae,Tr.ak,Tr.ag,Tr.aj,aA q,aF q,ar q,and_self,↓reduceIte,bm.told,eb,af,decide_eq_false h4,Bool.false_eq_true,cW.told,g9,hv,decide_true,n1,oP F l[i].f1 hx,aq (show i<4611686018427387904 by omega)];exact er
      ·obtain⟨rr,er,hr⟩:=ih (l.length-(i+1)) (by omega) (i+1) F (by omega) (fun k hk=>by
        rw[hM k hk,jv q];exact⟨Or.inl,fun h=>h.elim id fun h=>absurd h.2.1 hv⟩) hA'
       refine⟨rr,?_,hr⟩;simp only[cl.tree,Tr.ae,Tr.ak,Tr.ag,Tr.aj,aA q,aF q,ar q,and_self,↓reduceIte,bm.told,eb,af,decide_eq_false h4,Bool.false_eq_true,cW.told,g9,hv,decide_false,aq (show i<4611686018427387904 by omega)];exact er
    ·obtain rfl:i=l.length:=by omega
     obtain⟨r,er,hr,hm⟩:=jF F;refine⟨r,?_,hr,fun x=>by rw[hm];exact vh hF0 hM x⟩;simp only[cl.tree,Tr.ae,Tr.ag,Tr.ai,aV,Bool.false_eq_true,↓reduceIte,cd.told,er,af]
 obtain⟨r,e,h⟩:=key l.length 0 (fun _=>false) (by omega) (fun k _=>⟨fun h=>(by cases h),fun h=>absurd h nO⟩) (fun i' e h=>absurd h (by omega));refine⟨r,?_,h⟩;have n0:(0:Int)≤8∧(8:Int)≤8∧(8:Int)*(1:Nat)≤room:=⟨by omega,by omega,by unfold room;omega⟩;simp only[cl.f,cl.begin,Tr.ak,Tr.aj,n0,and_self,↓reduceIte,qG];exact e
theorem nh (o a b:Int):∃r,cI.f o a b=some r∧r.length≤8∧(∀x∈r,0≤x∧x≤7)∧∀k:Nat,(k:Int)∈r↔j6 o a b k=true:=by
 simp only[cI.f,cI.begin,Tr.aj];cases hx:l7 o a b with
 | false=>
   refine⟨[],?_,by simp,by simp,fun k=>by unfold j6;rw[hx];simp⟩;rw[an];simp only[cI.tree,Tr.ae,Tr.ag,Tr.ai,cy.told,eJ,hx,af,Bool.false_eq_true,show decide ((0:Int)<8)=true from rfl,↓reduceIte]
 | true=>
   obtain⟨_,ha,hb⟩:=oc hx
   exact upto 8 (fun i (s:List Int)=>s.length≤i∧(∀x∈s,0≤x∧x≤7)∧∀k:Nat,(k:Int)∈s↔k<i∧j6 o a b k=true) (fun i s=>lp cI.tree (.c3 o a b s (i:Int))) (fun r=>r.length≤8∧(∀x∈r,0≤x∧x≤7)∧∀k:Nat,(k:Int)∈r↔j6 o a b k=true) (fun i hi s hs=>by
    obtain⟨hl,hv,hm⟩:=hs
    have hr:j6 o a b i=true↔a= -1-(i:Int)∨b= -1-(i:Int):=by
     unfold j6;rw[hx,Bool.true_and,Bool.or_eq_true,decide_eq_true_eq,decide_eq_true_eq]
    have w:wr (-1-(i:Int))= -1-(i:Int):=aQ (by omega);rw[an]
    by_cases q:i<8
    ·have q1:decide ((i:Int)<8)=true:=decide_eq_true (by omega)
     have step:∀k:Nat,k<i+1∧j6 o a b k=true↔(k<i∧j6 o a b k=true)∨(k=i∧j6 o a b i=true):=fun k=>
      ⟨fun⟨h1,h2⟩=>by
       by_cases qk:k<i
       ·exact Or.inl ⟨qk,h2⟩
       ·obtain rfl:k=i:=by omega
        exact Or.inr ⟨rfl,h2⟩,fun h=>h.elim (fun h=>⟨by omega,h.2⟩) fun h=>⟨by omega,by rw[h.1];exact h.2⟩⟩
     have yes:j6 o a b i=true→(s++[(i:Int)]).length≤i+1∧(∀x∈s++[(i:Int)],0≤x∧x≤7)∧∀k:Nat,(k:Int)∈s++[(i:Int)]↔k<i+1∧j6 o a b k=true:=fun h=>
      ⟨by rw[List.length_append,List.length_singleton];omega,fun x hx=>by
       rcases List.mem_append.mp hx with hx | hx
       ·exact hv x hx
       ·rw[List.mem_singleton]at hx;omega,fun k=>by
       rw[gC,hm,step];exact⟨fun h'=>h'.imp id fun h'=>⟨by omega,h⟩,fun h'=>h'.imp id fun h'=>by omega⟩⟩
     have fit:=bY s (i:Int) 1048576 (by omega) (by omega) 8 (by omega)
     by_cases h1:a= -1-(i:Int)
     ·refine Or.inr ⟨q,s++[(i:Int)],?_,yes (hr.mpr (Or.inl h1))⟩;simp only[cI.tree,Tr.ae,Tr.ak,Tr.ag,Tr.aj,q1,cy.told,eJ,hx,af,w,decide_eq_true h1,fit,↓reduceIte,aq (show i<4611686018427387904 by omega)]
     ·by_cases h2:b= -1-(i:Int)
      ·refine Or.inr ⟨q,s++[(i:Int)],?_,yes (hr.mpr (Or.inr h2))⟩;simp only[cI.tree,Tr.ae,Tr.ak,Tr.ag,Tr.aj,q1,cy.told,eJ,hx,af,w,decide_eq_false h1,decide_eq_true h2,Bool.false_eq_true,fit,↓reduceIte,aq (show i<4611686018427387904 by omega)]
      ·refine Or.inr ⟨q,s,?_,by omega,hv,fun k=> ?_⟩
       ·simp only[cI.tree,Tr.ae,Tr.ak,Tr.ag,Tr.aj,q1,cy.told,eJ,hx,af,w,decide_eq_false h1,decide_eq_false h2,Bool.false_eq_true,↓reduceIte,aq (show i<4611686018427387904 by omega)]
       ·rw[hm,step];exact⟨Or.inl,fun h=>h.elim id fun h=>absurd (hr.mp h.2) (by omega)⟩
    ·obtain rfl:i=8:=by omega
     refine Or.inl ⟨s,?_,by omega,hv,fun k=> ?_⟩
     ·simp only[cI.tree,Tr.ae,Tr.ai,show decide (((8:Nat):Int)<8)=false from rfl,Bool.false_eq_true,↓reduceIte]
     ·rw[hm];refine⟨fun h=>h.2,fun h=>⟨?_,h⟩⟩;unfold j6 at h;rw[hx,Bool.true_and,Bool.or_eq_true,decide_eq_true_eq,decide_eq_true_eq]at h;omega) 0 (by omega) [] ⟨by simp,by simp,fun k=>⟨fun h=>by simp at h,fun h=>absurd h.1 (by omega)⟩⟩
theorem iS (o a b:Int) (W F:Nat→Bool):cc.f o a b (L8 F) (L8 W)=some (L8 (note W F (j6 o a b)),L8 W):=by
 obtain⟨l,e,hl,hv,hm⟩:=nh o a b;simp only[cc.f,cc.begin,Tr.ag,Tr.aj,cI.told,e,af];obtain⟨G,hG⟩:∃G:Nat→Nat→Bool,∀i k,G i k=note W F (fun k=>decide ((k:Int)∈l.take i)) k:=⟨_,fun _ _=>rfl⟩
 have key:∀(n i:Nat),i+n=l.length→lp cc.tree (.c3 l (i:Int) (L8 (G i)) (L8 W))=some (L8 (G l.length),L8 W):=by
  intro n
  induction n with
  | zero=>
    intro i hi;obtain rfl:i=l.length:=by omega
    rw[an];simp only[cc.tree,Tr.ae,Tr.ai,aV,Bool.false_eq_true,↓reduceIte]
  | succ n ih=>
    intro i hi;have q:i<l.length:=by omega
    rw[←ih (i+1) (by omega),an];have hk:=hv l[i] (List.getElem_mem q)
    have hs:∀k:Nat,G (i+1) k=(G i k || (decide (l[i]=(k:Int))&& !W k)):=fun k=>by
     rw[hG,hG];unfold note;dsimp only
     have:decide ((k:Int)∈l.take (i+1))=(decide ((k:Int)∈l.take i) || decide (l[i]=(k:Int))):=by
      rw[Bool.eq_iff_iff,Bool.or_eq_true,decide_eq_true_eq,decide_eq_true_eq,decide_eq_true_eq,List.take_add_one,List.getElem?_eq_getElem q];exact gC _ _ _
     rw[this,Bool.and_or_distrib_right,Bool.or_assoc]
    have n1:(0:Int)≤l[i]∧l[i]<((L8 W).length:Int):=by rw[jU];omega
    have n2:(0:Int)≤l[i]∧l[i]<((L8 (G i)).length:Int):=by rw[jU];omega
    cases hW:W l[i].toNat with
    | true=>
      have hgg:L8 (G (i+1))=L8 (G i):=mu fun k hk8=>by
       rw[hs k]
       by_cases e:l[i]=(k:Int)
       ·have:W k=true:=by rw[←hW];congr 1;omega
        rw[this];simp
       ·rw[decide_eq_false e];simp
      rw[hgg];simp only[cc.tree,Tr.ae,Tr.ak,Tr.aj,aA q,aF q,ar q,n1,and_self,decide_true,↓reduceIte,vk W l[i] hk,hW,Bool.not_true,Bool.false_eq_true,aq (show i<4611686018427387904 by omega)]
    | false=>
      have hgg:L8 (G (i+1))=L8 (kj (G i) l[i]):=mu fun k hk8=>by
       rw[hs k];unfold kj
       by_cases e:l[i]=(k:Int)
       ·have:W k=false:=by rw[←hW];congr 1;omega
        rw[this,decide_eq_true e];rfl
       ·rw[decide_eq_false e];simp
      rw[hgg];simp only[cc.tree,Tr.ae,Tr.ak,Tr.aj,aA q,aF q,ar q,n1,n2,and_self,decide_true,↓reduceIte,vk W l[i] hk,hW,Bool.not_false,oP (G i) l[i] hk,aq (show i<4611686018427387904 by omega)]
 have e0:L8 F=L8 (G 0):=mu fun k _=>by rw[hG];unfold note;rw[List.take_zero];simp
 have e1:L8 (note W F (j6 o a b))=L8 (G l.length):=mu fun k _=>by
  rw[hG];unfold note;dsimp only;have:decide ((k:Int)∈l.take l.length)=j6 o a b k:=by rw[List.take_length,Bool.eq_iff_iff,decide_eq_true_eq,hm]
  rw[this]
 rw[e0,e1];exact key l.length 0 (by omega)
theorem iy.append {n:Nat} {l:List aB} {W F W1 F1:Nat→Bool} (h:iy n l W F W1 F1):∀{r:List aB} {W2 F2:Nat→Bool},iy n r W1 F1 W2 F2→iy n (l++r) W F W2 F2:=by
 induction h with
 | nil n W F=>intro r W2 F2 h;exact h
 | plain h4 hok h ih=>intro r W2 F2 h';exact .plain h4 hok (ih h')
 | ifs h4 hok h6 p1 p2 ha hr iha ihr=>
   intro r W2 F2 h';have:=iy.ifs h4 hok h6 p1 p2 ha (ihr h');rw[List.cons_append,List.append_assoc,List.cons_append];exact this
theorem iy.more {n:Nat} {l:List aB} {W F W1 F1:Nat→Bool} (h:iy n l W F W1 F1):iy (n+1) l W F W1 F1:=by
 induction h with
 | nil n W F=>exact .nil _ _ _
 | plain h4 hok h ih=>exact .plain h4 hok ih
 | ifs h4 hok h6 p1 p2 ha hr iha ihr=>exact .ifs h4 hok h6 p1 p2 iha ihr
def xV (self_:Self aR.I aR.A aR.K) (n:Nat):Prop:=
 ∀(l:List aB) (i b:Nat) (W F:Nat→Bool) (m:List aB),l.length≤1048576→l.drop i=m++l.drop b→i+m.length=b→b≤l.length→inr 0 (n:Int) m 0=true→fin m 0=0→∃W1 F1,self_.f (l,(i:Int),(b:Int),L8 W,L8 F)=some (L8 W1,L8 F1)∧iy n m W F W1 F1
set_option maxHeartbeats 4000000 in
theorem kr (self_:Self aR.I aR.A aR.K) (n:Nat) (hn30:n≤30) (hs:∀n',n=n'+1→xV self_ n'):xV (aR.step self_) n:=by
 intro l i b W F m hl hd hib hbl hp hf
 have key:∀(N:Nat) (m:List aB) (d:Int) (i:Nat) (W F:Nat→Bool),m.length=N→0≤d→l.drop i=m++l.drop b→i+m.length=b→inr 0 (n:Int) m d=true→fin m d=0→∃W1 F1,lp (aR.tree self_) (.c1 l (b:Int) (i:Int) (L8 W) (L8 F))=some (L8 W1,L8 F1)∧iy n m W F W1 F1:=by
  intro N
  induction N using Nat.strongRecOn with
  | _ N ih=>
    intro m d i W F hN hd0 hd hib hp hf;cases m with
    | nil=>
      obtain rfl:i=b:=by simpa using hib
      refine⟨W,F,?_,.nil _ _ _⟩;rw[an];simp only[aR.tree,Tr.ae,Tr.ai,aV,Bool.false_eq_true,↓reduceIte]
    | cons x m=>
      obtain⟨q,e,e2⟩:=iF (a:=[]) (show l.drop i=[]++x::(m++l.drop b)from hd);have q':i<l.length:=q;have e':l[i]=x:=e;have e2':l.drop (i+1)=m++l.drop b:=e2;rw[List.length_cons]at hib;have hr:aw l (i:Int)=x:=(ar q').trans e';have qb:decide ((i:Int)<(b:Int))=true:=decide_eq_true (by omega);have w:wr ((i:Int)+1)=((i+1:Nat):Int):=aq (by omega)
      have hok:pY x=true∧inr 0 (n:Int) m (dep x.f0 d)=true∧0≤dep x.f0 d:=by
       unfold inr at hp;rw[Bool.and_eq_true,Bool.and_eq_true,aL]at hp;exact⟨hp.1,hp.2.2,hp.2.1.1⟩
      have hfm:fin m (dep x.f0 d)=0:=hf
      by_cases hop:x.f0=4∨x.f0=5
      ·obtain⟨a,s,r,em,e6,k1,hbal,p1,p2,p3,p4⟩:=oE hd0 hop hp hf;obtain⟨n',rfl⟩:∃n',n=n'+1:=⟨n-1,by omega⟩;subst em;have hdd:l.drop i=x::(a++s::(r++l.drop b)):=by rw[hd];simp
       have hE:Ends l i (i+1+a.length):=⟨x,a,s,_,hdd,hop,e6,j7 (by omega) (by omega) a 1 p1,p2,rfl⟩;obtain⟨g1,g2,g3⟩:=iF (show l.drop (i+1)=a++s::(r++l.drop b) by rw[e2'];simp);have hlen:(a++s::r).length=a.length+1+r.length:=by simp;omega
       have hbal1:inr 0 (n':Int) a 0=true:=by rw[show(n':Int)=((n'+1:Nat):Int)-1 by omega];exact hbal.1
       have hee:=hE.qI hl;have hwe:wr (((i+1+a.length:Nat):Int)+1)=((i+1+a.length+1:Nat):Int):=aq (by omega)
       have hda:l.drop (i+1)=a++l.drop (i+1+a.length):=by
        rw[show l.drop (i+1+a.length)=s::(r++l.drop b) by rw[←List.drop_drop,e2'];simp,e2'];simp
       by_cases h4:x.f0=4
       ·have n1:¬x.f0=1:=by omega
        have n2:¬x.f0=2:=by omega
        have n3:¬x.f0=3:=by omega
        have sW:fi x W=W:=by unfold fi;rw[if_neg (by omega)]
        have sF:fF x W F=note W F (j6 x.f3.f0 x.f3.f1 x.f3.f2):=by unfold fF;rw[if_pos (by omega)]
        have fit:((List.length ([]:List Bool):Int)+((L8 W).length:Int))*(1:Nat)≤room:=by rw[jU];unfold room;simp
        obtain⟨W1,F1,es,hR1⟩:=hs n' rfl l (i+1) (i+1+a.length) W (note W F (j6 x.f3.f0 x.f3.f1 x.f3.f2)) a hl hda rfl (by omega) hbal1 hbal.2;obtain⟨W2,F2,er,hR2⟩:=ih r.length (by rw[←hN,List.length_cons,hlen];omega) r d (i+1+a.length+1) W F1 rfl hd0 g3 (by omega) p3 p4;refine⟨W2,F2,?_,.ifs h4 hok.1 e6 (j7 (by omega) (by omega) a 1 p1) p2 (by rw[sW,sF];exact hR1) (by rw[sW];exact hR2)⟩;rw[an];simp only[aR.tree,Tr.ae,Tr.ak,Tr.ag,Tr.aj,qb,aF q',hr,and_self,↓reduceIte,decide_eq_false n1,decide_eq_false n2,decide_eq_false n3,decide_eq_true h4,Bool.false_eq_true,cc.told,iS x.f3.f0 x.f3.f1 x.f3.f2 W F,af,b7.told,hee,fit,List.nil_append,w,Self.told,es,hwe];exact er
       ·have h5:x.f0=5:=by omega
        have n1:¬x.f0=1:=by omega
        have n2:¬x.f0=2:=by omega
        have n3:¬x.f0=3:=by omega
        have sW:fi x W=W:=by unfold fi;rw[if_neg (by omega)]
        have sF:fF x W F=F:=by unfold fF;rw[if_neg (by omega)]
        obtain⟨W1,F1,es,hR1⟩:=hs n' rfl l (i+1) (i+1+a.length) W F a hl hda rfl (by omega) hbal1 hbal.2;obtain⟨W2,F2,er,hR2⟩:=ih r.length (by rw[←hN,List.length_cons,hlen];omega) r d (i+1+a.length+1) W1 F1 rfl hd0 g3 (by omega) p3 p4
        have oks:pY s=true:=by
         have h1:=hok.2.1
         have:∀(a:List aB) (d:Int),inr 0 ((n'+1:Nat):Int) (a++s::r) d=true→pY s=true:=by
          intro a
          induction a with
          | nil=>intro d h;exact(Bool.and_eq_true _ _▸h:pY s=true∧_).1
          | cons y a iha=>intro d h;unfold inr at h;rw[List.cons_append]at h;simp only[inr,Bool.and_eq_true]at h;exact iha _ h.2.2
         exact this a _ h1
        have sWs:∀W:Nat→Bool,fi s W=W:=fun W=>by unfold fi;rw[if_neg (by omega)]
        have sFs:∀W F:Nat→Bool,fF s W F=F:=fun W F=>by unfold fF;rw[if_neg (by omega)]
        refine⟨W2,F2,?_,.plain h4 hok.1 (by rw[sW,sF];exact hR1.more.append (.plain (by omega) oks (by rw[sWs,sFs];exact hR2)))⟩;rw[an];simp only[aR.tree,Tr.ae,Tr.ak,Tr.ag,Tr.aj,qb,aF q',hr,and_self,↓reduceIte,decide_eq_false n1,decide_eq_false n2,decide_eq_false n3,decide_eq_false h4,decide_eq_true h5,Bool.false_eq_true,af,b7.told,hee,w,Self.told,es,hwe];exact er
      ·have n4:¬x.f0=4:=by omega
       have n5:¬x.f0=5:=by omega
       by_cases n1:x.f0=1
       ·have hv:=mg hok.1 (Or.inl n1);have sW:fi x W=kj W x.f1:=by unfold fi;rw[if_pos (by omega)]
        have sF:fF x W F=note W F (j6 x.f3.f0 x.f3.f1 x.f3.f2):=by unfold fF;rw[if_pos (by omega)]
        have nb:(0:Int)≤x.f1∧x.f1<((L8 W).length:Int):=by rw[jU];omega
        obtain⟨W2,F2,er,hR2⟩:=ih m.length (by rw[←hN,List.length_cons];omega) m _ (i+1) (kj W x.f1) (note W F (j6 x.f3.f0 x.f3.f1 x.f3.f2)) rfl hok.2.2 e2' (by omega) hok.2.1 hfm;refine⟨W2,F2,?_,.plain n4 hok.1 (by rw[sW,sF];exact hR2)⟩;rw[an];simp only[aR.tree,Tr.ae,Tr.ak,Tr.ag,Tr.aj,qb,aF q',hr,and_self,↓reduceIte,decide_eq_true n1,cc.told,iS x.f3.f0 x.f3.f1 x.f3.f2 W F,af,nb,oP W x.f1 hv,w];exact er
       ·by_cases n2:x.f0=2
        ·have hv:=mg hok.1 (Or.inr n2);have sW:fi x W=kj W x.f1:=by unfold fi;rw[if_pos (by omega)]
         have sF:fF x W F=F:=by unfold fF;rw[if_neg (by omega)]
         have nb:(0:Int)≤x.f1∧x.f1<((L8 W).length:Int):=by rw[jU];omega
         obtain⟨W2,F2,er,hR2⟩:=ih m.length (by rw[←hN,List.length_cons];omega) m _ (i+1) (kj W x.f1) F rfl hok.2.2 e2' (by omega) hok.2.1 hfm;refine⟨W2,F2,?_,.plain n4 hok.1 (by rw[sW,sF];exact hR2)⟩;rw[an];simp only[aR.tree,Tr.ae,Tr.ak,Tr.ag,Tr.aj,qb,aF q',hr,and_self,↓reduceIte,decide_eq_false n1,decide_eq_true n2,Bool.false_eq_true,af,nb,oP W x.f1 hv,w];exact er
        ·by_cases n3:x.f0=3
         ·have sW:fi x W=W:=by unfold fi;rw[if_neg (by omega)]
          have sF:fF x W F=note W F (j6 x.f3.f0 x.f3.f1 x.f3.f2):=by unfold fF;rw[if_pos (by omega)]
          obtain⟨W2,F2,er,hR2⟩:=ih m.length (by rw[←hN,List.length_cons];omega) m _ (i+1) W (note W F (j6 x.f3.f0 x.f3.f1 x.f3.f2)) rfl hok.2.2 e2' (by omega) hok.2.1 hfm;refine⟨W2,F2,?_,.plain n4 hok.1 (by rw[sW,sF];exact hR2)⟩;rw[an];simp only[aR.tree,Tr.ae,Tr.ak,Tr.ag,Tr.aj,qb,aF q',hr,and_self,↓reduceIte,decide_eq_false n1,decide_eq_false n2,decide_eq_true n3,Bool.false_eq_true,cc.told,iS x.f3.f0 x.f3.f1 x.f3.f2 W F,af,w];exact er
         ·have sW:fi x W=W:=by unfold fi;rw[if_neg (by omega)]
          have sF:fF x W F=F:=by unfold fF;rw[if_neg (by omega)]
          obtain⟨W2,F2,er,hR2⟩:=ih m.length (by rw[←hN,List.length_cons];omega) m _ (i+1) W F rfl hok.2.2 e2' (by omega) hok.2.1 hfm;refine⟨W2,F2,?_,.plain n4 hok.1 (by rw[sW,sF];exact hR2)⟩;rw[an];simp only[aR.tree,Tr.ae,Tr.ak,Tr.ag,Tr.aj,qb,aF q',hr,and_self,↓reduceIte,decide_eq_false n1,decide_eq_false n2,decide_eq_false n3,decide_eq_false n4,decide_eq_false n5,Bool.false_eq_true,af,w];exact er
 exact key m.length m 0 i W F rfl (Int.le_refl _) hd hib hp hf
theorem oZ (l:List aB) (W F:Nat→Bool) (hl:l.length≤1048576) (hb:okB l.length l 0=true):∃W1 F1,aR.f l 0 (l.length:Int) (L8 W) (L8 F)=some (L8 W1,L8 F1)∧iy 3 l W F W1 F1:=by
 have h0:=kr (Self.iter aR.step 4) 0 (by omega) (fun n' h=>absurd h (by omega));have h1:=kr (Self.iter aR.step 5) 1 (by omega) (fun n' h=>by cases h;exact h0);have h2:=kr (Self.iter aR.step 6) 2 (by omega) (fun n' h=>by cases h;exact h1);have h3:=kr (Self.iter aR.step 7) 3 (by omega) (fun n' h=>by cases h;exact h2);obtain⟨c1,c2,_⟩:=iR _ _ _ hb;exact h3 l 0 l.length W F l hl (by simp) (by omega) (Nat.le_refl _) c1 c2
theorem qw (l:List aB) (a b c:Int) (hl:l.length≤1048576) (hb:okB l.length l 0=true) (hx:l7 a b c=true):∃mi ms,dS.f l a b c=some mi∧df.f l a b c=some ms∧mi.length≤1048576∧ms.length≤1048576∧∀x,x∈mi↔x∈ms:=by
 obtain⟨b1,b2,b3⟩:=iR _ _ _ hb;obtain⟨W1,F1,ep,hR⟩:=oZ l (fun _=>false) (fun _=>false) hl hb;obtain⟨mi,ei,hil,him⟩:=mH l a b c hl hb hx hR;have en:=iS a b c W1 F1;generalize note W1 F1 (j6 a b c)=Y at him en;obtain⟨r1,e1,h1,m1⟩:=jF Y;obtain⟨r2,e2,h2,m2⟩:=l4 l hl hb;obtain⟨r3,e3,h3,m3⟩:=mj l hl hb;have eb:=iU l hl;rw[hb]at eb;have n0:(0:Int)≤8∧(8:Int)≤8∧(8:Int)*(1:Nat)≤room:=⟨by omega,by omega,by unfold room;omega⟩
 have e4:dz.f l a b c=some r1:=by
  simp only[dz.f,dz.begin,Tr.ak,Tr.ag,Tr.ae,Tr.ai,n0,and_self,↓reduceIte,bm.told,eb,cy.told,eJ,hx,af,qG,aR.told,ep,cc.told,en,cd.told,e1]
 obtain⟨ms,es,hsl,hsm⟩:=upto r3.length (fun i (s:List Int)=>s.length≤i∧∀x,x∈s↔x∈r3.take i∧(x∈r1∨¬x∈r2)) (fun i s=>lp df.tree (.c8 s r3 r2 r1 (i:Int))) (fun r=>r.length≤8∧∀x,x∈r↔x∈r3∧(x∈r1∨¬x∈r2)) (fun i hi s hs=>by
  obtain⟨hs,hm⟩:=hs;rw[an]
  by_cases q:i<r3.length
  ·have v1:=jd r1 r3[i] (by omega);have v2:=jd r2 r3[i] (by omega);have fit:=bY s r3[i] 1048576 (by omega) (by omega) 8 (by omega);have tk:∀x,x∈r3.take (i+1)↔x∈r3.take i∨r3[i]=x:=fun x=>by rw[eR q,gC]
   by_cases h1:r3[i]∈r1
   ·refine Or.inr ⟨q,s++[r3[i]],?_,by rw[List.length_append,List.length_singleton];omega,fun x=> ?_⟩
    ·simp only[df.tree,Tr.ae,Tr.ak,Tr.ag,Tr.aj,aA q,aF q,ar q,and_self,decide_true,↓reduceIte,cr.told,v1,af,decide_eq_true h1,fit,aq (show i<4611686018427387904 by omega)]
    ·rw[gC,hm,tk];exact⟨fun h=>h.elim (fun h=>⟨Or.inl h.1,h.2⟩) fun h=>⟨Or.inr h,Or.inl (by rw[←h];exact h1)⟩,fun⟨h,h'⟩=>h.elim (fun h=>Or.inl ⟨h,h'⟩) Or.inr⟩
   ·by_cases h2:r3[i]∈r2
    ·refine Or.inr ⟨q,s,?_,by omega,fun x=> ?_⟩
     ·simp only[df.tree,Tr.ae,Tr.ak,Tr.ag,Tr.aj,aA q,aF q,ar q,and_self,decide_true,↓reduceIte,cr.told,v1,v2,af,decide_eq_false h1,decide_eq_true h2,Bool.not_true,Bool.false_eq_true,aq (show i<4611686018427387904 by omega)]
     ·rw[hm,tk];refine⟨fun h=>⟨Or.inl h.1,h.2⟩,fun⟨h,h'⟩=>h.elim (fun h=>⟨h,h'⟩) fun h=> ?_⟩;rw[←h]at h';exact absurd h2 (h'.elim (fun h=>absurd h h1) id)
    ·refine Or.inr ⟨q,s++[r3[i]],?_,by rw[List.length_append,List.length_singleton];omega,fun x=> ?_⟩
     ·simp only[df.tree,Tr.ae,Tr.ak,Tr.ag,Tr.aj,aA q,aF q,ar q,and_self,decide_true,↓reduceIte,cr.told,v1,v2,af,decide_eq_false h1,decide_eq_false h2,Bool.not_false,Bool.false_eq_true,fit,aq (show i<4611686018427387904 by omega)]
     ·rw[gC,hm,tk];exact⟨fun h=>h.elim (fun h=>⟨Or.inl h.1,h.2⟩) fun h=>⟨Or.inr h,Or.inr (by rw[←h];exact h2)⟩,fun⟨h,h'⟩=>h.elim (fun h=>Or.inl ⟨h,h'⟩) Or.inr⟩
  ·obtain rfl:i=r3.length:=by omega
   rw[List.take_length]at hm;refine Or.inl ⟨s,?_,by omega,hm⟩;simp only[df.tree,Tr.ae,Tr.ai,aV,Bool.false_eq_true,↓reduceIte]) 0 (by omega) [] ⟨by simp,by simp⟩
 refine⟨mi,ms,ei,?_,by omega,by omega,fun x=> ?_⟩
 ·simp only[df.f,df.begin,Tr.ag,Tr.ae,Tr.aj,ji.told,ji.f,ji.begin,Tr.ai,bm.told,eb,cy.told,eJ,hx,af,Bool.not_true,Bool.false_eq_true,↓reduceIte,da.told,e3,cl.told,e2,dz.told,e4];exact es
 ·rw[him,hsm,m3,m1,m2];rfl
theorem jE (c:Int) (vs se u li rd:List Int) (at_:Int) (lv:Bool) (o:List aN) (ms lg:List Int) (t tl:Int) (ho:o.length≤1000000):eB.f c vs se u li rd at_ lv o ms lg t tl=some (vs,se,u,li,rd,at_,lv,o++[(⟨c,-1,0⟩:aN)],ms,lg,t,tl):=by
 simp only[eB.f,eB.begin,Tr.ak,Tr.ai,bY o _ 1048576 (by omega) (by omega) 24 (by omega),↓reduceIte]
theorem fz (a v:Int) (vs se u li rd:List Int) (at_:Int) (lv:Bool) (o:List aN) (ms lg:List Int) (t tl:Int) (ho:o.length≤1000000):cH.f a v vs se u li rd at_ lv o ms lg t tl=some (vs,se,u,li,rd,at_,lv,o++[(⟨3,a,v⟩:aN)],ms,lg,t,tl):=by
 simp only[cH.f,cH.begin,Tr.ak,Tr.ai,bY o _ 1048576 (by omega) (by omega) 24 (by omega),↓reduceIte]
def Sy (mi ms lg:List Int) (f:List Bool):Prop:=(∀x,x∈mi↔x∈ms)∧∀k:Nat,k<8→(k:Int)∈mi→(f[k]? =some true↔(k:Int)∈lg)
set_option maxHeartbeats 4000000 in
theorem oO (mi:List Int) (k v:Int) (o:List aN) (u:List Int) (t tl sn:Int) (lg:List Int) (f0 f1 f2 f3 f4 f5 f6 f7:Bool) (vs:List Int) (hk:0≤k∧k≤7) (hm:mi.length≤1048576):
 aE.f mi k v o u t tl sn lg f0 f1 f2 f3 f4 f5 f6 f7 vs=if k∈mi∧([f0,f1,f2,f3,f4,f5,f6,f7]:List Bool)[k.toNat]? =some false then lp aE.tree (.c1 k v o u t tl sn lg f0 f1 f2 f3 f4 f5 f6 f7 vs)else lp aE.tree (.c6 k v o u t tl sn lg f0 f1 f2 f3 f4 f5 f6 f7 vs):=by
 have eh:=jZ mi k hm
 by_cases h:k∈mi
 ·rw[decide_eq_true h]at eh;simp only[aE.f,aE.begin,Tr.ag,Tr.ae,Tr.aj,ff.told,eh,af,↓reduceIte];rcases(show k=0∨k=1∨k=2∨k=3∨k=4∨k=5∨k=6∨k=7 by omega)with rfl | rfl | rfl | rfl | rfl | rfl | rfl | rfl
  ·simp only[decide_true,↓reduceIte,Int.reduceEq,decide_false,Bool.false_eq_true];cases f0 with
   | false=>exact(if_pos ⟨h,rfl⟩).symm
   | true=>exact(if_neg (fun h'=>by cases h'.2)).symm
  ·simp only[decide_true,↓reduceIte,Int.reduceEq,decide_false,Bool.false_eq_true];cases f1 with
   | false=>exact(if_pos ⟨h,rfl⟩).symm
   | true=>exact(if_neg (fun h'=>by cases h'.2)).symm
  ·simp only[decide_true,↓reduceIte,Int.reduceEq,decide_false,Bool.false_eq_true];cases f2 with
   | false=>exact(if_pos ⟨h,rfl⟩).symm
   | true=>exact(if_neg (fun h'=>by cases h'.2)).symm
  ·simp only[decide_true,↓reduceIte,Int.reduceEq,decide_false,Bool.false_eq_true];cases f3 with
   | false=>exact(if_pos ⟨h,rfl⟩).symm
   | true=>exact(if_neg (fun h'=>by cases h'.2)).symm
  ·simp only[decide_true,↓reduceIte,Int.reduceEq,decide_false,Bool.false_eq_true];cases f4 with
   | false=>exact(if_pos ⟨h,rfl⟩).symm
   | true=>exact(if_neg (fun h'=>by cases h'.2)).symm
  ·simp only[decide_true,↓reduceIte,Int.reduceEq,decide_false,Bool.false_eq_true];cases f5 with
   | false=>exact(if_pos ⟨h,rfl⟩).symm
   | true=>exact(if_neg (fun h'=>by cases h'.2)).symm
  ·simp only[decide_true,↓reduceIte,Int.reduceEq,decide_false,Bool.false_eq_true];cases f6 with
   | false=>exact(if_pos ⟨h,rfl⟩).symm
   | true=>exact(if_neg (fun h'=>by cases h'.2)).symm
  ·simp only[decide_true,↓reduceIte,Int.reduceEq,decide_false,Bool.false_eq_true];cases f7 with
   | false=>exact(if_pos ⟨h,rfl⟩).symm
   | true=>exact(if_neg (fun h'=>by cases h'.2)).symm
 ·rw[decide_eq_false h]at eh;rw[if_neg (fun h'=>h h'.1)];simp only[aE.f,aE.begin,Tr.ag,Tr.ae,Tr.aj,ff.told,eh,af,Bool.false_eq_true,↓reduceIte]
theorem nq {n:Nat} {M:List Int} {B:Nat} (k v:Int) (o:List aN) (u:List Int) (t tl sn:Int) (lg:List Int) (f0 f1 f2 f3 f4 f5 f6 f7:Bool) (vs:List Int) (b:kT n t tl M) (hB:B≤900000) (h:TI n t tl M B o u sn lg (([f0,f1,f2,f3,f4,f5,f6,f7]:List Bool).set k.toNat true) vs) (hk:0≤k∧k≤7) (hv:isVal v=true):
 ∃g0 g1 g2 g3 g4 g5 g6 g7,[g0,g1,g2,g3,g4,g5,g6,g7]=([f0,f1,f2,f3,f4,f5,f6,f7]:List Bool).set k.toNat true∧lp aE.tree (.c6 k v o u t tl sn lg f0 f1 f2 f3 f4 f5 f6 f7 vs)=some (o++[(⟨3,k,v⟩:aN)],u,t,tl,sn,lg,g0,g1,g2,g3,g4,g5,g6,g7,vs.set k.toNat v)∧TI n t tl M (B+1) (o++[(⟨3,k,v⟩:aN)]) u sn lg [g0,g1,g2,g3,g4,g5,g6,g7] (vs.set k.toNat v):=by
 obtain⟨g0,g1,g2,g3,g4,g5,g6,g7,e,e'⟩:=tK k v o u t tl sn lg f0 f1 f2 f3 f4 f5 f6 f7 vs hk;rw[←e]at h;have hvl:=(kn.mp h.sH).2;have n1:(0:Int)≤k∧k<(vs.length:Int):=by omega
 have hw:=dt k v o u t tl sn lg g0 g1 g2 g3 g4 g5 g6 g7 (vs.set k.toNat v) (by have:=h.j8;omega);refine⟨g0,g1,g2,g3,g4,g5,g6,g7,e,?_,h.push b _ ⟨by show(0:Int)≤3∧(3:Int)≤5;omega,by show -1≤k∧k<49;omega⟩ ?_ (by have:=h.tH;omega) h.wz (xd h.sH hv)⟩
 ·rw[e',an];simp only[aE.tree,Tr.ak,Tr.ag,Tr.ai,n1,and_self,↓reduceIte,bw.told,hw,af]
 ·rw[ky _ _ _ _ hk.1];exact h.run.set (by omega) (by omega) (fun _=>hv) (Or.inl (by omega)) (Or.inl (by omega))
theorem lf (k v:Int) (vs se u li rd:List Int) (at_:Int) (lv:Bool) (o:List aN) (ms lg:List Int) (t tl:Int) (hk:0≤k∧k≤7) (hvl:vs.length=8) (ho:o.length≤1000000):
 lp bJ.tree (.c6 k v vs se u li rd at_ lv o ms lg t tl)=some (vs.set k.toNat v,se,u,li,rd,at_,lv,o++[(⟨3,k,v⟩:aN)],ms,lg,t,tl):=by
 have n1:(0:Int)≤k∧k<(vs.length:Int):=by omega
 rw[an];simp only[bJ.tree,Tr.ak,Tr.ag,Tr.ai,n1,and_self,↓reduceIte,cH.told,fz k v (vs.set k.toNat v) se u li rd at_ lv o ms lg t tl ho,af]
theorem mC {f:List Bool} {j:Nat} (h:j<f.length):f[j]? =some true∨f[j]? =some false:=by
 rw[List.getElem?_eq_getElem h];cases f[j]with
 | true=>exact Or.inl rfl
 | false=>exact Or.inr rfl
set_option maxHeartbeats 4000000 in
theorem nk {n:Nat} {M:List Int} {B:Nat} (mi ms:List Int) (k v:Int) (o:List aN) (u:List Int) (t tl sn:Int) (lg:List Int) (f0 f1 f2 f3 f4 f5 f6 f7:Bool) (vs:List Int) (se rd:List Int) (at_:Int) (b:kT n t tl M) (hB:B≤800000) (h:TI n t tl M B o u sn lg [f0,f1,f2,f3,f4,f5,f6,f7] vs) (hk:0≤k∧k≤7) (hv:isVal v=true) (hm:mi.length≤1048576) (hms:ms.length≤1048576) (hS:Sy mi ms lg [f0,f1,f2,f3,f4,f5,f6,f7]):
 ∃o' lg' g0 g1 g2 g3 g4 g5 g6 g7,aE.f mi k v o u t tl sn lg f0 f1 f2 f3 f4 f5 f6 f7 vs=some (o',u,t,tl,sn,lg',g0,g1,g2,g3,g4,g5,g6,g7,vs.set k.toNat v)∧TI n t tl M (B+4) o' u sn lg' [g0,g1,g2,g3,g4,g5,g6,g7] (vs.set k.toNat v)∧
  bJ.f k v vs se u [] rd at_ true o ms lg t tl=some (vs.set k.toNat v,se,u,[],rd,at_,true,o',ms,lg',t,tl)∧Sy mi ms lg' [g0,g1,g2,g3,g4,g5,g6,g7]:=by
 have hb8:k.toNat<([f0,f1,f2,f3,f4,f5,f6,f7]:List Bool).length:=by simp;omega
 have hk8:=hS.2 k.toNat (by omega);rw[show((k.toNat:Nat):Int)=k by omega]at hk8;have hvl:=(kn.mp h.sH).2;have ho:=h.j8;have hlgl:=h.wz;have hc8':=pU ([f0,f1,f2,f3,f4,f5,f6,f7]:List Bool);simp only[List.length_cons,List.length_nil]at hc8';have eI:=oO mi k v o u t tl sn lg f0 f1 f2 f3 f4 f5 f6 f7 vs hk hm;have e1:=jd ms k hms;have e2:=jd lg k (by omega)
 by_cases hc:k∈mi∧([f0,f1,f2,f3,f4,f5,f6,f7]:List Bool)[k.toNat]? =some false
 ·rw[if_pos hc]at eI;have hf:([f0,f1,f2,f3,f4,f5,f6,f7]:List Bool).getD k.toNat true=false:=by rw[List.getD_eq_getElem?_getD,hc.2];rfl
  have hnl:¬k∈lg:=fun hl=>by
   have:=(hk8 hc.1).mpr hl;rw[hc.2]at this;cases this
  rw[decide_eq_true ((hS.1 k).mp hc.1)]at e1;rw[decide_eq_false hnl]at e2;obtain⟨hva,_⟩:=kn.mp h.sH;have n1:(0:Int)≤k∧k<(vs.length:Int):=by omega
  have hcn:=pz ([f0,f1,f2,f3,f4,f5,f6,f7]:List Bool) k.toNat hb8 hf;have hc8:=pU (([f0,f1,f2,f3,f4,f5,f6,f7]:List Bool).set k.toNat true);rw[List.length_set]at hc8;have hlg7:lg.length≤7:=by simp only[List.length_cons,List.length_nil]at hc8;omega
  have w1:wr (2*(lg.length:Int))=2*(lg.length:Int):=aQ (by omega);have w2:wr (9+2*(lg.length:Int))=9+2*(lg.length:Int):=aQ (by omega);have w3:wr (9+2*(lg.length:Int)+1)=9+2*(lg.length:Int)+1:=aQ (by omega);have w4':wr ((lg.length:Int)+1)=(lg.length:Int)+1:=aQ (by omega);have w4:wr ((lg.length:Int)+1)=((lg++[k]).length:Int):=w4'.trans (by rw[List.length_append,List.length_singleton];rfl);have hw1:=dt (9+2*(lg.length:Int)) k o u t tl sn lg f0 f1 f2 f3 f4 f5 f6 f7 vs (by omega);have hw2:=dt (9+2*(lg.length:Int)+1) (dh vs k) (o++[(⟨3,9+2*(lg.length:Int),k⟩:aN)]) u t tl sn lg f0 f1 f2 f3 f4 f5 f6 f7 vs (by rw[List.length_append,List.length_singleton];omega);have hw3:=dt 8 (pack t ((lg++[k]).length:Int) tl) ((o++[(⟨3,9+2*(lg.length:Int),k⟩:aN)])++[(⟨3,9+2*(lg.length:Int)+1,dh vs k⟩:aN)]) u t tl sn (lg++[k]) f0 f1 f2 f3 f4 f5 f6 f7 vs (by rw[List.length_append,List.length_append,List.length_singleton,List.length_singleton];omega);have hx1:=fz (9+2*(lg.length:Int)) k vs se u [] rd at_ true o ms lg t tl (by omega);have hx2:=fz (9+2*(lg.length:Int)+1) (dh vs k) vs se u [] rd at_ true (o++[(⟨3,9+2*(lg.length:Int),k⟩:aN)]) ms lg t tl (by rw[List.length_append,List.length_singleton];omega)
  have hx3:=fz 8 (pack t ((lg++[k]).length:Int) tl) vs se u [] rd at_ true ((o++[(⟨3,9+2*(lg.length:Int),k⟩:aN)])++[(⟨3,9+2*(lg.length:Int)+1,dh vs k⟩:aN)]) ms lg t tl (by rw[List.length_append,List.length_append,List.length_singleton,List.length_singleton];omega);have hx6:=lf k v vs se u [] rd at_ true (((o++[(⟨3,9+2*(lg.length:Int),k⟩:aN)])++[(⟨3,9+2*(lg.length:Int)+1,dh vs k⟩:aN)])++[(⟨3,8,pack t ((lg++[k]).length:Int) tl⟩:aN)]) ms (lg++[k]) t tl hk hvl (by rw[List.length_append,List.length_append,List.length_append,List.length_singleton,List.length_singleton,List.length_singleton];omega);have hkv:isVal k=true:=by unfold isVal;rw[aL];omega
  have hrv:isVal (dh vs k)=true:=sU hva k
  have r1:pe t tl M lg.length sn (mw (bj M o) (⟨3,9+2*(lg.length:Int),k⟩:aN)):=by
   rw[ky _ _ _ _ (by omega)];exact h.run.set (by omega) (by omega) (fun _=>hkv) (Or.inr (by omega)) (Or.inl (by omega))
  have h1:=h.push b _ (vs':=vs) (lg':=lg) (f':=[f0,f1,f2,f3,f4,f5,f6,f7]) ⟨by show(0:Int)≤3∧(3:Int)≤5;omega,by show -1≤9+2*(lg.length:Int)∧9+2*(lg.length:Int)<49;omega⟩ r1 (by have:=h.tH;omega) h.wz h.sH
  have r2:pe t tl M lg.length sn (mw (bj M (o++[(⟨3,9+2*(lg.length:Int),k⟩:aN)])) (⟨3,9+2*(lg.length:Int)+1,dh vs k⟩:aN)):=by
   rw[ky _ _ _ _ (by omega)];exact h1.run.set (by omega) (by omega) (fun _=>hrv) (Or.inr (by omega)) (Or.inl (by omega))
  have h2:=h1.push b _ (vs':=vs) (lg':=lg) (f':=[f0,f1,f2,f3,f4,f5,f6,f7]) ⟨by show(0:Int)≤3∧(3:Int)≤5;omega,by show -1≤9+2*(lg.length:Int)+1∧9+2*(lg.length:Int)+1<49;omega⟩ r2 (by have:=h.tH;omega) h.wz h.sH
  have hp:gV (bj M ((o++[(⟨3,9+2*(lg.length:Int),k⟩:aN)])++[(⟨3,9+2*(lg.length:Int)+1,dh vs k⟩:aN)])) lg.length=true:=by
   have l0:=h.run.len;rw[jS,gf,gf,ky _ _ _ _ (by omega),ky _ _ _ _ (by omega)];have l1:(List.set (bj M o) (9+2*(lg.length:Int)).toNat k).length=49:=by rw[List.length_set];exact l0
   rw[cC (by omega),cC (by omega),cC (by omega),if_neg (by omega),if_pos (by omega),if_pos (by omega),hrv];rw[(aL (x:=k)).mpr hk];rfl
  have r3:pe t tl M (lg++[k]).length sn (mw (bj M ((o++[(⟨3,9+2*(lg.length:Int),k⟩:aN)])++[(⟨3,9+2*(lg.length:Int)+1,dh vs k⟩:aN)])) (⟨3,8,pack t ((lg++[k]).length:Int) tl⟩:aN)):=by
   rw[ky _ _ _ _ (by omega),List.length_append,List.length_singleton];exact h2.run.DH (by omega) hp
  have h3:=h2.push b _ (vs':=vs) (lg':=lg++[k]) (f':=([f0,f1,f2,f3,f4,f5,f6,f7]:List Bool).set k.toNat true) ⟨by show(0:Int)≤3∧(3:Int)≤5;omega,by show(-1:Int)≤8∧(8:Int)<49;omega⟩ r3 (by have:=h.tH;omega) (by rw[List.length_append,List.length_singleton];omega) h.sH;obtain⟨g0,g1,g2,g3,g4,g5,g6,g7,eg,e7,t7⟩:=nq k v _ u t tl sn (lg++[k]) f0 f1 f2 f3 f4 f5 f6 f7 vs b (by omega) h3 hk hv;refine⟨_,lg++[k],g0,g1,g2,g3,g4,g5,g6,g7,?_,t7,?_,hS.1,fun j hj hjm=> ?_⟩
  ·rw[eI,an];simp only[aE.tree,Tr.ag,Tr.ak,Tr.au,Tr.aj,bw.told,bQ.told,gp,w1,w2,w3,hw1,hw2,hw3,af,n1,and_self,bY lg _ 1048576 (by omega) (by omega) 8 (by omega),↓reduceIte];exact e7
  ·simp only[bJ.f,bJ.begin,Tr.ag,Tr.ae,Tr.ak,Tr.au,Tr.aj,cr.told,e1,e2,af,Bool.not_false,↓reduceIte,cH.told,bU.told,gq,w1,w2,w3,w4,hx1,hx2,hx3,n1,and_self,bY lg _ 1048576 (by omega) (by omega) 8 (by omega)];exact hx6
  ·rw[eg,List.getElem?_set,gC]
   by_cases q:k.toNat=j
   ·rw[if_pos q,if_pos hb8];exact⟨fun _=>Or.inr (by omega),fun _=>rfl⟩
   ·rw[if_neg q,hS.2 j hj hjm];exact⟨Or.inl,fun h=>h.elim id fun h=>by omega⟩
 ·rw[if_neg hc]at eI;have h':TI n t tl M B o u sn lg (([f0,f1,f2,f3,f4,f5,f6,f7]:List Bool).set k.toNat true) vs:={h with wz:=Nat.le_trans h.wz (qQ _ _)};obtain⟨g0,g1,g2,g3,g4,g5,g6,g7,eg,e7,t7⟩:=nq k v _ u t tl sn lg f0 f1 f2 f3 f4 f5 f6 f7 vs b (by omega) h' hk hv;have hx6:=lf k v vs se u [] rd at_ true o ms lg t tl hk hvl (by omega);refine⟨_,lg,g0,g1,g2,g3,g4,g5,g6,g7,eI.trans e7,t7.mono (by omega),?_,hS.1,fun j hj hjm=> ?_⟩
  ·by_cases hms':k∈ms
   ·have hmi:=(hS.1 k).mpr hms';have hl:k∈lg:=(hk8 hmi).mp ((mC hb8).elim id fun hfalse=>absurd ⟨hmi,hfalse⟩ hc);rw[decide_eq_true hms']at e1;rw[decide_eq_true hl]at e2;simp only[bJ.f,bJ.begin,Tr.ag,Tr.ae,Tr.aj,cr.told,e1,e2,af,Bool.not_true,Bool.false_eq_true,↓reduceIte];exact hx6
   ·rw[decide_eq_false hms']at e1;simp only[bJ.f,bJ.begin,Tr.ag,Tr.ae,Tr.aj,cr.told,e1,af,Bool.false_eq_true,↓reduceIte];exact hx6
  ·rw[eg,List.getElem?_set]
   by_cases q:k.toNat=j
   ·rw[if_pos q,if_pos hb8];subst q;rw[show((k.toNat:Nat):Int)=k by omega]at hjm⊢;exact⟨fun _=>(hk8 hjm).mp ((mC hb8).elim id fun hfalse=>absurd ⟨hjm,hfalse⟩ hc),fun _=>rfl⟩
   ·rw[if_neg q,hS.2 j hj hjm]
theorem pR (s:aB) (h:pY s=true):∃c,eT.f s.f0 s.f1 s.f2 s.f3.f0 s.f3.f1 s.f3.f2=some c∧fM.f s.f0 s.f1 s.f2 s.f3.f0 s.f3.f1 s.f3.f2=some c∧0≤c∧c≤5:=by
 obtain⟨⟨h1,h2⟩,_⟩:=oR h;have n1:(0:Int)≤s.f0∧s.f0<((([0,2,5,4,1,1,0]:List Int).length:Nat):Int):=⟨by omega,by simp;omega⟩;have hs:kN s.f0 s.f1 s.f2 s.f3.f0 s.f3.f1 s.f3.f2=true:=h;simp only[eT.f,eT.begin,Tr.ag,Tr.ae,Tr.ak,Tr.ai,dx.told,lL,hs,af,Bool.not_true,Bool.false_eq_true,↓reduceIte,n1,and_self];refine⟨_,rfl,?_⟩;simp only[fM.f,fM.begin,Tr.ae,Tr.ai];rcases(show s.f0=1∨s.f0=2∨s.f0=3∨s.f0=4∨s.f0=5∨s.f0=6 by omega)with e | e | e | e | e | e<;>(rw[e];exact⟨rfl,by decide⟩)
theorem nB (rd:List Int) (s n:Int):∃v,bK.f rd s n=some v∧bz.f rd s n=some v∧isVal v=true:=by
 by_cases h0:(rd.length:Int)=0
 ·simp only[bK.f,bK.begin,bz.f,bz.begin,Tr.ae,Tr.ai,decide_eq_true h0,↓reduceIte];exact⟨0,rfl,rfl,rfl⟩
 ·cases hs:cY s 0 3 with
  | false=>
    simp only[bK.f,bK.begin,bz.f,bz.begin,Tr.ae,Tr.ag,Tr.ai,decide_eq_false h0,bN.told,bN.f,bN.begin,aI.told,aZ,aG.told,bc,hs,af,Bool.not_false,Bool.false_eq_true,↓reduceIte];exact⟨0,rfl,rfl,rfl⟩
  | true=>
    by_cases hn:n<0
    ·simp only[bK.f,bK.begin,bz.f,bz.begin,Tr.ae,Tr.ag,Tr.ai,decide_eq_false h0,decide_eq_true hn,bN.told,bN.f,bN.begin,aI.told,aZ,aG.told,bc,hs,af,Bool.not_true,Bool.false_eq_true,↓reduceIte];exact⟨0,rfl,rfl,rfl⟩
    ·have h1:(0:Int)≤Int.tmod n (rd.length:Int)∧Int.tmod n (rd.length:Int)<(rd.length:Int):=by
      rw[Int.tmod_eq_emod_of_nonneg (by omega)];exact⟨Int.emod_nonneg _ h0,Int.emod_lt_of_pos _ (by omega)⟩
     simp only[bK.f,bK.begin,bz.f,bz.begin,Tr.ae,Tr.ag,Tr.ak,Tr.ai,decide_eq_false h0,decide_eq_false hn,bN.told,bN.f,bN.begin,aI.told,aZ,aG.told,bc,hs,af,Bool.not_true,Bool.false_eq_true,↓reduceIte,ne_eq,h0,not_false_eq_true,h1,and_self,dJ.told,kb,dL.told,kg];exact⟨_,rfl,rfl,tV _⟩
theorem lW (s:Int) (vs se u li rd:List Int) (at_:Int) (o:List aN) (ms lg:List Int) (t tl:Int) (hu:u.length≤1000000) {v:Int} (ev:bz.f rd s (wr (at_+(u.length:Int)))=some v):
 eV.f s vs se u li rd at_ true o ms lg t tl=some (v,vs,se,u++[v],li,rd,at_,true,o,ms,lg,t,tl):=by
 simp only[eV.f,eV.begin,Tr.ae,Tr.au,Tr.ag,Tr.aj,↓reduceIte,bz.told,ev,af];rw[an];simp only[eV.tree,Tr.ak,Tr.ai,bY u v 1048576 (by omega) (by omega) 8 (by omega),↓reduceIte]
theorem lq {vs:List Int} (o a b:Int) (hv:rX vs=true) (hx:l7 o a b=true):∃v,cG.f vs o a b=some v∧cA.f vs o a b=some v∧isVal v=true:=by
 obtain⟨_,ha,hb⟩:=oc hx;have hl:=(kn.mp hv).2;refine⟨zn vs o a b,?_,ov vs o a b hl ha.1 hb.1,wL hv hx⟩;rw[nE vs o a b (by omega),if_pos hv,if_pos hx]
theorem rm {s:aB} (h:pY s=true) (hv:s.f0=1∨s.f0=3∨s.f0=4):l7 s.f3.f0 s.f3.f1 s.f3.f2=true:=by
 unfold pY kN at h;rcases hv with e | e | e
 ·rw[if_pos e]at h;simp only[Bool.and_eq_true]at h;exact h.2.2
 ·rw[if_neg (by omega),if_neg (by omega),if_pos (Or.inl e)]at h;simp only[Bool.and_eq_true]at h;exact h.2.2
 ·rw[if_neg (by omega),if_neg (by omega),if_pos (Or.inr e)]at h;simp only[Bool.and_eq_true]at h;exact h.2.2
set_option maxHeartbeats 8000000 in
theorem tL {n:Nat} {M:List Int} {B:Nat} (sS:Self ao.I ao.A ao.K) (L:List aB) (i e:Nat) (hi:i<L.length) (hie:i<e) (hLl:L.length≤1048576) (mi ms rd:List Int) (at_:Int) (o:List aN) (u:List Int) (t tl sn:Int) (lg:List Int) (f0 f1 f2 f3 f4 f5 f6 f7:Bool) (vs se:List Int) (b:kT n t tl M) (hB:B≤700000) (h:TI n t tl M B o u sn lg [f0,f1,f2,f3,f4,f5,f6,f7] vs) (hx:pY L[i]=true) (h6:L[i].f0≠6) (hop:¬(L[i].f0=4∨L[i].f0=5)) (hm:mi.length≤1048576) (hms:ms.length≤1048576) (hS:Sy mi ms lg [f0,f1,f2,f3,f4,f5,f6,f7]) (hse:(se.length:Int)=sn):
 ∃r o' u' sn' lg' g0 g1 g2 g3 g4 g5 g6 g7 vs' se',bb.f L[i].f0 L[i].f1 L[i].f2 L[i].f3.f0 L[i].f3.f1 L[i].f3.f2 mi rd at_ o u t tl sn lg f0 f1 f2 f3 f4 f5 f6 f7 vs=some (r,mi,rd,at_,o',u',t,tl,sn',lg',g0,g1,g2,g3,g4,g5,g6,g7,vs')∧TI n t tl M (B+6) o' u' sn' lg' [g0,g1,g2,g3,g4,g5,g6,g7] vs'∧
  lp (ao.tree sS) (.c1 L (e:Int) (i:Int) vs se u [] rd at_ true o ms lg t tl)=lp (ao.tree sS) (.c1 L (e:Int) ((i+1:Nat):Int) vs' se' u' [] rd at_ true o' ms lg' t tl)∧Sy mi ms lg' [g0,g1,g2,g3,g4,g5,g6,g7]∧(se'.length:Int)=sn':=by
 have hr:aw L (i:Int)=L[i]:=ar hi;generalize L[i]=x at hx h6 hop hr;obtain⟨c,ec,es,c0,c5⟩:=pR x hx;obtain⟨⟨k1,k6⟩,_⟩:=oR hx;have hvar:=mg hx;have hexp:=rm hx;have ho:=h.j8;have hul:=h.oa;have ew:=iI c o u t tl sn lg f0 f1 f2 f3 f4 f5 f6 f7 vs (by omega);have eW:=jE c vs se u [] rd at_ true o ms lg t tl (by omega);have hW:=h.work b ⟨c0,c5⟩;have qi:decide ((i:Int)<(e:Int))=true:=decide_eq_true (by omega);have wi:wr ((i:Int)+1)=((i+1:Nat):Int):=aq (by omega)
 have c2:∀(vs se u:List Int) (o:List aN) (lg:List Int),lp (ao.tree sS) (.c2 L (e:Int) (i:Int) vs se u [] rd at_ true o ms lg t tl)=lp (ao.tree sS) (.c1 L (e:Int) ((i+1:Nat):Int) vs se u [] rd at_ true o ms lg t tl):=fun vs se u o lg=>by
  rw[an];simp only[ao.tree,Tr.aj,wi]
 have h1:lp (ao.tree sS) (.c1 L (e:Int) (i:Int) vs se u [] rd at_ true o ms lg t tl)=lp (ao.tree sS) (.c6 L (e:Int) (i:Int) x.f0 x.f1 x.f2 x.f3.f0 x.f3.f1 x.f3.f2 vs se u [] rd at_ true (o++[(⟨c,-1,0⟩:aN)]) ms lg t tl):=by
  rw[an];simp only[ao.tree,Tr.ae,Tr.ak,Tr.ag,Tr.aj,qi,aF hi,hr,and_self,↓reduceIte,decide_eq_false h6,Bool.not_false,fM.told,es,af,eB.told,eW]
 simp only[bb.f,bb.begin,Tr.au,Tr.ag,Tr.ae,eT.told,ec,af,cE.told,ew];have q4:¬x.f0=4:=by omega
 by_cases q1:x.f0=1
 ·obtain⟨v,ev,esv,hv⟩:=lq x.f3.f0 x.f3.f1 x.f3.f2 h.sH (hexp (Or.inl q1));obtain⟨o',lg',g0,g1,g2,g3,g4,g5,g6,g7,ea,ta,esa,hS'⟩:=nk mi ms x.f1 v _ u t tl sn lg f0 f1 f2 f3 f4 f5 f6 f7 vs se rd at_ b (by omega) hW (hvar (Or.inl q1)) hv hm hms hS;simp only[decide_eq_true q1,↓reduceIte,cG.told,ev,af,aE.told,ea,Tr.aj];refine⟨true,o',u,sn,lg',g0,g1,g2,g3,g4,g5,g6,g7,vs.set x.f1.toNat v,se,?_,ta.mono (by omega),?_,hS',hse⟩
  ·rw[an];simp only[bb.tree,Tr.ai]
  ·rw[←c2,h1,an];simp only[ao.tree,Tr.ae,Tr.ag,Tr.au,Tr.aj,↓reduceIte,af,decide_eq_true q1,cA.told,esv,bJ.told,esa]
 by_cases q2:x.f0=2
 ·obtain⟨v,ev,esv,hv⟩:=nB rd x.f2 (wr (at_+(u.length:Int)));obtain⟨o',lg',g0,g1,g2,g3,g4,g5,g6,g7,ea,ta,esa,hS'⟩:=nk mi ms x.f1 v _ (u++[v]) t tl sn lg f0 f1 f2 f3 f4 f5 f6 f7 vs se rd at_ b (by omega) (hW.BN hv) (hvar (Or.inr q2)) hv hm hms hS;simp only[decide_eq_false q1,decide_eq_true q2,Bool.false_eq_true,↓reduceIte,bK.told,ev,af,Tr.bI,Tr.au,Tr.ak,aU,bY u v 1048576 (by have:=h.oa;omega) (by omega) 8 (by omega),Tr.aj];refine⟨true,o',u++[v],sn,lg',g0,g1,g2,g3,g4,g5,g6,g7,vs.set x.f1.toNat v,se,?_,ta.mono (by omega),?_,hS',hse⟩
  ·rw[an];simp only[bb.tree,Tr.ag,aE.told,ea,af,Tr.aj];rw[an];simp only[bb.tree,Tr.ai]
  ·rw[←c2,h1,an];simp only[ao.tree,Tr.ae,Tr.ak,Tr.ag,Tr.au,Tr.bI,aU,Tr.aj,↓reduceIte,Bool.false_eq_true,af,decide_eq_false q1,decide_eq_true q2,eV.told,lW x.f2 vs se u [] rd at_ (o++[(⟨c,-1,0⟩:aN)]) ms lg t tl (by omega) esv,bJ.told,esa]
 have q3:x.f0=3:=by omega
 obtain⟨v,ev,esv,hv⟩:=lq x.f3.f0 x.f3.f1 x.f3.f2 h.sH (hexp (Or.inr (Or.inl q3)));simp only[decide_eq_false q1,decide_eq_false q2,decide_eq_true q3,Bool.false_eq_true,↓reduceIte,cG.told,ev,af,Tr.au,Tr.ag];have hs0:=h.run.s0;have hsB:=h.tH;have htl:=b.CM;have w1:wr (tl+sn)=tl+sn:=aQ (by omega);have w2:wr (sn+1)=sn+1:=aQ (by omega);have hse':((se++[v]).length:Int)=sn+1:=by rw[List.length_append,List.length_singleton];omega
 have fit:=bY se v 1048576 (by omega) (by omega) 8 (by omega);rw[hse]at fit
 by_cases q:tl+sn<24
 ·have w3:wr (25+(tl+sn))=25+(tl+sn):=aQ (by omega);have hw:=dt (25+(tl+sn)) v (o++[(⟨c,-1,0⟩:aN)]) u t tl sn lg f0 f1 f2 f3 f4 f5 f6 f7 vs (by rw[List.length_append,List.length_singleton];omega);have hx:=fz (25+(tl+sn)) v vs (se++[v]) u [] rd at_ true (o++[(⟨c,-1,0⟩:aN)]) ms lg t tl (by rw[List.length_append,List.length_singleton];omega);refine⟨true,_,u,sn+1,lg,f0,f1,f2,f3,f4,f5,f6,f7,vs,se++[v],?_,(hW.push b (⟨3,25+(tl+sn),v⟩:aN) (sn':=sn+1) (lg':=lg) (f':=[f0,f1,f2,f3,f4,f5,f6,f7]) (vs':=vs) ⟨by show(0:Int)≤3∧(3:Int)≤5;omega,by show -1≤25+(tl+sn)∧25+(tl+sn)<49;omega⟩ ?_ (by omega) h.wz h.sH).mono (by omega),?_,hS,hse'⟩
  ·simp only[cN.told,cN.f,cN.begin,Tr.ae,Tr.ag,Tr.ai,w1,w2,w3,decide_eq_true q,bw.told,hw,af,↓reduceIte,Tr.aj];rw[an];simp only[bb.tree,Tr.ai]
  ·rw[ky _ _ _ _ (by omega)];have:=hW.run.box (j:=(tl+sn).toNat) htl.1 (by omega) (by omega) hv;rw[show 25+(tl+sn).toNat=(25+(tl+sn)).toNat by omega]at this;exact this
  ·rw[←c2,h1,an];simp only[ao.tree,Tr.ae,Tr.ak,Tr.ag,Tr.au,Tr.aj,↓reduceIte,Bool.false_eq_true,af,decide_eq_false q1,decide_eq_false q2,decide_eq_true q3,cA.told,esv,fit,hse,w1,w3,decide_eq_true q,cH.told,hx]
 ·refine⟨true,o++[(⟨c,-1,0⟩:aN)],u,sn+1,lg,f0,f1,f2,f3,f4,f5,f6,f7,vs,se++[v],?_,{hW.mono (show B+1≤B+6 by omega)with run:=hW.run.DP (by omega),tH:=by omega},?_,hS,hse'⟩
  ·simp only[cN.told,cN.f,cN.begin,Tr.ae,Tr.ai,w1,w2,decide_eq_false q,Bool.false_eq_true,↓reduceIte,af,Tr.aj];rw[an];simp only[bb.tree,Tr.ai]
  ·rw[←c2,h1,an];simp only[ao.tree,Tr.ae,Tr.ak,Tr.ag,Tr.au,Tr.aj,↓reduceIte,Bool.false_eq_true,af,decide_eq_false q1,decide_eq_false q2,decide_eq_true q3,cA.told,esv,fit,hse,w1,decide_eq_false q]
set_option maxHeartbeats 8000000 in
theorem tE {n:Nat} {M:List Int} {B:Nat} (sS:Self ao.I ao.A ao.K) (L:List aB) (i e z:Nat) (hi:i<L.length) (hie:i<e) (hLl:L.length≤1048576) (hz:b7.f L (i:Int)=some (z:Int)) (mi ms rd:List Int) (at_:Int) (o:List aN) (u:List Int) (t tl sn:Int) (lg:List Int) (f0 f1 f2 f3 f4 f5 f6 f7:Bool) (vs se:List Int) (b:kT n t tl M) (hB:B≤700000) (h:TI n t tl M B o u sn lg [f0,f1,f2,f3,f4,f5,f6,f7] vs) (hx:pY L[i]=true) (hop:L[i].f0=4∨L[i].f0=5):
 ∃r o' times,bb.f L[i].f0 L[i].f1 L[i].f2 L[i].f3.f0 L[i].f3.f1 L[i].f3.f2 mi rd at_ o u t tl sn lg f0 f1 f2 f3 f4 f5 f6 f7 vs=some (r,mi,rd,at_,o',u,t,tl,sn,lg,f0,f1,f2,f3,f4,f5,f6,f7,vs)∧TI n t tl M (B+6) o' u sn lg [f0,f1,f2,f3,f4,f5,f6,f7] vs∧
  (if L[i].f0=4 then iW.f r else some L[i].f2)=some ((times:Nat):Int)∧times≤5∧
  lp (ao.tree sS) (.c1 L (e:Int) (i:Int) vs se u [] rd at_ true o ms lg t tl)=lp (ao.tree sS) (.Df L (e:Int) (i:Int) (z:Int) (times:Int) 0 vs se u [] rd at_ true o' ms lg t tl):=by
 have hr:aw L (i:Int)=L[i]:=ar hi;generalize L[i]=x at hx hop hr;obtain⟨c,ec,es,c0,c5⟩:=pR x hx;obtain⟨⟨k1,k6⟩,k5⟩:=oR hx;have hexp:=rm hx;have ho:=h.j8;have ew:=iI c o u t tl sn lg f0 f1 f2 f3 f4 f5 f6 f7 vs (by omega);have eW:=jE c vs se u [] rd at_ true o ms lg t tl (by omega);have hW:=h.work b ⟨c0,c5⟩;have qi:decide ((i:Int)<(e:Int))=true:=decide_eq_true (by omega);have h6:¬x.f0=6:=by omega
 have h1:lp (ao.tree sS) (.c1 L (e:Int) (i:Int) vs se u [] rd at_ true o ms lg t tl)=lp (ao.tree sS) (.c6 L (e:Int) (i:Int) x.f0 x.f1 x.f2 x.f3.f0 x.f3.f1 x.f3.f2 vs se u [] rd at_ true (o++[(⟨c,-1,0⟩:aN)]) ms lg t tl):=by
  rw[an];simp only[ao.tree,Tr.ae,Tr.ak,Tr.ag,Tr.aj,qi,aF hi,hr,and_self,↓reduceIte,decide_eq_false h6,Bool.not_false,fM.told,es,af,eB.told,eW]
 have q1:¬x.f0=1:=by omega
 have q2:¬x.f0=2:=by omega
 have q3:¬x.f0=3:=by omega
 simp only[bb.f,bb.begin,Tr.au,Tr.ag,Tr.ae,eT.told,ec,af,cE.told,ew,decide_eq_false q1,decide_eq_false q2,decide_eq_false q3,Bool.false_eq_true,↓reduceIte]
 by_cases q4:x.f0=4
 ·obtain⟨v,ev,esv,hv⟩:=lq x.f3.f0 x.f3.f1 x.f3.f2 h.sH (hexp (Or.inr (Or.inr q4)))
  have hbt:∃times:Nat,sa (!decide (v=0))=(times:Int)∧times≤5:=by
   cases(!decide (v=0))
   ·exact⟨0,rfl,by omega⟩
   ·exact⟨1,rfl,by omega⟩
  obtain⟨times,ht,ht5⟩:=hbt;refine⟨!decide (v=0),_,times,?_,hW.mono (by omega),?_,ht5,?_⟩
  ·simp only[decide_eq_true q4,↓reduceIte,cG.told,ev,af,Tr.ai,Tr.au,Tr.ag]
  ·rw[if_pos q4,l6,ht]
  ·rw[h1,an];simp only[ao.tree,Tr.ae,Tr.ag,Tr.au,Tr.aj,↓reduceIte,Bool.false_eq_true,af,decide_eq_false q1,decide_eq_false q2,decide_eq_false q3,decide_eq_true q4,b7.told,hz,cA.told,esv,gA.told,j0,ht]
 ·have q5:x.f0=5:=by omega
  have hN:=k5 q5;refine⟨true,_,x.f2.toNat,?_,hW.mono (by omega),?_,by omega,?_⟩
  ·simp only[decide_eq_false q4,Bool.false_eq_true,↓reduceIte,Tr.aj,Tr.au];rw[an];simp only[bb.tree,Tr.ai]
  ·rw[if_neg q4,show((x.f2.toNat:Nat):Int)=x.f2 by omega]
  ·rw[h1,an];simp only[ao.tree,Tr.ae,Tr.ag,Tr.au,Tr.aj,↓reduceIte,Bool.false_eq_true,af,decide_eq_false q1,decide_eq_false q2,decide_eq_false q3,decide_eq_false q4,decide_eq_true q5,b7.told,hz,show((x.f2.toNat:Nat):Int)=x.f2 by omega]
def vF (n:Nat) (M:List Int) (t tl:Int) (sI:Self bp.I bp.A bp.K) (sS:Self ao.I ao.A ao.K) (k:Nat):Prop:=
 ∀(L:List aB) (i0 e0:Nat) (l:List aB) (mi ms rd:List Int) (at_:Int) (o:List aN) (u:List Int) (sn:Int) (lg:List Int) (f0 f1 f2 f3 f4 f5 f6 f7:Bool) (vs se:List Int) (B:Nat),L.length≤1048576→L.drop i0=l++L.drop e0→i0+l.length=e0→e0≤L.length→jM (k:Int) l 0→mi.length≤1048576→ms.length≤1048576→B+W5 k*l.length≤600000→TI n t tl M B o u sn lg [f0,f1,f2,f3,f4,f5,f6,f7] vs→Sy mi ms lg [f0,f1,f2,f3,f4,f5,f6,f7]→(se.length:Int)=sn→
  ∃o' u' sn' lg' g0 g1 g2 g3 g4 g5 g6 g7 vs' se',sI.f (l,mi,rd,at_,o,u,t,tl,sn,lg,f0,f1,f2,f3,f4,f5,f6,f7,vs)=some (mi,rd,at_,o',u',t,tl,sn',lg',g0,g1,g2,g3,g4,g5,g6,g7,vs')∧TI n t tl M (B+W5 k*l.length) o' u' sn' lg' [g0,g1,g2,g3,g4,g5,g6,g7] vs'∧
   sS.f (L,(i0:Int),(e0:Int),vs,se,u,[],rd,at_,true,o,ms,lg,t,tl)=some (vs',se',u',[],rd,at_,true,o',ms,lg',t,tl)∧Sy mi ms lg' [g0,g1,g2,g3,g4,g5,g6,g7]∧(se'.length:Int)=sn'
set_option maxHeartbeats 4000000 in
theorem rf {n:Nat} {M:List Int} {t tl:Int} (sI:Self bp.I bp.A bp.K) (sS:Self ao.I ao.A ao.K) (k:Nat) (hs:vF n M t tl sI sS k) (L:List aB) (i0 e0:Nat) (l:List aB) (hLl:L.length≤1048576) (hd:L.drop i0=l++L.drop e0) (hle:i0+l.length=e0) (he0:e0≤L.length) (mi ms rd:List Int) (at_:Int) (i e times:Nat) (hie:i<e) (hel:e<l.length) (hF:jM (k:Int) ((l.take e).drop (i+1)) 0) (hm:mi.length≤1048576) (hms:ms.length≤1048576) (ht:times≤5):
 ∀(m j:Nat),j+m=times→∀(o:List aN) (u:List Int) (sn:Int) (lg:List Int) (f0 f1 f2 f3 f4 f5 f6 f7:Bool) (vs se:List Int) (B:Nat),TI n t tl M B o u sn lg [f0,f1,f2,f3,f4,f5,f6,f7] vs→Sy mi ms lg [f0,f1,f2,f3,f4,f5,f6,f7]→(se.length:Int)=sn→B+m*(W5 k*((l.take e).drop (i+1)).length)≤600000→
 ∃o' u' sn' lg' g0 g1 g2 g3 g4 g5 g6 g7 vs' se',lp (bp.tree sI) (.rE l (i:Int) (e:Int) (times:Int) (j:Int) mi rd at_ o u t tl sn lg f0 f1 f2 f3 f4 f5 f6 f7 vs)=lp (bp.tree sI) (.c1 l ((e+1:Nat):Int) mi rd at_ o' u' t tl sn' lg' g0 g1 g2 g3 g4 g5 g6 g7 vs')∧TI n t tl M (B+m*(W5 k*((l.take e).drop (i+1)).length)) o' u' sn' lg' [g0,g1,g2,g3,g4,g5,g6,g7] vs'∧
  lp (ao.tree sS) (.Df L (e0:Int) ((i0+i:Nat):Int) ((i0+e:Nat):Int) (times:Int) (j:Int) vs se u [] rd at_ true o ms lg t tl)=lp (ao.tree sS) (.c1 L (e0:Int) ((i0+e+1:Nat):Int) vs' se' u' [] rd at_ true o' ms lg' t tl)∧Sy mi ms lg' [g0,g1,g2,g3,g4,g5,g6,g7]∧(se'.length:Int)=sn':=by
 intro m;have hll:l.length≤1048576:=by omega
 have we:wr ((e:Int)+1)=((e+1:Nat):Int):=aq (by omega);have wi:wr ((i:Int)+1)=((i+1:Nat):Int):=aq (by omega);have we0:wr (((i0+e:Nat):Int)+1)=((i0+e+1:Nat):Int):=aq (by omega);have wi0:wr (((i0+i:Nat):Int)+1)=((i0+i+1:Nat):Int):=aq (by omega);have hn1:(0:Int)≤((i+1:Nat):Int)∧((i+1:Nat):Int)≤(e:Int)∧(e:Int)≤(l.length:Int):=by omega
 have hA:((l.take e).drop (i+1)).length=e-(i+1):=by rw[List.length_drop,List.length_take];omega
 have hdA:L.drop (i0+i+1)=(l.take e).drop (i+1)++L.drop (i0+e):=by
  have h1:L.drop (i0+e)=l.drop e++L.drop e0:=by rw[←List.drop_drop,hd,List.drop_append_of_le_length (by omega)]
  rw[h1,show i0+i+1=i0+(i+1) by omega,←List.drop_drop,hd,List.drop_append_of_le_length (by omega),←List.append_assoc];congr 1
  conv=>lhs;rw[←List.take_append_drop e l]
  rw[List.drop_append_of_le_length (by rw[List.length_take];omega)]
 induction m with
 | zero=>
   intro j hj o u sn lg f0 f1 f2 f3 f4 f5 f6 f7 vs se B hT hS hse hB;obtain rfl:j=times:=by omega
   refine⟨o,u,sn,lg,f0,f1,f2,f3,f4,f5,f6,f7,vs,se,?_,hT.mono (by omega),?_,hS,hse⟩
   ·rw[an];simp only[bp.tree,Tr.ae,Tr.aj,aV,Bool.false_eq_true,↓reduceIte,we]
   ·rw[an];simp only[ao.tree,Tr.ae,Tr.aj,aV,Bool.false_eq_true,↓reduceIte];rw[an];simp only[ao.tree,Tr.aj,we0]
 | succ m ih=>
   intro j hj o u sn lg f0 f1 f2 f3 f4 f5 f6 f7 vs se B hT hS hse hB;rw[Nat.succ_mul]at hB;obtain⟨o',u',sn',lg',g0,g1,g2,g3,g4,g5,g6,g7,vs',se',e1,t1,s1,hS1,hse1⟩:=hs L (i0+i+1) (i0+e) ((l.take e).drop (i+1)) mi ms rd at_ o u sn lg f0 f1 f2 f3 f4 f5 f6 f7 vs se B hLl hdA (by rw[hA];omega) (by omega) hF hm hms (by omega) hT hS hse;obtain⟨o2,u2,sn2,lg2,y0,y1,y2,y3,y4,y5,y6,y7,vs2,se2,e2,t2,s2,hS2,hse2⟩:=ih (j+1) (by omega) o' u' sn' lg' g0 g1 g2 g3 g4 g5 g6 g7 vs' se' _ t1 hS1 hse1 (by omega);have q:j<times:=by omega
   refine⟨o2,u2,sn2,lg2,y0,y1,y2,y3,y4,y5,y6,y7,vs2,se2,?_,t2.mono (by rw[Nat.succ_mul];omega),?_,hS2,hse2⟩
   ·rw[an];simp only[bp.tree,Tr.ae,Tr.ak,Tr.ag,Tr.aj,aA q,↓reduceIte,wi,hn1,and_self,Int.toNat_natCast,Self.told,e1,af,aq (show j<4611686018427387904 by omega)];exact e2
   ·rw[an];simp only[ao.tree,Tr.ae,Tr.ag,Tr.aj,aA q,↓reduceIte,wi0,Self.told,s1,af,aq (show j<4611686018427387904 by omega)];exact s2
set_option maxHeartbeats 4000000 in
theorem kv {n:Nat} {M:List Int} {t tl:Int} (b:kT n t tl M) (sI:Self bp.I bp.A bp.K) (sS:Self ao.I ao.A ao.K) (k:Nat) (hk:k≤6) (hs:∀k',k=k'+1→vF n M t tl sI sS k'):vF n M t tl (bp.step sI) (ao.step sS) k:=by
 intro L i0 e0 l mi ms rd at_ o u sn lg f0 f1 f2 f3 f4 f5 f6 f7 vs se B hLl hd hle he0 hF hm hms hB hT hS hse;have hl:l.length≤1048576:=by omega
 have hget:∀(i:Nat) (q:i<l.length) (q':i0+i<L.length),L[i0+i]=l[i]:=fun i q q'=>by
  have:(L.drop i0)[i]? =some l[i]:=by rw[hd,List.getElem?_append_left q,List.getElem?_eq_getElem q]
  rw[List.getElem?_drop,List.getElem?_eq_getElem q']at this;exact Option.some.inj this
 have key:∀(r i:Nat),i+r=l.length→jM (k:Int) l i→∀(o:List aN) (u:List Int) (sn:Int) (lg:List Int) (f0 f1 f2 f3 f4 f5 f6 f7:Bool) (vs se:List Int) (B':Nat),TI n t tl M B' o u sn lg [f0,f1,f2,f3,f4,f5,f6,f7] vs→Sy mi ms lg [f0,f1,f2,f3,f4,f5,f6,f7]→(se.length:Int)=sn→B'+W5 k*r≤600000→
  ∃o' u' sn' lg' g0 g1 g2 g3 g4 g5 g6 g7 vs' se',lp (bp.tree sI) (.c1 l (i:Int) mi rd at_ o u t tl sn lg f0 f1 f2 f3 f4 f5 f6 f7 vs)=some (mi,rd,at_,o',u',t,tl,sn',lg',g0,g1,g2,g3,g4,g5,g6,g7,vs')∧TI n t tl M (B'+W5 k*r) o' u' sn' lg' [g0,g1,g2,g3,g4,g5,g6,g7] vs'∧
   lp (ao.tree sS) (.c1 L (e0:Int) ((i0+i:Nat):Int) vs se u [] rd at_ true o ms lg t tl)=some (vs',se',u',[],rd,at_,true,o',ms,lg',t,tl)∧Sy mi ms lg' [g0,g1,g2,g3,g4,g5,g6,g7]∧(se'.length:Int)=sn':=by
  intro r
  induction r using Nat.strongRecOn with
  | _ r ih=>
    intro i hi hF o u sn lg f0 f1 f2 f3 f4 f5 f6 f7 vs se B' hT hS hse hB'
    by_cases q:i<l.length
    ·obtain⟨hok,hF'⟩:=hF.next q;have qL:i0+i<L.length:=by omega
     have hgL:=hget i q qL;have w:wr ((i:Int)+1)=((i+1:Nat):Int):=aq (by omega);have w0:wr (((i0+i:Nat):Int)+1)=((i0+(i+1):Nat):Int):=aq (by omega);have hW:=zV k;obtain⟨r',rfl⟩:∃r',r=r'+1:=⟨r-1,by omega⟩;have hr':W5 k*(r'+1)=W5 k*r'+W5 k:=Nat.mul_succ _ _
     by_cases h6:l[i].f0=6
     ·obtain⟨o2,u2,sn2,lg2,y0,y1,y2,y3,y4,y5,y6,y7,vs2,se2,e2,t2,s2,hS2,hse2⟩:=ih r' (by omega) (i+1) (by omega) hF' o u sn lg f0 f1 f2 f3 f4 f5 f6 f7 vs se B' hT hS hse (by omega);refine⟨o2,u2,sn2,lg2,y0,y1,y2,y3,y4,y5,y6,y7,vs2,se2,?_,t2.mono (by omega),?_,hS2,hse2⟩
      ·rw[an];simp only[bp.tree,Tr.ae,Tr.ak,Tr.aj,aA q,aF q,ar q,and_self,decide_eq_true h6,decide_true,↓reduceIte,w];exact e2
      ·have hrL:aw L ((i0+i:Nat):Int)=l[i]:=(ar qL).trans hgL;have qi:decide (((i0+i:Nat):Int)<(e0:Int))=true:=decide_eq_true (by omega);have n1:¬l[i].f0=1:=by omega
       have n2:¬l[i].f0=2:=by omega
       have n3:¬l[i].f0=3:=by omega
       have n4:¬l[i].f0=4:=by omega
       have n5:¬l[i].f0=5:=by omega
       rw[an];simp only[ao.tree,Tr.ae,Tr.ak,Tr.aj,qi,aF qL,hrL,and_self,↓reduceIte,decide_eq_true h6,Bool.not_true,Bool.false_eq_true];rw[an];simp only[ao.tree,Tr.ae,Tr.aj,↓reduceIte,Bool.false_eq_true,decide_eq_false n1,decide_eq_false n2,decide_eq_false n3,decide_eq_false n4,decide_eq_false n5];rw[an];simp only[ao.tree,Tr.aj,w0];exact s2
     ·by_cases hop:l[i].f0=4∨l[i].f0=5
      ·obtain⟨a,s,rr,ed,e6,k1,hbal,p1,p2,p3,hia,hdr,hFe⟩:=hF.sO q (by omega) hop;have hE:Ends l i (i+1+a.length):=⟨l[i],a,s,rr,ed,hop,e6,p1,p2,rfl⟩;have hEL:Ends L (i0+i) (i0+(i+1+a.length)):=⟨l[i],a,s,rr++L.drop e0,by rw[←List.drop_drop,hd,List.drop_append_of_le_length (by omega),ed];simp,hop,e6,p1,p2,by omega⟩;have hend:=hE.rh hl;have hz:=hEL.qI hLl;obtain⟨k',rfl⟩:∃k',k=k'+1:=⟨k-1,by omega⟩;rw[show((k'+1:Nat):Int)-1=(k':Int) by omega]at hbal;generalize he:i+1+a.length=e at hend hz p3 hia hdr hFe;have hFi:jM (k':Int) ((l.take e).drop (i+1)) 0:=by rw[hia];exact⟨0,by omega,hbal.1,hbal.2⟩
       obtain⟨rb,o1,times,e1,t1,htm,ht5,s1⟩:=tE (B:=B') sS L (i0+i) e0 (i0+e) qL (by omega) hLl hz mi ms rd at_ o u t tl sn lg f0 f1 f2 f3 f4 f5 f6 f7 vs se b (by omega) hT (by rw[hgL];exact hok) (by rw[hgL];exact hop);rw[hgL]at e1 htm;have hAl:((l.take e).drop (i+1)).length=a.length:=by rw[hia]
       have hmul:times*(W5 k'*a.length)≤W5 (k'+1)*a.length:=by
        rw[wF,Nat.mul_assoc];exact Nat.mul_le_mul_right _ ht5
       have hsplit:W5 (k'+1)*(r'+1)=W5 (k'+1)*a.length+W5 (k'+1)*2+W5 (k'+1)*(l.length-(e+1)):=by
        rw[←Nat.mul_add,←Nat.mul_add];congr 1;omega
       obtain⟨o2,u2,sn2,lg2,y0,y1,y2,y3,y4,y5,y6,y7,vs2,se2,e2,t2,s2,hS2,hse2⟩:=rf sI sS k' (hs k' rfl) L i0 e0 l hLl hd hle he0 mi ms rd at_ i e times (by omega) p3 hFi hm hms ht5 times 0 (by omega) o1 u sn lg f0 f1 f2 f3 f4 f5 f6 f7 vs se _ t1 hS hse (by rw[hAl];omega);rw[hAl]at t2;obtain⟨o3,u3,sn3,lg3,p0,p1,p2,p3,p4,p5,p6,p7,vs3,se3,e3,t3,s3,hS3,hse3⟩:=ih (l.length-(e+1)) (by omega) (e+1) (by omega) hFe o2 u2 sn2 lg2 y0 y1 y2 y3 y4 y5 y6 y7 vs2 se2 _ t2 hS2 hse2 (by omega);refine⟨o3,u3,sn3,lg3,p0,p1,p2,p3,p4,p5,p6,p7,vs3,se3,?_,t3.mono (by omega),s1.trans (s2.trans s3),hS3,hse3⟩;rw[an]
       by_cases h4:l[i].f0=4
       ·rw[if_pos h4]at htm;simp only[bp.tree,Tr.ae,Tr.ak,Tr.ag,Tr.aj,aA q,aF q,ar q,and_self,decide_eq_false h6,decide_eq_true hop,decide_eq_true h4,decide_true,Bool.not_true,Bool.false_eq_true,↓reduceIte,bb.told,e1,bS.told,hP,cz.told,hend,iW.told,htm,af];exact e2.trans e3
       ·rw[if_neg h4]at htm;have htm':l[i].f2=(times:Int):=Option.some.inj htm;rw[htm']at e1;simp only[bp.tree,Tr.ae,Tr.ak,Tr.ag,Tr.aj,aA q,aF q,ar q,and_self,decide_eq_false h6,decide_eq_true hop,decide_eq_false h4,decide_true,Bool.not_true,Bool.false_eq_true,↓reduceIte,bb.told,e1,bS.told,hP,cz.told,hend,htm',af];exact e2.trans e3
      ·obtain⟨rb,o1,u1,sn1,lg1,g0,g1,g2,g3,g4,g5,g6,g7,vs1,se1,e1,t1,s1,hS1,hse1⟩:=tL (B:=B') sS L (i0+i) e0 qL (by omega) hLl mi ms rd at_ o u t tl sn lg f0 f1 f2 f3 f4 f5 f6 f7 vs se b (by omega) hT (by rw[hgL];exact hok) (by rw[hgL];exact h6) (by rw[hgL];exact hop) hm hms hS hse;rw[hgL]at e1;obtain⟨o2,u2,sn2,lg2,y0,y1,y2,y3,y4,y5,y6,y7,vs2,se2,e2,t2,s2,hS2,hse2⟩:=ih r' (by omega) (i+1) (by omega) hF' o1 u1 sn1 lg1 g0 g1 g2 g3 g4 g5 g6 g7 vs1 se1 _ t1 hS1 hse1 (by omega);refine⟨o2,u2,sn2,lg2,y0,y1,y2,y3,y4,y5,y6,y7,vs2,se2,?_,t2.mono (by omega),s1.trans s2,hS2,hse2⟩;rw[an];simp only[bp.tree,Tr.ae,Tr.ak,Tr.ag,Tr.aj,aA q,aF q,ar q,and_self,decide_eq_false h6,decide_eq_false hop,decide_true,Bool.not_false,Bool.false_eq_true,↓reduceIte,bb.told,e1,bS.told,hP,af,w];exact e2
    ·obtain rfl:i=l.length:=by omega
     refine⟨o,u,sn,lg,f0,f1,f2,f3,f4,f5,f6,f7,vs,se,?_,hT.mono (by omega),?_,hS,hse⟩
     ·rw[an];simp only[bp.tree,Tr.ae,Tr.ai,aV,Bool.false_eq_true,↓reduceIte]
     ·rw[an,hle];simp only[ao.tree,Tr.ae,Tr.ai,aV,Bool.false_eq_true,↓reduceIte]
 exact key l.length 0 (by omega) hF o u sn lg f0 f1 f2 f3 f4 f5 f6 f7 vs se B hT hS hse hB
theorem tT {n:Nat} {M:List Int} {t tl:Int} (b:kT n t tl M) (l:List aB) (mi ms rd:List Int) (at_:Int) (o:List aN) (u:List Int) (sn:Int) (lg:List Int) (f0 f1 f2 f3 f4 f5 f6 f7:Bool) (vs se:List Int) (hb:okB l.length l 0=true) (hm:mi.length≤1048576) (hms:ms.length≤1048576) (hT:TI n t tl M 0 o u sn lg [f0,f1,f2,f3,f4,f5,f6,f7] vs) (hS:Sy mi ms lg [f0,f1,f2,f3,f4,f5,f6,f7]) (hse:(se.length:Int)=sn):
 ∃o' u' sn' lg' g0 g1 g2 g3 g4 g5 g6 g7 vs' se',bp.f l mi rd at_ o u t tl sn lg f0 f1 f2 f3 f4 f5 f6 f7 vs=some (mi,rd,at_,o',u',t,tl,sn',lg',g0,g1,g2,g3,g4,g5,g6,g7,vs')∧TI n t tl M 18000 o' u' sn' lg' [g0,g1,g2,g3,g4,g5,g6,g7] vs'∧
  ao.f l 0 (l.length:Int) vs se u [] rd at_ true o ms lg t tl=some (vs',se',u',[],rd,at_,true,o',ms,lg',t,tl)∧(se'.length:Int)=sn':=by
 have h0:=kv b (Self.iter bp.step 4) (Self.iter ao.step 4) 0 (by omega) (fun k' h=>absurd h (by omega));have h1:=kv b (Self.iter bp.step 5) (Self.iter ao.step 5) 1 (by omega) (fun k' h=>by cases h;exact h0);have h2:=kv b (Self.iter bp.step 6) (Self.iter ao.step 6) 2 (by omega) (fun k' h=>by cases h;exact h1);have h3:=kv b (Self.iter bp.step 7) (Self.iter ao.step 7) 3 (by omega) (fun k' h=>by cases h;exact h2);obtain⟨c1,c2,c3⟩:=iR _ _ _ hb;have hW:W5 3=750:=rfl;obtain⟨o',u',sn',lg',g0,g1,g2,g3,g4,g5,g6,g7,vs',se',e,t',s',_,hse'⟩:=h3 l 0 l.length l mi ms rd at_ o u sn lg f0 f1 f2 f3 f4 f5 f6 f7 vs se 0 (by omega) (by simp) (by omega) (Nat.le_refl _) ⟨0,by omega,c1,c2⟩ hm hms (by rw[hW];omega) hT hS hse;exact⟨o',u',sn',lg',g0,g1,g2,g3,g4,g5,g6,g7,vs',se',e,t'.mono (by rw[hW];omega),s',hse'⟩
theorem rB {p:List aC} (hp:pI p=true) {t:Int} (ht:0≤t∧t<(p.length:Int)):l7 (bG p t).f1.f0 (bG p t).f1.f1 (bG p t).f1.f2=true:=by
 obtain⟨i,rfl⟩:∃i:Nat,t=i:=⟨t.toNat,by omega⟩;have hi:i<p.length:=by omega
 have e:bG p (i:Int)=p[i]:=ar hi;unfold pI at hp;rw[Bool.and_eq_true,List.all_eq_true]at hp;have:=hp.1 _ (List.getElem_mem hi);unfold yn at this;rw[Bool.and_eq_true]at this;rw[e];exact this.2
theorem pE {p:List aC} {vs:List Int} {t:Int} (hp:pI p=true) (hl:p.length≤1048576) (hs:∀t∈p,t.f0.length≤1048576) (hv:rX vs=true) (ht:0≤t∧t<(p.length:Int)):∃v,fy.f p vs t=some v∧ey.f p vs t=some v∧0≤v∧v<(p.length:Int):=by
 obtain⟨v1,v2⟩:=kn.mp hv;obtain⟨e,ee,es,he⟩:=lq (vs:=vs) (bG p t).f1.f0 (bG p t).f1.f1 (bG p t).f1.f2 hv (rB hp ht);have w1:wr ((p.length:Int)-1)=(p.length:Int)-1:=aQ (by omega);have n0:¬(p.length:Int)=0:=by omega
 have hb:cY t 0 ((p.length:Int)-1)=true:=by rw[aL];omega
 have hvv:(vs.all isVal&&decide ((vs.length:Int)=8))=true:=by rw[v1,decide_eq_true (by omega)];rfl
 have r1: -(p.length:Int)<Int.tmod e (p.length:Int)∧Int.tmod e (p.length:Int)<(p.length:Int):=by
  refine⟨?_,Int.tmod_lt_of_pos _ (by omega)⟩;have:=Int.tmod_lt_of_pos (-e) (show 0<(p.length:Int) by omega);rw[Int.neg_tmod]at this;omega
 have w2:wr (Int.tmod e (p.length:Int)+(p.length:Int))=Int.tmod e (p.length:Int)+(p.length:Int):=aQ (by omega);generalize hr:Int.tmod e (p.length:Int)=r at r1 w2
 have hv2:Int.tmod (r+(p.length:Int)) (p.length:Int)=if r<0 then r+(p.length:Int)else r:=by
  rw[Int.tmod_eq_emod_of_nonneg (by omega)];split
  ·exact Int.emod_eq_of_lt (by omega) (by omega)
  ·rw[Int.add_emod_right];exact Int.emod_eq_of_lt (by omega) (by omega)
 have hv3:0≤(if r<0 then r+(p.length:Int)else r)∧(if r<0 then r+(p.length:Int)else r)<(p.length:Int):=by
  by_cases q:r<0
  ·rw[if_pos q];omega
  ·rw[if_neg q];omega
 refine⟨if r<0 then r+(p.length:Int)else r,?_,?_,hv3⟩
 ·simp only[fy.f,fy.begin,Tr.ag,Tr.ae,Tr.ak,Tr.eu,Tr.ai,iD.told,iD.f,iD.begin,dK.told,ka p hl hs,hp,af,aI.told,aZ,w1,hb,gh.told,lQ vs (by omega),hvv,Bool.not_true,Bool.false_eq_true,↓reduceIte,ht,and_self,cG.told,ee,ne_eq,n0,not_false_eq_true,hr,w2,hv2]
 ·by_cases q:r<0
  ·simp only[ey.f,ey.begin,Tr.ak,Tr.au,Tr.ag,Tr.ae,Tr.ai,ht,and_self,↓reduceIte,cA.told,es,af,ne_eq,n0,not_false_eq_true,hr,w2,q,decide_true,↓reduceIte]
  ·simp only[ey.f,ey.begin,Tr.ak,Tr.au,Tr.ag,Tr.ae,Tr.ai,ht,and_self,↓reduceIte,cA.told,es,af,ne_eq,n0,not_false_eq_true,hr,q,decide_false,Bool.false_eq_true,↓reduceIte]
set_option maxHeartbeats 4000000 in
theorem oH {p:List aC} {m:List Int} (rd:List Int) (at_:Int) (hp:pI p=true) (hl:p.length≤6) (hs:∀t∈p,t.f0.length≤1048576) (hm:Clean p.length m):∃o u,dH.f p m rd at_=some (o,u)∧zJ p.length m o u∧eU.f p m rd at_=some (o,u):=by
 obtain⟨t,tl,hu,hb,hr⟩:=hm.base;have htn:(0:Int)≤t∧t<(p.length:Int):=⟨hb.t0.1,hb.t0.2.1⟩;obtain⟨c1,c2⟩:=vt hp htn;obtain⟨mi,ms,em,ems,hmi,hms,hmm⟩:=qw (bG p t).f0 (bG p t).f1.f0 (bG p t).f1.f1 (bG p t).f1.f2 (by omega) c1 (rB hp htn);obtain⟨_,_,_,_,_,_,_,_,_,h8,_⟩:=jb hm.1;have hm49:=hb.len;have hmv:fQ.f m=some (m.take 8):=by rw[om,if_pos hm49]
 have hsv:fN.f m=some (m.take 8):=by rw[oX,if_pos hm49]
 have hT:TI p.length t tl m 0 [] [] 0 [] [false,false,false,false,false,false,false,false] (m.take 8):=⟨⟨by simp,fun k=>by rw[List.take_nil];exact hr.jN hb⟩,hr,by simp,by simp,by simp,by omega,by simp,kn.mpr ⟨h8,by rw[List.length_take];omega⟩⟩
 have hS0:Sy mi ms [] [false,false,false,false,false,false,false,false]:=⟨hmm,fun k hk _=>⟨fun h=>(by
  rcases(show k=0∨k=1∨k=2∨k=3∨k=4∨k=5∨k=6∨k=7 by omega)with rfl | rfl | rfl | rfl | rfl | rfl | rfl | rfl<;>cases h),fun h=>(by simp at h)⟩⟩
 obtain⟨o1,u1,sn1,lg1,f0,f1,f2,f3,f4,f5,f6,f7,vs1,se1,e1,t1,s1,hse⟩:=tT hb (bG p t).f0 mi ms rd at_ [] [] 0 [] false false false false false false false false (m.take 8) [] c1 hmi hms hT hS0 rfl;have e2:=iI 1 o1 u1 t tl sn1 lg1 f0 f1 f2 f3 f4 f5 f6 f7 vs1 (by have:=t1.j8;omega);have s2:=jE 1 vs1 se1 u1 [] rd at_ true o1 ms lg1 t tl (by have:=t1.j8;omega);have t2:=t1.work hb (c:=1) (by omega);obtain⟨nt,e3,s3,nt0,nt1⟩:=pE hp (by omega) hs t1.sH htn;have hsn:=t1.run.s0;have hsB:=t1.tH;have htl:=hb.CM;have w1:wr (tl+sn1)=tl+sn1:=aQ (by omega);have e4:=dt 8 (pack nt 0 (if tl+sn1<24 then tl+sn1 else 24)) (o1++[(⟨1,-1,0⟩:aN)]) u1 t tl sn1 lg1 f0 f1 f2 f3 f4 f5 f6 f7 vs1 (by have:=t2.j8;omega);have s4:=fz 8 (pack nt 0 (if tl+sn1<24 then tl+sn1 else 24)) vs1 se1 u1 [] rd at_ true (o1++[(⟨1,-1,0⟩:aN)]) ms lg1 t tl (by have:=t2.j8;omega);have n1:(0:Int)≤8∧(8:Int)<(m.length:Int):=by omega
 obtain⟨hG,hU⟩:=t2.run.last hb hl ⟨nt0,nt1⟩ (tl':=if tl+sn1<24 then tl+sn1 else 24) rfl
 have hap:bj m ((o1++[(⟨1,-1,0⟩:aN)])++[(⟨3,8,pack nt 0 (if tl+sn1<24 then tl+sn1 else 24)⟩:aN)])=(bj m (o1++[(⟨1,-1,0⟩:aN)])).set 8 (pack nt 0 (if tl+sn1<24 then tl+sn1 else 24)):=by
  rw[gf,ky _ _ _ _ (by omega)];rfl
 have ho:=t2.j8;have hul:=t1.oa;refine⟨(o1++[(⟨1,-1,0⟩:aN)])++[(⟨3,8,pack nt 0 (if tl+sn1<24 then tl+sn1 else 24)⟩:aN)],u1,?_,⟨t2.safe.snoc ⟨by show(0:Int)≤3∧(3:Int)≤5;omega,by show(-1:Int)≤8∧(8:Int)<49;omega⟩ ?_,?_,t1.used,by omega,?_⟩,?_⟩
 ·simp only[dH.f,dH.begin,Tr.ak,Tr.ag,Tr.bI,Tr.au,Tr.eu,Tr.aj,n1,and_self,↓reduceIte,bC.told,fD,hu,af,fQ.told,hmv,htn,dS.told,em,bp.told,e1,cE.told,e2,fy.told,e3,bQ.told,gp,w1,bw.told,e4,aU];rw[an];simp only[dH.tree,Tr.ai]
 ·have:=hG;rw[ky _ _ _ _ (by omega)];exact this
 ·rw[List.length_append,List.length_singleton];omega
 ·rw[hap];exact⟨hG.1,by rw[hU]⟩
 ·have fit:((List.length ([]:List Int):Int)+(u1.length:Int))*(8:Nat)≤room:=by unfold room;simp;omega
  simp only[eU.f,eU.begin,Tr.ak,Tr.ag,Tr.bI,Tr.au,Tr.eu,Tr.aj,n1,and_self,↓reduceIte,bB.told,fI,hu,af,fN.told,hsv,htn,df.told,ems,ao.told,s1,eB.told,s2,ey.told,s3,bU.told,gq,hse,w1,cH.told,s4,aU];rw[an];simp only[eU.tree,Tr.bI,Tr.au,Tr.ak,Tr.ai,fit,↓reduceIte,List.nil_append,aU]
theorem tN {p:List aC} (h:pI p=true):p.length≤6∧1≤p.length∧∀t∈p,t.f0.length≤1048576:=by
 have h':=h;unfold pI at h';rw[Bool.and_eq_true,List.all_eq_true,aL]at h';refine⟨by omega,by omega,fun t ht=> ?_⟩;have:=h'.1 t ht;unfold yn at this;rw[Bool.and_eq_true]at this;have:=(iR _ _ _ this.1).2.2;omega
theorem ef (c:Int) (m:List Int) (a:Int) (us:List (List Int)) (left:Int) (hc:0≤c) (hl:0≤left) (hb:left≤9223372036854775807):aO.f c m a us left=some (if left<c then(false,m,a,us,left)else(true,m,a,us,left-c)):=by
 by_cases q:left<c
 ·simp only[aO.f,aO.begin,Tr.ae,Tr.ai,decide_eq_true q,q,decide_true,↓reduceIte]
 ·have w:wr (left-c)=left-c:=aQ (by omega);simp only[aO.f,aO.begin,Tr.ae,Tr.ai,decide_eq_false q,q,w,decide_false,Bool.false_eq_true,↓reduceIte]
theorem mU (m:List Int):∀(i:Nat) (acc:List fL),(∀j,j<i→gV m j=true)→(∀w∈acc,(0≤w.f0∧w.f0≤7)∧isVal w.f1=true)→∃l,mq m i acc=some l∧∀w∈l,(0≤w.f0∧w.f0≤7)∧isVal w.f1=true
 | 0,acc,_,ha=>⟨acc,rfl,ha⟩
 | i+1,acc,h,ha=>by
   have hp:=h i (by omega);unfold gV at hp;rw[Bool.and_eq_true]at hp
   obtain⟨l,e,hl⟩:=mU m i (acc++[(⟨dh m (9+2*(i:Int)),dh m (9+2*(i:Int)+1)⟩:fL)]) (fun j hj=>h j (by omega)) (fun w hw=>by
    rcases List.mem_append.mp hw with hw | hw
    ·exact ha w hw
    ·rw[List.mem_singleton]at hw;rw[hw];exact⟨aL.mp hp.1,hp.2⟩)
   refine⟨l,?_,hl⟩;unfold mq;rw[if_pos hp.1];exact e
structure qN (M m:List Int):Prop where
 len:m.length=49
 rest:∀i:Nat,8≤i→m.getD i 0=M.getD i 0
 var:∀i:Nat,i<8→isVal (m.getD i 0)=true
theorem p8 {m:List Int} (hm:m.length=49) (h:∀i:Nat,i<8→isVal (m.getD i 0)=true):(m.take 8).all isVal=true:=by
 rw[List.all_eq_true];intro x hx;obtain⟨i,hi,rfl⟩:=List.mem_iff_getElem.mp hx;rw[List.length_take]at hi;have:=h i (by omega);rw[List.getD_eq_getElem?_getD,List.getElem?_eq_getElem (by omega)]at this;rw[List.getElem_take];exact this
theorem qN.jN {n:Nat} {M m:List Int} (hM:iw n M=true) (h:qN M m):gZ n M m:=by
 obtain⟨t,c,tl,hu,hc,hm,ht,hcc,htl,h8,hs,hl,hw⟩:=jb hM
 have e8:dh m 8=dh M 8:=by
  have:=h.rest 8 (by omega);rw[show(8:Int)=((8:Nat):Int)from rfl,kV,kV];exact this
 have hu':unpack (dh m 8)=(t,c,tl):=by rw[e8,hu]
 refine⟨mA h.len hu' ⟨ht.1,ht.2.1⟩ (p8 h.len h.var) ?_ ?_,?_⟩
 ·rw[j9 (tl:=tl) (by rw[hu']) htl.1];exact nQ (fun i hi=>by rw[h.rest _ (by omega)];exact hs i hi)
 ·rw[List.all_eq_true];intro i hi;rw[List.mem_range]at hi;have:=hl i (by omega);rw[jS]at this⊢;rw[h.rest _ (by omega),h.rest _ (by omega)];exact this
 ·rw[jh h.len hu' htl.1,hw,qz h.len hm (fun i _=>h.rest _ (by omega))];exact List.prefix_rfl
theorem qN.set {M m:List Int} (h:qN M m) {j:Nat} {v:Int} (hj:j<8) (hv:isVal v=true):qN M (m.set j v) where
 len:=by rw[List.length_set];exact h.len
 rest:=fun i hi=>by have:=h.len;rw[cC (by omega),if_neg (by omega)];exact h.rest i hi
 var:=fun i hi=>by
  have:=h.len;rw[cC (by omega)];split
  ·exact hv
  ·exact h.var i hi
theorem qN.last {n:Nat} {M m:List Int} (hM:iw n M=true) (h:qN M m) {t c tl:Int} (hu:unpack (dh M 8)=(t,c,tl)):gZ n M (m.set 8 (pack t 0 tl))∧Clean n (m.set 8 (pack t 0 tl)):=by
 obtain⟨t',c',tl',hu',hc,hm,ht,hcc,htl,h8,hs,hl,hw⟩:=jb hM;rw[hu]at hu';obtain⟨rfl,rfl,rfl⟩:t=t'∧c=c'∧tl=tl':=⟨congrArg Prod.fst hu',congrArg (fun x=>x.2.1) hu',congrArg (fun x=>x.2.2) hu'⟩;have hlen:=h.len;have hg:∀i:Nat,i≠8→(m.set 8 (pack t 0 tl)).getD i 0=m.getD i 0:=fun i hi=>by rw[cC (by omega),if_neg hi]
 have hl':(m.set 8 (pack t 0 tl)).length=49:=by rw[List.length_set];exact hlen
 have hu2:unpack (dh (m.set 8 (pack t 0 tl)) 8)=(t,0,tl):=by rw[show dh (m.set 8 (pack t 0 tl)) 8=pack t 0 tl from qy (by omega) rfl];exact k7 (by omega) (by omega) (by omega)
 have ho:iw n (m.set 8 (pack t 0 tl))=true:=by
  refine mA hl' hu2 ⟨ht.1,ht.2.1⟩ (p8 hl' (fun i hi=>by rw[hg i (by omega)];exact h.var i hi)) ?_ rfl;rw[j9 (tl:=tl) (by rw[hu2]) htl.1];exact nQ (fun i hi=>by rw[hg _ (by omega),h.rest _ (by omega)];exact hs i hi)
 refine⟨⟨ho,?_⟩,ho,by rw[hu2]⟩;rw[jh hl' hu2 htl.1,hw,qz hl' hm (fun i _=>by rw[hg _ (by omega)];exact h.rest _ (by omega))];exact List.prefix_rfl
theorem k9 {n:Nat} {m:List Int} (hm:iw n m=true) (a:Int) (us:List (List Int)) (left:Int) (h0:0≤left) (hb:left≤1000000000):
 ∃b m' left',aH.f m a us left=some (b,m',a,us,left')∧gZ n m m'∧(0≤left'∧left'≤left)∧(b=true→Clean n m'):=by
 obtain⟨t,c,tl,hu,hc,h49,ht,hcc,htl,h8,hs,hl,hw⟩:=jb hm;have hI:qN m m:=⟨h49,fun _ _=>rfl,fun i hi=>oW h49 h8 i hi⟩;simp only[aH.f,aH.begin,Tr.ag,Tr.aj,bu.told,iX,af];have hrec:jw m=if c<1 then[]else mM m (mq m c.toNat []):=by unfold jw;rw[if_pos h49,hu]
 by_cases q1:c<1
 ·rw[hrec,if_pos q1,an];simp only[aH.tree,Tr.ae,Tr.ai,List.length_nil,aV,show decide ((0:Int)<((0:Nat):Int))=false from rfl,Bool.false_eq_true,↓reduceIte];exact⟨_,_,_,rfl,hI.jN hm,by omega,fun _=>⟨hm,by rw[hu];show c=0;omega⟩⟩
 ·obtain⟨l,el,hlv⟩:=mU m c.toNat [] (fun j hj=>hl j (by omega)) (by simp);have hrl:jw m=l++[(⟨8,pack t 0 tl⟩:fL)]:=by rw[hrec,if_neg q1,el,mM,hu]
  have hlen:=o5 m;generalize jw m=W at hrl hlen;have hWl:W.length=l.length+1:=by rw[hrl,List.length_append,List.length_singleton]
  have key:=upto W.length (fun j (s:List Int×Int)=>(j≤l.length→qN m s.1)∧(j=l.length+1→Clean n s.1)∧gZ n m s.1∧0≤s.2∧s.2≤left) (fun j s=>lp aH.tree (.c2 W (W.length:Int) (j:Int) s.1 a us s.2)) (fun r=>∃b m' left',r=(b,m',a,us,left')∧gZ n m m'∧(0≤left'∧left'≤left)∧(b=true→Clean n m')) (fun j hj s hs=>by
   obtain⟨s1,s2⟩:=s;obtain⟨hR,hC,hG,hl0,hl1⟩:=hs;simp only at hR hC hG hl0 hl1;rw[an]
   by_cases q:j<W.length
   ·have hRj:=hR (by omega);have esp:=ef 3 s1 a us s2 (by omega) hl0 (by omega)
    by_cases q3:s2<3
    ·rw[if_pos q3]at esp;refine Or.inl ⟨(false,s1,a,us,s2),?_,_,_,_,rfl,hG,⟨hl0,hl1⟩,fun h=>by cases h⟩;simp only[aH.tree,Tr.ae,Tr.ak,Tr.ag,Tr.ai,aA q,aF q,and_self,decide_true,↓reduceIte,aO.told,esp,af,Bool.not_false]
    ·rw[if_neg q3]at esp
     have hjj:(0:Int)≤W[j].f0∧W[j].f0<(s1.length:Int)∧(j<l.length→W[j].f0≤7∧isVal W[j].f1=true)∧(j=l.length→W[j]=(⟨8,pack t 0 tl⟩:fL)):=by
      have:=hRj.len
      by_cases qj:j<l.length
      ·have e:W[j]=l[j]:=by
        have:W[j]? =some l[j]:=by rw[hrl,List.getElem?_append_left qj,List.getElem?_eq_getElem qj]
        rw[List.getElem?_eq_getElem q]at this;exact Option.some.inj this
       have hv:=hlv l[j] (List.getElem_mem qj);rw[e];exact⟨hv.1.1,by omega,fun _=>⟨hv.1.2,hv.2⟩,fun h=>absurd h (by omega)⟩
      ·have e:W[j]=(⟨8,pack t 0 tl⟩:fL):=by
        have:W[j]? =some (⟨8,pack t 0 tl⟩:fL):=by rw[hrl,List.getElem?_append_right (by omega),show j-l.length=0 by omega];rfl
        rw[List.getElem?_eq_getElem q]at this;exact Option.some.inj this
       rw[e];exact⟨by show(0:Int)≤8;omega,by show(8:Int)<_;omega,fun h=>absurd h (by omega),fun _=>rfl⟩
     obtain⟨p0,p1,p2,p3⟩:=hjj;refine Or.inr ⟨q,(s1.set W[j].f0.toNat W[j].f1,s2-3),?_,?_,?_,?_,by show 0≤s2-3;omega,by show s2-3≤left;omega⟩
     ·simp only[aH.tree,Tr.ae,Tr.ak,Tr.ag,Tr.au,Tr.aj,aA q,aF q,ar q,and_self,decide_true,↓reduceIte,aO.told,esp,af,Bool.not_true,Bool.false_eq_true,p0,p1,aq (show j<4611686018427387904 by omega)]
     ·intro hj1;have:=p2 (by omega);exact hRj.set (by omega) this.2
     ·intro hj1;have e:=p3 (by omega);simp only[e];exact(hRj.last hm hu).2
     ·by_cases qj:j<l.length
      ·exact(hRj.set (by have:=(p2 qj).1;omega) (p2 qj).2).jN hm
      ·have e:=p3 (by omega);simp only[e];exact(hRj.last hm hu).1
   ·refine Or.inl ⟨(true,s1,a,us,s2),?_,_,_,_,rfl,hG,⟨hl0,hl1⟩,fun _=>hC (by omega)⟩;obtain rfl:j=W.length:=by omega
    simp only[aH.tree,Tr.ae,Tr.ai,aV,Bool.false_eq_true,↓reduceIte]) 0 (by omega) (m,left) ⟨fun _=>hI,fun h=>absurd h (by omega),hI.jN hm,h0,Int.le_refl _⟩
  obtain⟨r,e,b,m',left',rfl,h⟩:=key;exact⟨b,m',left',e,h⟩
theorem gZ.trans {n:Nat} {a b c:List Int} (h:gZ n a b) (g:gZ n b c):gZ n a c:=⟨g.1,h.2.trans g.2⟩
theorem mx {p:List aC} {m:List Int} (rd:List Int) (a:Int) (us:List (List Int)) (left:Int) (hp:pI p=true) (hl:p.length≤6) (hs:∀t∈p,t.f0.length≤1048576) (hm:Clean p.length m)
 (ha:0≤a∧a≤1000000000) (hu:us.length≤10000) (h0:0≤left∧left≤1000000000):
 ∃b m' a' us' left',aM.f p rd m a us left=some (b,m',a',us',left')∧gZ p.length m m'∧(0≤left'∧left'≤left)∧(a≤a'∧a'-a≤left-left')∧(b=false→us'=us)∧
  (b=true→Clean p.length m'∧∃u,us'=us++[u]∧u.length≤20000∧∀x∈u,isVal x=true):=by
 obtain⟨o,u,eo,ho,_⟩:=oH (m:=m) rd a hp hl hs hm;have holen:=ho.j8;have hm49:∀k,(bj m (o.take k)).length=49:=fun k=>(eL (ho.safe.2 k).1).1
 have key:=upto o.length (fun j (s:Int×Int)=>(a≤s.1∧s.1-a≤left-s.2)∧(0≤s.2∧s.2≤left)) (fun j s=>lp aM.tree (.c3 o u (o.length:Int) (j:Int) (bj m (o.take j)) s.1 us s.2)) (fun r=>∃b m' a' us' left',r=(b,m',a',us',left')∧gZ p.length m m'∧(0≤left'∧left'≤left)∧(a≤a'∧a'-a≤left-left')∧(b=false→us'=us)∧(b=true→Clean p.length m'∧∃u,us'=us++[u]∧u.length≤20000∧∀x∈u,isVal x=true)) (fun j hj s hs=>by
  obtain⟨s1,s2⟩:=s;obtain⟨hA,hL⟩:=hs;simp only at hA hL;rw[an]
  by_cases q:j<o.length
  ·obtain⟨⟨k0,k1⟩,k2,k3⟩:=ho.safe.1 o[j] (List.getElem_mem q);have esp:=ef o[j].f0 (bj m (o.take j)) s1 us s2 k0 hL.1 (by omega)
   by_cases q3:s2<o[j].f0
   ·rw[if_pos q3]at esp;refine Or.inl ⟨(false,bj m (o.take j),s1,us,s2),?_,_,_,_,_,_,rfl,ho.safe.2 j,hL,hA,fun _=>rfl,fun h=>by cases h⟩;simp only[aM.tree,Tr.ae,Tr.ak,Tr.ag,Tr.ai,aA q,aF q,ar q,and_self,decide_true,↓reduceIte,aO.told,esp,af,Bool.not_false]
   ·rw[if_neg q3]at esp;have e49:=hm49 j;have hnext:bj m (o.take (j+1))=mw (bj m (o.take j)) o[j]:=by rw[List.take_add_one,List.getElem?_eq_getElem q];exact gf m _ _
    have w1:wr (s1+1)=s1+1:=aQ (by omega);have wj:=aq (show j<4611686018427387904 by omega)
    by_cases qn:o[j].f1= -1
    ·have hmw:bj m (o.take (j+1))=bj m (o.take j):=by rw[hnext];unfold mw;rw[if_pos qn]
     by_cases q5:o[j].f0=5
     ·refine Or.inr ⟨q,(s1+1,s2-o[j].f0),?_,by show _∧s1+1-a≤left-(s2-o[j].f0);omega,by show 0≤s2-o[j].f0∧s2-o[j].f0≤left;omega⟩;simp only[hmw,aM.tree,Tr.ae,Tr.ak,Tr.ag,Tr.au,Tr.aj,Tr.ai,aA q,aF q,ar q,and_self,decide_true,↓reduceIte,aO.told,esp,af,Bool.not_true,Bool.false_eq_true,aJ.told,aJ.f,aJ.begin,decide_eq_true qn,decide_eq_true q5,w1,wj]
     ·refine Or.inr ⟨q,(s1,s2-o[j].f0),?_,by show _∧s1-a≤left-(s2-o[j].f0);omega,by show 0≤s2-o[j].f0∧s2-o[j].f0≤left;omega⟩;simp only[hmw,aM.tree,Tr.ae,Tr.ak,Tr.ag,Tr.au,Tr.aj,Tr.ai,aA q,aF q,ar q,and_self,decide_true,↓reduceIte,aO.told,esp,af,Bool.not_true,Bool.false_eq_true,aJ.told,aJ.f,aJ.begin,decide_eq_true qn,decide_eq_false q5,w1,wj]
    ·have hmw:bj m (o.take (j+1))=(bj m (o.take j)).set o[j].f1.toNat o[j].f2:=by rw[hnext];unfold mw;rw[if_neg qn]
     have n1:(0:Int)≤o[j].f1∧o[j].f1<((bj m (o.take j)).length:Int):=by omega
     refine Or.inr ⟨q,(s1,s2-o[j].f0),?_,by show _∧s1-a≤left-(s2-o[j].f0);omega,by show 0≤s2-o[j].f0∧s2-o[j].f0≤left;omega⟩;simp only[hmw,aM.tree,Tr.ae,Tr.ak,Tr.ag,Tr.au,Tr.aj,Tr.ai,aA q,aF q,ar q,and_self,decide_true,↓reduceIte,aO.told,esp,af,Bool.not_true,Bool.not_false,Bool.false_eq_true,aJ.told,aJ.f,aJ.begin,decide_eq_false qn,n1,w1,wj]
  ·obtain rfl:j=o.length:=by omega
   refine Or.inl ⟨(true,bj m (o.take o.length),s1,us++[u],s2),?_,_,_,_,_,_,rfl,ho.safe.2 _,hL,hA,(fun h=>by cases h),fun _=>⟨by rw[List.take_length];exact ho.clean,u,rfl,ho.oa,ho.used⟩⟩;simp only[aM.tree,Tr.ae,Tr.bI,Tr.au,Tr.ak,Tr.ai,aV,Bool.false_eq_true,↓reduceIte,bY us u 1048576 (by omega) (by omega) 24 (by omega),aU]) 0 (by omega) (a,left) ⟨by show a≤a∧a-a≤left-left;omega,by show 0≤left∧left≤left;omega⟩
 obtain⟨r,e,b,m',a',us',left',rfl,h⟩:=key;refine⟨b,m',a',us',left',?_,h⟩;simp only[aM.f,aM.begin,Tr.bI,Tr.ag,Tr.au,Tr.aj,dH.told,eo,af,aU];exact e
def sy (us:List (List Int)):Prop:=us.length≤10∧∀u∈us,u.length≤20000∧∀x∈u,isVal x=true
theorem vB {a b:List Int} (h:a<+:b):mh a b=true:=by
 unfold mh;rw[decide_eq_true h.length_le,decide_eq_true (List.prefix_iff_eq_take.mp h)];rfl
theorem oh (x b:Int) (hb:0≤b):∃c:Int,cm.f x 0 b=some c∧0≤c∧c≤b∧(c≤x∨c=0):=by
 simp only[cm.f,cm.begin,Tr.ae,Tr.ai,decide_eq_true_eq];rw[if_neg (by omega)];refine⟨_,rfl,?_⟩
 by_cases h1:(0:Int)>x
 ·simp only[h1,↓reduceIte]
  by_cases h2:b<0
  ·omega
  ·simp only[h2,↓reduceIte];exact⟨Int.le_refl 0,hb,Or.inr trivial⟩
 ·simp only[h1,↓reduceIte]
  by_cases h2:b<x
  ·simp only[h2,↓reduceIte];omega
  ·simp only[h2,↓reduceIte];omega
theorem tA {a b:List Int}:mh a b=true↔a<+:b:=by
 refine⟨fun h=> ?_,vB⟩;unfold mh at h;rw[Bool.and_eq_true,decide_eq_true_eq,decide_eq_true_eq]at h;rw[List.prefix_iff_eq_take];exact h.2
theorem la {p:List aC} {m r:List Int} {a3 a4 a5 a6 a7 a8 a9 a10:Int} {h:List Int} {a12:Int}:iB p m r a3 a4 a5 a6 a7 a8 a9 a10 h a12=true↔
 pI p=true∧iw p.length m=true∧fS a4 a5 a6 a7=true∧r.all isVal=true∧(0≤a3∧a3≤400000)∧di a8 a9=true∧((0≤a10∧a10≤(h.length:Int))∧h<+:cf m)∧(0≤a12∧a12≤100000):=by
 unfold iB jz;simp only[Bool.and_eq_true,aL,tA];exact⟨fun⟨⟨q1,q2⟩,q3,q4,q5,q6,q7,q8⟩=>⟨q1,q2,q3,q4,q5,q6,q7,q8⟩,fun⟨q1,q2,q3,q4,q5,q6,q7,q8⟩=>⟨⟨q1,q2⟩,q3,q4,q5,q6,q7,q8⟩⟩
theorem kz {a b c d:Int}:fS a b c d=true↔(1≤b∧b≤5000)∧(0≤a∧a≤b)∧(1≤c∧c≤b)∧(0≤d∧d≤100):=by
 unfold fS;simp only[Bool.and_eq_true,aL]
theorem dv {a b:Int}:di a b=true↔0≤a∧a≤b∧b≤1000000:=by
 unfold di;simp only[Bool.and_eq_true,decide_eq_true_eq,ge_iff_le]
def cB (a:Int):Int:=if a+1<1000000 then a+1 else 1000000
theorem po (a b:Int) (h:di a b=true):gD.f a b 1=some (cB a,cB b):=by
 obtain⟨h0,h1,h2⟩:=dv.mp h;have w1:wr (a+1)=a+1:=aQ (by omega);have w2:wr (b+1)=b+1:=aQ (by omega);have h11:di 1 1=true:=rfl;simp only[gD.f,gD.begin,cF.told,cF.f,cF.begin,Tr.ag,Tr.ae,Tr.ai,ck.told,eH,h,h11,af,Bool.not_true,Bool.false_eq_true,↓reduceIte,w1,w2,cB]
theorem px {a b:Int} (h:di a b=true):di (cB a) (cB b)=true:=by
 rw[dv]at h⊢;unfold cB;split<;>split<;>omega
structure Ds (p:List aC) (m:List Int) (a3 a4 a5 a6 a7 a8 a9 a12:Int) (m':List Int) (b3 b4 b8 b9 b12:Int):Prop where
 jN:gZ p.length m m'
 at_:a3≤b3∧b3≤a3+5000
 store:fS b4 a5 a6 a7=true
 low:b8=cB a8
 high:b9=cB a9
 done:a12≤b12∧b12≤a12+10
def k8:List aN→Int→Nat
 | [],_=>0
 | x::o,left=>if left<x.f0 then 0 else k8 o (left-x.f0)+1
def bT (o:List aN):Int:=(o.map fun x=>x.f0).sum
def de (o:List aN):Int:=((o.filter fun x=>decide (x.f1= -1)&&decide (x.f0=5)).length:Int)
theorem jc (o:List aN) (x:aN):bT (o++[x])=bT o+x.f0:=by unfold bT;simp
theorem ns (o:List aN) (x:aN):de (o++[x])=de o+(if x.f1= -1∧x.f0=5 then 1 else 0):=by
 unfold de;rw[List.filter_append,List.length_append]
 by_cases h1:x.f1= -1
 ·by_cases h2:x.f0=5
  ·simp[h1,h2]
  ·simp[h1,h2]
 ·simp[h1]
theorem qo:∀(o:List aN) (left:Int),k8 o left≤o.length
 | [],_=>Nat.le_refl _
 | x::o,left=>by
   unfold k8;split
   ·omega
   ·have:=qo o (left-x.f0);simp only[List.length_cons];omega
theorem mB:∀(o:List aN) (left:Int) (j:Nat),j<k8 o left→∃h:j<o.length,bT (o.take j)+o[j].f0≤left
 | [],left,j,h=>absurd (show j<0 from h) (by omega)
 | x::o,left,j,h=>by
   unfold k8 at h;split at h
   ·omega
   ·rename_i q;cases j with
    | zero=>exact⟨by simp,by show bT []+x.f0≤left;unfold bT;simp;omega⟩
    | succ j=>
      obtain⟨h1,h2⟩:=mB o (left-x.f0) j (by omega);refine⟨by simp;omega,?_⟩;show bT (x::o.take j)+o[j].f0≤left;have:bT (x::o.take j)=x.f0+bT (o.take j):=by unfold bT;simp
      omega
theorem oq:∀(o:List aN) (left:Int) (h:k8 o left<o.length),left<bT (o.take (k8 o left))+o[k8 o left].f0
 | [],left,h=>absurd h (by simp)
 | x::o,left,h=>by
   by_cases q:left<x.f0
   ·have e:k8 (x::o) left=0:=by unfold k8;rw[if_pos q]
    simp only[e,List.take_zero,List.getElem_cons_zero];unfold bT;simp;omega
   ·have e:k8 (x::o) left=k8 o (left-x.f0)+1:=by rw[k8,if_neg q]
    have h':k8 o (left-x.f0)<o.length:=by rw[e]at h;simpa using h
    have:=oq o (left-x.f0) h';simp only[e,List.take_succ_cons,List.getElem_cons_succ];have:bT (x::o.take (k8 o (left-x.f0)))=x.f0+bT (o.take (k8 o (left-x.f0))):=by unfold bT;simp
    omega
theorem kf {o:List aN} (h:∀x∈o,ll x) (j:Nat):0≤bT (o.take j):=by
 induction j with
 | zero=>unfold bT;simp
 | succ j ih=>
   by_cases q:j<o.length
   ·rw[eR q,jc];have:=(h o[j] (List.getElem_mem q)).1.1;omega
   ·rw[List.take_of_length_le (by omega)];rw[List.take_of_length_le (by omega)]at ih;exact ih
theorem lZ (o:List aN):0≤de o∧de o≤o.length:=by
 unfold de;have:=List.length_filter_le (fun x:aN=>decide (x.f1= -1)&&decide (x.f0=5)) o;omega
def kM (m:List Int) (left:Int):Nat:=min (jw m).length (left / 3).toNat
theorem wJ {n:Nat} {m:List Int} (hm:iw n m=true):∀w∈jw m,0≤w.f0∧w.f0<49:=by
 obtain⟨t,c,tl,hu,hc,h49,ht,hcc,htl,h8,hs,hl,hw⟩:=jb hm;have hrec:jw m=if c<1 then[]else mM m (mq m c.toNat []):=by unfold jw;rw[if_pos h49,hu]
 by_cases q1:c<1
 ·rw[hrec,if_pos q1];simp
 ·obtain⟨l,el,hlv⟩:=mU m c.toNat [] (fun j hj=>hl j (by omega)) (by simp);have hrl:jw m=l++[(⟨8,pack t 0 tl⟩:fL)]:=by rw[hrec,if_neg q1,el,mM,hu]
  intro w hw;rw[hrl]at hw;rcases List.mem_append.mp hw with hw | hw
  ·have:=(hlv w hw).1;omega
  ·rw[List.mem_singleton]at hw;rw[hw];show(0:Int)≤8∧(8:Int)<49;omega
theorem lC {n:Nat} {m:List Int} (hm:iw n m=true) (a:Int) (us:List (List Int)) (left:Int) (h0:0≤left) (hb:left≤1000000000):
 aH.f m a us left=some (decide (kM m left=(jw m).length),iQ m ((jw m).take (kM m left)),a,us,left-3*(kM m left:Int)):=by
 have h49:=(eL hm).1;have hin:=wJ hm;have hlen:=o5 m;have hK:kM m left=min (jw m).length (left / 3).toNat:=rfl;generalize kM m left=k at hK;simp only[aH.f,aH.begin,Tr.ag,Tr.aj,bu.told,iX,af];generalize jw m=W at hin hlen hK
 have key:∀(n j:Nat),j+n=k→lp aH.tree (.c2 W (W.length:Int) (j:Int) (iQ m (W.take j)) a us (left-3*(j:Int)))=some (decide (k=W.length),iQ m (W.take k),a,us,left-3*(k:Int)):=by
  intro n
  induction n with
  | zero=>
    intro j hj;obtain rfl:j=k:=by omega
    rw[an]
    by_cases q:j<W.length
    ·have esp:=ef 3 (iQ m (W.take j)) a us (left-3*(j:Int)) (by omega) (by omega) (by omega);rw[if_pos (by omega)]at esp;simp only[aH.tree,Tr.ae,Tr.ak,Tr.ag,Tr.ai,aA q,aF q,and_self,decide_true,↓reduceIte,aO.told,esp,af,Bool.not_false,decide_eq_false (show¬j=W.length by omega)]
    ·have e:j=W.length:=by omega
     simp only[aH.tree,Tr.ae,Tr.ai,e,aV,decide_true,Bool.false_eq_true,↓reduceIte]
  | succ n ih=>
    intro j hj;have q:j<W.length:=by omega
    rw[←ih (j+1) (by omega),an];have esp:=ef 3 (iQ m (W.take j)) a us (left-3*(j:Int)) (by omega) (by omega) (by omega);rw[if_neg (by omega)]at esp;have hw:=hin W[j] (List.getElem_mem q);have hl:(iQ m (W.take j)).length=49:=by rw[ou,h49]
    have n1:(0:Int)≤W[j].f0∧W[j].f0<((iQ m (W.take j)).length:Int):=by omega
    have hnext:iQ m (W.take (j+1))=(iQ m (W.take j)).set W[j].f0.toNat W[j].f1:=by
     rw[eR q];unfold iQ;rw[List.foldl_append];show xZ (iQ m (W.take j)) W[j]=_;unfold xZ;rw[if_pos (aL.mpr (by omega))];rfl
    have hl3:left-3*(j:Int)-3=left-3*((j+1:Nat):Int):=by omega
    simp only[aH.tree,Tr.ae,Tr.ak,Tr.ag,Tr.au,Tr.aj,aA q,aF q,ar q,and_self,decide_true,↓reduceIte,aO.told,esp,af,Bool.not_true,Bool.false_eq_true,n1,aq (show j<4611686018427387904 by omega),hnext,hl3]
 have:=key k 0 (by omega);simp only[List.take_zero,Int.natCast_zero,Int.mul_zero,Int.sub_zero]at this;exact this
theorem mZ {p:List aC} {m:List Int} (rd:List Int) (a:Int) (us:List (List Int)) (left:Int) {o:List aN} {u:List Int} (eo:dH.f p m rd a=some (o,u)) (ho:zJ p.length m o u)
 (ha:0≤a∧a≤1000000000) (hu:us.length≤10000) (h0:0≤left∧left≤1000000000):
 aM.f p rd m a us left=some (decide (k8 o left=o.length),bj m (o.take (k8 o left)),a+de (o.take (k8 o left)),if k8 o left=o.length then us++[u]else us,left-bT (o.take (k8 o left))):=by
 have holen:=ho.j8;have hm49:∀k,(bj m (o.take k)).length=49:=fun k=>(eL (ho.safe.2 k).1).1;simp only[aM.f,aM.begin,Tr.bI,Tr.ag,Tr.au,Tr.aj,dH.told,eo,af,aU];have hcb:=mB o left;have hcs:=oq o left;have hcl:=qo o left;generalize k8 o left=k at hcb hcs hcl
 have key:∀(n j:Nat),j+n=k→lp aM.tree (.c3 o u (o.length:Int) (j:Int) (bj m (o.take j)) (a+de (o.take j)) us (left-bT (o.take j)))=some (decide (k=o.length),bj m (o.take k),a+de (o.take k),if k=o.length then us++[u]else us,left-bT (o.take k)):=by
  intro n
  induction n with
  | zero=>
    intro j hj;obtain rfl:j=k:=by omega
    rw[an]
    by_cases q:j<o.length
    ·have hc0:=kf ho.safe.1 j
     have hc1:bT (o.take j)≤left:=by
      cases j with
      | zero=>unfold bT;simp;omega
      | succ j'=>
        obtain⟨h1,h2⟩:=hcb j' (by omega);rw[eR h1,jc];exact h2
     have esp:=ef o[j].f0 (bj m (o.take j)) (a+de (o.take j)) us (left-bT (o.take j)) (ho.safe.1 o[j] (List.getElem_mem q)).1.1 (by omega) (by omega);have:=hcs q;rw[if_pos (by omega)]at esp;simp only[aM.tree,Tr.ae,Tr.ak,Tr.ag,Tr.ai,aA q,aF q,ar q,and_self,decide_true,↓reduceIte,aO.told,esp,af,Bool.not_false,decide_eq_false (show¬j=o.length by omega),if_neg (show¬j=o.length by omega)]
    ·have e:j=o.length:=by omega
     simp only[aM.tree,Tr.ae,Tr.bI,Tr.au,Tr.ak,Tr.ai,e,aV,Bool.false_eq_true,↓reduceIte,bY us u 1048576 (by omega) (by omega) 24 (by omega),aU,decide_true]
  | succ n ih=>
    intro j hj;obtain⟨q,hbear⟩:=hcb j (by omega);rw[←ih (j+1) (by omega),an];obtain⟨⟨k0,k1⟩,k2,k3⟩:=ho.safe.1 o[j] (List.getElem_mem q);have hc0:=kf ho.safe.1 j;have hse:=lZ (o.take j);rw[List.length_take]at hse;have esp:=ef o[j].f0 (bj m (o.take j)) (a+de (o.take j)) us (left-bT (o.take j)) k0 (by omega) (by omega);rw[if_neg (by omega)]at esp;have e49:=hm49 j;have hnext:bj m (o.take (j+1))=mw (bj m (o.take j)) o[j]:=by rw[eR q];exact gf m _ _
    have hcn:bT (o.take (j+1))=bT (o.take j)+o[j].f0:=by rw[eR q,jc]
    have hsn:de (o.take (j+1))=de (o.take j)+(if o[j].f1= -1∧o[j].f0=5 then 1 else 0):=by rw[eR q,ns]
    have w1:wr (a+de (o.take j)+1)=a+de (o.take j)+1:=aQ (by omega);have wj:=aq (show j<4611686018427387904 by omega);have hcc:left-bT (o.take j)-o[j].f0=left-bT (o.take (j+1)):=by omega
    rw[hcc]at esp
    by_cases qn:o[j].f1= -1
    ·have hmw:bj m (o.take (j+1))=bj m (o.take j):=by rw[hnext];unfold mw;rw[if_pos qn]
     by_cases q5:o[j].f0=5
     ·have hs1:a+de (o.take j)+1=a+de (o.take (j+1)):=by rw[hsn,if_pos ⟨qn,q5⟩];omega
      rw[hmw,←hs1];simp only[aM.tree,Tr.ae,Tr.ak,Tr.ag,Tr.au,Tr.aj,Tr.ai,aA q,aF q,ar q,and_self,decide_true,↓reduceIte,aO.told,esp,af,Bool.not_true,Bool.false_eq_true,aJ.told,aJ.f,aJ.begin,decide_eq_true qn,decide_eq_true q5,w1,wj]
     ·have hs1:de (o.take (j+1))=de (o.take j):=by rw[hsn,if_neg (by omega)];omega
      rw[hmw,hs1];simp only[aM.tree,Tr.ae,Tr.ak,Tr.ag,Tr.au,Tr.aj,Tr.ai,aA q,aF q,ar q,and_self,decide_true,↓reduceIte,aO.told,esp,af,Bool.not_true,Bool.false_eq_true,aJ.told,aJ.f,aJ.begin,decide_eq_true qn,decide_eq_false q5,w1,wj]
    ·have hmw:bj m (o.take (j+1))=(bj m (o.take j)).set o[j].f1.toNat o[j].f2:=by rw[hnext];unfold mw;rw[if_neg qn]
     have n1:(0:Int)≤o[j].f1∧o[j].f1<((bj m (o.take j)).length:Int):=by omega
     have hs1:de (o.take (j+1))=de (o.take j):=by rw[hsn,if_neg (by omega)];omega
     rw[hmw,hs1];simp only[aM.tree,Tr.ae,Tr.ak,Tr.ag,Tr.au,Tr.aj,Tr.ai,aA q,aF q,ar q,and_self,decide_true,↓reduceIte,aO.told,esp,af,Bool.not_true,Bool.not_false,Bool.false_eq_true,aJ.told,aJ.f,aJ.begin,decide_eq_false qn,n1,w1,wj]
 have:=key k 0 (by omega);have hz1:de ([]:List aN)=0:=rfl;have hz2:bT ([]:List aN)=0:=rfl;have hz3:bj m []=m:=rfl;simp only[List.take_zero,hz1,hz2,hz3,Int.add_zero,Int.sub_zero]at this;exact this
theorem oe (x:Int) (h0:0≤x) (h1:x<4294967296):pf .i64 x 4294967295=x:=by
 unfold pf
 have h:(BitVec.ofInt (IntKind.bits .i64) x&&& BitVec.ofInt (IntKind.bits .i64) 4294967295).toNat=x.toNat:=by
  rw[BitVec.toNat_and]
  have e1:(BitVec.ofInt (IntKind.bits .i64) x).toNat=x.toNat:=by
   rw[BitVec.toNat_ofInt,Int.emod_eq_of_lt h0];exact Int.lt_trans h1 (by decide)
  have e2:(BitVec.ofInt (IntKind.bits .i64) 4294967295).toNat=2 ^ 32-1:=by decide
  rw[e1,e2,Nat.and_two_pow_sub_one_eq_mod];exact Nat.mod_eq_of_lt (by omega)
 rw[h,aQ (by omega)];omega
theorem nT (x:Int) (h0:0≤x) (h1:x<4294967296):shiftDown .i64 x 32=0:=by
 unfold shiftDown;have e:(2:Int) ^ (min (Int.toNat 32) (IntKind.bits .i64))=4294967296:=by decide
 rw[e,Int.fdiv_eq_ediv_of_nonneg x (by omega)];exact Int.ediv_eq_zero_of_lt h0 h1
theorem ob {o:List aN} (h:∀x∈o,ll x):∀(j:Nat),bT (o.take j)≤5*(j:Int)
 | 0=>by unfold bT;simp
 | j+1=>by
   have ih:=ob h j
   by_cases q:j<o.length
   ·rw[eR q,jc];have:=(h o[j] (List.getElem_mem q)).1.2;omega
   ·rw[List.take_of_length_le (by omega)];rw[List.take_of_length_le (by omega)]at ih;omega
theorem mz (o:List aN) (u:List Int) (left:Int) (ho:∀x∈o,ll x) (hol:o.length≤20000) (h0:0≤left∧left≤1000000000):cq.f o u left=some (k8 o left:Int):=by
 simp only[cq.f,cq.begin,Tr.aj];have hcb:=mB o left;have hcs:=oq o left;have hcl:=qo o left;generalize k8 o left=k at hcb hcs hcl;have q0:decide (left≥0)=true:=decide_eq_true h0.1;have n32:(0:Int)≤32:=by omega
 have zz:wr ((0:Int)+0)=0:=aQ (by omega);have hl32:=oe left h0.1 (by omega);have hd32:=nT left h0.1 (by omega)
 have key:∀(n j:Nat),j+n=k→lp cq.tree (.c4 left o u (j:Int) (bT (o.take j)) 0)=some (k:Int):=by
  intro n
  induction n with
  | zero=>
    intro j hj;obtain rfl:j=k:=by omega
    rw[an]
    by_cases q:j<o.length
    ·have hc0:=kf ho j;have hc5:=ob ho j;have hx:=(ho o[j] (List.getElem_mem q)).1;have hs:=hcs q;have w1:wr (bT (o.take j)+o[j].f0)=bT (o.take j)+o[j].f0:=aQ (by omega);have b1:=oe o[j].f0 hx.1 (by omega);have d1:=nT o[j].f0 hx.1 (by omega);have b2:=oe (bT (o.take j)+o[j].f0) (by omega) (by omega);have d2:=nT (bT (o.take j)+o[j].f0) (by omega) (by omega);have v3:decide ((0:Int)>0)=false:=rfl;have v4:decide ((0:Int)=0)=true:=rfl;have v5:decide (bT (o.take j)+o[j].f0>left)=true:=decide_eq_true hs;simp only[cq.tree,Tr.ae,Tr.ak,Tr.eu,Tr.ai,aA q,aF q,ar q,q0,n32,and_self,decide_true,↓reduceIte,b1,d1,w1,b2,d2,zz,hl32,hd32,v3,v4,v5,Bool.false_eq_true]
    ·have e:j=o.length:=by omega
     simp only[cq.tree,Tr.ae,Tr.ai,e,aV,Bool.false_eq_true,↓reduceIte]
  | succ n ih=>
    intro j hj;obtain⟨q,hbear⟩:=hcb j (by omega);have hc0:=kf ho j;have hc5:=ob ho j;have hx:=(ho o[j] (List.getElem_mem q)).1;have w1:wr (bT (o.take j)+o[j].f0)=bT (o.take j)+o[j].f0:=aQ (by omega);have b1:=oe o[j].f0 hx.1 (by omega);have d1:=nT o[j].f0 hx.1 (by omega);have b2:=oe (bT (o.take j)+o[j].f0) (by omega) (by omega);have d2:=nT (bT (o.take j)+o[j].f0) (by omega) (by omega);have v3:decide ((0:Int)>0)=false:=rfl;have v4:decide ((0:Int)=0)=true:=rfl;have v5:decide (bT (o.take j)+o[j].f0>left)=false:=decide_eq_false (by omega);rw[←ih (j+1) (by omega),an,show bT (o.take (j+1))=bT (o.take j)+o[j].f0 by rw[eR q,jc]];simp only[cq.tree,Tr.ae,Tr.ak,Tr.eu,Tr.aj,aA q,aF q,ar q,q0,n32,and_self,decide_true,↓reduceIte,b1,d1,w1,b2,d2,zz,hl32,hd32,v3,v4,v5,Bool.false_eq_true,aq (show j<4611686018427387904 by omega)]
 have:=key k 0 (by omega);have hz:bT ([]:List aN)=0:=rfl;simp only[List.take_zero,hz]at this;exact this
theorem mR (o:List aN) (u:List Int) (k:Nat) (hk:k≤o.length) (hol:o.length≤20000):cn.f o u (k:Int)=some (de (o.take k)):=by
 simp only[cn.f,cn.begin,Tr.aj]
 have key:∀(n j:Nat),j+n=k→lp cn.tree (.c3 (k:Int) o u (de (o.take j)) (j:Int))=some (de (o.take k)):=by
  intro n
  induction n with
  | zero=>
    intro j hj;obtain rfl:j=k:=by omega
    rw[an];simp only[cn.tree,Tr.ae,Tr.ai,aV,Bool.false_eq_true,↓reduceIte]
  | succ n ih=>
    intro j hj;have q:j<o.length:=by omega
    have qk:j<k:=by omega
    have hse:=lZ (o.take j);rw[List.length_take]at hse;have w1:wr (de (o.take j)+1)=de (o.take j)+1:=aQ (by omega);rw[←ih (j+1) (by omega),an,show de (o.take (j+1))=de (o.take j)+(if o[j].f1= -1∧o[j].f0=5 then 1 else 0) by rw[eR q,ns]]
    by_cases qn:o[j].f1= -1
    ·by_cases q5:o[j].f0=5
     ·rw[if_pos ⟨qn,q5⟩];simp only[cn.tree,Tr.ae,Tr.ak,Tr.aj,aA qk,aF q,ar q,and_self,decide_true,↓reduceIte,decide_eq_true qn,decide_eq_true q5,w1,aq (show j<4611686018427387904 by omega)]
     ·rw[if_neg (by omega),Int.add_zero];simp only[cn.tree,Tr.ae,Tr.ak,Tr.aj,aA qk,aF q,ar q,and_self,decide_true,↓reduceIte,decide_eq_true qn,decide_eq_false q5,Bool.false_eq_true,aq (show j<4611686018427387904 by omega)]
    ·rw[if_neg (by omega),Int.add_zero];simp only[cn.tree,Tr.ae,Tr.ak,Tr.aj,aA qk,aF q,ar q,and_self,decide_true,↓reduceIte,decide_eq_false qn,Bool.false_eq_true,aq (show j<4611686018427387904 by omega)]
 have:=key k 0 (by omega);have hz:de ([]:List aN)=0:=rfl;simp only[List.take_zero,hz]at this;exact this
theorem oQ {p:List aC} {m:List Int} (rd:List Int) (a:Int) (us:List (List Int)) (left:Int) {o:List aN} {u:List Int} (ho:zJ p.length m o u) (h0:0≤left∧left≤1000000000):
 lp bg.tree (.rE rd p [] 0 [] 0 m a us left (k8 o left:Int) o u 0)=lp bg.tree (.rE rd p [] 0 [] 0 (bj m (o.take (k8 o left))) a us (left-bT (o.take (k8 o left))) (k8 o left:Int) o u (k8 o left:Int)):=by
 have holen:=ho.j8;have hm49:∀k,(bj m (o.take k)).length=49:=fun k=>(eL (ho.safe.2 k).1).1;have hcb:=mB o left;generalize k8 o left=k at hcb
 have key:∀(n j:Nat),j+n=k→lp bg.tree (.rE rd p [] 0 [] 0 (bj m (o.take j)) a us (left-bT (o.take j)) (k:Int) o u (j:Int))=lp bg.tree (.rE rd p [] 0 [] 0 (bj m (o.take k)) a us (left-bT (o.take k)) (k:Int) o u (k:Int)):=by
  intro n
  induction n with
  | zero=>
    intro j hj;obtain rfl:j=k:=by omega
    rfl
  | succ n ih=>
    intro j hj;obtain⟨q,hbear⟩:=hcb j (by omega);have qk:j<k:=by omega
    obtain⟨⟨k0,k1⟩,k2,k3⟩:=ho.safe.1 o[j] (List.getElem_mem q);have hc0:=kf ho.safe.1 j;have e49:=hm49 j;have hnext:bj m (o.take (j+1))=mw (bj m (o.take j)) o[j]:=by rw[eR q];exact gf m _ _
    have hcn:bT (o.take (j+1))=bT (o.take j)+o[j].f0:=by rw[eR q,jc]
    have wl:wr (left-bT (o.take j)-o[j].f0)=left-bT (o.take (j+1)):=by
     have:wr (left-bT (o.take j)-o[j].f0)=left-bT (o.take j)-o[j].f0:=aQ (by omega);rw[this];omega
    have wj:=aq (show j<4611686018427387904 by omega);rw[←ih (j+1) (by omega),an]
    by_cases qn:o[j].f1= -1
    ·have hmw:bj m (o.take (j+1))=bj m (o.take j):=by rw[hnext];unfold mw;rw[if_pos qn]
     rw[hmw];simp only[bg.tree,Tr.ae,Tr.ak,Tr.au,Tr.aj,aA qk,aF q,ar q,and_self,decide_true,↓reduceIte,decide_eq_true qn,Bool.not_true,Bool.false_eq_true,wl,wj]
    ·have hmw:bj m (o.take (j+1))=(bj m (o.take j)).set o[j].f1.toNat o[j].f2:=by rw[hnext];unfold mw;rw[if_neg qn]
     have n1:(0:Int)≤o[j].f1∧o[j].f1<((bj m (o.take j)).length:Int):=by omega
     rw[hmw];simp only[bg.tree,Tr.ae,Tr.ak,Tr.au,Tr.aj,aA qk,aF q,ar q,and_self,decide_true,↓reduceIte,decide_eq_false qn,Bool.not_false,n1,wl,wj]
 have:=key k 0 (by omega);have hz2:bT ([]:List aN)=0:=rfl;have hz3:bj m []=m:=rfl;simp only[List.take_zero,hz2,hz3,Int.sub_zero]at this;exact this
theorem tO {p:List aC} {m:List Int} (rd:List Int) (a left:Int) (hp:pI p=true) (hl:p.length≤6) (hs:∀t∈p,t.f0.length≤1048576) (hm:iw p.length m=true) (ha:0≤a∧a≤900000000) (h0:0≤left∧left≤10000000):
 ∃m' a' us left',eS.f p m rd a left=some (m',a',us,left')∧gZ p.length m m'∧(0≤left'∧left'≤left)∧(a≤a'∧a'-a≤left-left')∧sy us∧bg.f p m rd a left=some (m',a',us,left'):=by
 have h49:=(eL hm).1;obtain⟨b,m1,left1,e1,g1,l1,c1⟩:=k9 hm a [] left h0.1 (by omega);have e1':=e1.symm.trans (lC hm a [] left h0.1 (by omega));simp only[Option.some.injEq,Prod.mk.injEq]at e1';obtain⟨hb,hm1,_,_,hl1⟩:=e1';have hW9:=o5 m
 have hK:(if left / 3<((jw m).length:Int)then left / 3 else((jw m).length:Int))=(kM m left:Int):=by
  unfold kM;split<;>omega
 have htd:wr (Int.tdiv left 3)=left / 3:=by rw[Int.tdiv_eq_ediv_of_nonneg h0.1];exact aQ (by omega)
 have w3:wr ((kM m left:Int)*3)=(kM m left:Int)*3:=aQ (by unfold kM;omega)
 have wl:wr (left-(kM m left:Int)*3)=left1:=by
  have:wr (left-(kM m left:Int)*3)=left-(kM m left:Int)*3:=aQ (by unfold kM;omega);rw[this,hl1];omega
 have ea:=lU m (jw m) (kM m left) (by omega) (by omega);rw[←hm1]at ea;have n3:(3:Int)≠0:=by omega
 cases b with
 | false=>
   have hlt:(kM m left:Int)<((jw m).length:Int):=by
    have:=of_decide_eq_false hb.symm;unfold kM at this⊢;omega
   refine⟨m1,a,[],left1,?_,g1,l1,by omega,⟨by simp,by simp⟩,?_⟩
   ·simp only[eS.f,eS.begin,Tr.ag,Tr.ae,Tr.ai,aT.told,bZ m (by omega),aH.told,e1,af,Bool.not_false,↓reduceIte]
   ·simp only[bg.f,bg.begin,Tr.ag,Tr.ae,Tr.ak,Tr.eu,Tr.ai,aY.told,iY,af,n3,ne_eq,not_false_eq_true,↓reduceIte,htd,hK,bM.told,ea,decide_eq_true hlt,w3,wl]
 | true=>
   have hge:¬(kM m left:Int)<((jw m).length:Int):=by
    have:=of_decide_eq_true hb.symm;omega
   have key:∀(n:Nat) (s1:List Int) (s2:Int) (s3:List (List Int)) (s4:Int),s3.length+n=10→sy s3→Clean p.length s1→gZ p.length m s1→(a≤s2∧s2-a≤left-s4)→(0≤s4∧s4≤left)→
    ∃m' a' us left',lp eS.tree (.c4 rd p [] 0 [] 0 s1 s2 s3 s4)=some (m',a',us,left')∧gZ p.length m m'∧(0≤left'∧left'≤left)∧(a≤a'∧a'-a≤left-left')∧sy us∧lp bg.tree (.c8 rd p [] 0 [] 0 s1 s2 s3 s4)=some (m',a',us,left'):=by
    intro n
    induction n with
    | zero=>
      intro s1 s2 s3 s4 hn hU hC hG hA hL;have q':decide ((s3.length:Int)<10)=false:=decide_eq_false (by omega);refine⟨s1,s2,s3,s4,?_,hG,hL,hA,hU,?_⟩
      ·rw[an];simp only[eS.tree,Tr.ae,Tr.ai,q',Bool.false_eq_true,↓reduceIte]
      ·rw[an];simp only[bg.tree,Tr.ae,Tr.ai,q',Bool.false_eq_true,↓reduceIte]
    | succ n ih=>
      intro s1 s2 s3 s4 hn hU hC hG hA hL;have q':decide ((s3.length:Int)<10)=true:=decide_eq_true (by omega);obtain⟨o,u,eo,ho,es⟩:=oH rd s2 hp hl hs hC;obtain⟨b2,m2,a2,us2,left2,e2,g2,l2,A2,hf,ht⟩:=mx rd s2 s3 s4 hp hl hs hC (by omega) (by omega) (by omega);have e2':=e2.symm.trans (mZ rd s2 s3 s4 eo ho (by omega) (by omega) (by omega));simp only[Option.some.injEq,Prod.mk.injEq]at e2';obtain⟨hb2,hm2,ha2,hus2,hl2⟩:=e2';have hol:=ho.j8;have hcl:=qo o s4;have ec:=mz o u s4 ho.safe.1 hol ⟨hL.1,by omega⟩;have eb:=oQ rd s2 s3 s4 ho ⟨hL.1,by omega⟩;have esn:=mR o u (k8 o s4) hcl hol
      have wa:wr (s2+de (o.take (k8 o s4)))=a2:=by
       rw[ha2];have:=lZ (o.take (k8 o s4));rw[List.length_take]at this;exact aQ (by omega)
      have espec:lp bg.tree (.c8 rd p [] 0 [] 0 s1 s2 s3 s4)=if(k8 o s4:Int)<(o.length:Int)then some (m2,a2,s3,left2)else lp bg.tree (.c8 rd p [] 0 [] 0 m2 a2 (s3++[u]) left2):=by
       rw[an];simp only[bg.tree,Tr.ae,Tr.ag,Tr.aj,q',↓reduceIte,eU.told,es,cq.told,ec,af];rw[eb,←hm2,←hl2,an];simp only[bg.tree,Tr.ae,Tr.au,Tr.ag,Tr.ak,Tr.ai,Tr.aj,aV,Bool.false_eq_true,↓reduceIte,cn.told,esn,af,wa,bY s3 u 1048576 (by omega) (by omega) 24 (by omega),decide_eq_true_eq]
      cases b2 with
      | false=>
        have hlt:(k8 o s4:Int)<(o.length:Int):=by
         have:=of_decide_eq_false hb2.symm;omega
        refine⟨m2,a2,us2,left2,?_,hG.trans g2,by omega,by omega,by rw[hf rfl];exact hU,?_⟩
        ·rw[an];simp only[eS.tree,Tr.ae,Tr.ag,Tr.ai,q',↓reduceIte,aM.told,e2,af,Bool.false_eq_true]
        ·rw[espec,if_pos hlt,hf rfl]
      | true=>
        have heq:=of_decide_eq_true hb2.symm;rw[if_pos heq]at hus2;obtain⟨hC2,u',hus,hul,huv⟩:=ht rfl
        obtain⟨m',a',us',left',r1,r2,r3,r4,r5,r6⟩:=ih m2 a2 us2 left2 (by rw[hus2,List.length_append,List.length_singleton];omega) ⟨by rw[hus2,List.length_append,List.length_singleton];omega,fun v hv=>by
         rw[hus]at hv;rcases List.mem_append.mp hv with hv | hv
         ·exact hU.2 v hv
         ·rw[List.mem_singleton]at hv;rw[hv];exact⟨hul,huv⟩⟩ hC2 (hG.trans g2) (by omega) (by omega)
        refine⟨m',a',us',left',?_,r2,r3,r4,r5,?_⟩
        ·rw[an];simp only[eS.tree,Tr.ae,Tr.ag,Tr.aj,q',↓reduceIte,aM.told,e2,af];exact r1
        ·rw[espec,if_neg (by omega),←hus2];exact r6
   obtain⟨m',a',us',left',r1,r2,r3,r4,r5,r6⟩:=key 10 m1 a [] left1 rfl ⟨by simp,by simp⟩ (c1 rfl) g1 (by omega) l1;refine⟨m',a',us',left',?_,r2,r3,r4,r5,?_⟩
   ·simp only[eS.f,eS.begin,Tr.ag,Tr.ae,Tr.aj,aT.told,bZ m (by omega),aH.told,e1,af,Bool.not_true,Bool.false_eq_true,↓reduceIte];exact r1
   ·simp only[bg.f,bg.begin,Tr.ag,Tr.ae,Tr.ak,Tr.eu,Tr.aj,aY.told,iY,af,n3,ne_eq,not_false_eq_true,↓reduceIte,htd,hK,bM.told,ea,decide_eq_false hge,Bool.false_eq_true,w3,wl];exact r6
theorem so (x b:Int) (hb:0≤b):∃c:Int,cm.f x 0 b=some c∧db.f x 0 b=some c∧0≤c∧c≤b∧(c≤x∨c=0):=by
 obtain⟨c,e,h0,h1,h2⟩:=oh x b hb;refine⟨c,e,?_,h0,h1,h2⟩;have hb0:¬b<0:=by omega
 rw[←e]
 by_cases q1:x<0
 ·by_cases q2:b<0
  ·omega
  ·simp only[db.f,db.begin,cm.f,cm.begin,Tr.ae,Tr.ai,decide_eq_true_eq,q1,q2,gt_iff_lt,↓reduceIte]
 ·by_cases q2:b<x
  ·simp only[db.f,db.begin,cm.f,cm.begin,Tr.ae,Tr.ai,decide_eq_true_eq,q1,q2,hb0,gt_iff_lt,↓reduceIte]
  ·simp only[db.f,db.begin,cm.f,cm.begin,Tr.ae,Tr.ai,decide_eq_true_eq,q1,q2,hb0,gt_iff_lt,↓reduceIte]
theorem pL (a b:Int) (h:di a b=true):gE.f a b 1=some (cB a,cB b):=by
 obtain⟨h0,h1,h2⟩:=dv.mp h;have w1:wr (a+1)=a+1:=aQ (by omega);have w2:wr (b+1)=b+1:=aQ (by omega);have h11:cY 1 0 1000000=true:=rfl;simp only[gE.f,gE.begin,fC.told,fC.f,fC.begin,Tr.ag,Tr.ae,Tr.ai,cS.told,gJ,aG.told,bc,h,h11,af,Bool.not_true,Bool.false_eq_true,↓reduceIte,w1,w2,cB]
theorem tF {p:List aC} {m r:List Int} {a3 a4 a5 a6 a7 a8 a9 a10:Int} {h:List Int} {a12:Int} (x:Int) (hn:iB p m r a3 a4 a5 a6 a7 a8 a9 a10 h a12=true) (hrr:r.length≤1048576) (hx:0≤x∧x≤1000):
 ∃m' b3 b4 b12,Ds p m a3 a4 a5 a6 a7 a8 a9 a12 m' b3 b4 (cB a8) (cB a9) b12∧(b12=a12∨a6≤a4+x)∧
  iB p m' r b3 b4 a5 a6 a7 (cB a8) (cB a9) a10 h b12=(cY b3 0 400000&&cY b12 0 100000)∧
  bx.f p m r a3 a4 a5 a6 a7 a8 a9 a10 h a12 x=some (if(cY b3 0 400000&&cY b12 0 100000)=true then(p,m',r,b3,b4,a5,a6,a7,cB a8,cB a9,a10,h,b12,true)else(p,m,r,a3,a4,a5,a6,a7,a8,a9,a10,h,a12,false))∧
  bW.f p m r a3 a4 a5 a6 a7 a8 a9 a10 h a12 x=some (if(cY b3 0 400000&&cY b12 0 100000)=true then(p,m',r,b3,b4,a5,a6,a7,cB a8,cB a9,a10,h,b12,true)else(p,m,r,a3,a4,a5,a6,a7,a8,a9,a10,h,a12,false)):=by
 obtain⟨hp,hm,hst,hr,ha3,hsp,hlk,ha12⟩:=la.mp hn;obtain⟨p6,p1,hs⟩:=tN hp;obtain⟨s1,s2,s3,s4⟩:=kz.mp hst;have hm49:=(eL hm).1;have hml:m.length≤1048576:=by omega
 have hhl:h.length≤1048576:=Nat.le_trans hlk.2.length_le (iH m _ hml);have w1:wr (a4+x)=a4+x:=aQ (by omega);have w2:wr (a4+x-a7)=a4+x-a7:=aQ (by omega);obtain⟨c,ec,esc,c0,c1,c2⟩:=so (a4+x-a7) a5 (by omega);have hxx:cY x 0 1000=true:=by rw[aL];omega
 have hi:ba.f x=some true:=by
  simp only[ba.f,ba.begin,Tr.ag,Tr.ai,aI.told,aZ,hxx,af]
 have hnode:∀(m':List Int) (b3 b4 b12:Int),gZ p.length m m'→(a3≤b3)→fS b4 a5 a6 a7=true→a12≤b12→iB p m' r b3 b4 a5 a6 a7 (cB a8) (cB a9) a10 h b12=(cY b3 0 400000&&cY b12 0 100000):=by
  intro m' b3 b4 b12 hG h3 hst' h12;rw[Bool.eq_iff_iff,la,Bool.and_eq_true,aL,aL];exact⟨fun⟨_,_,_,_,q5,_,_,q8⟩=>⟨q5,q8⟩,fun⟨q5,q8⟩=>⟨hp,hG.1,hst',hr,q5,px hsp,⟨hlk.1,hlk.2.trans hG.2⟩,q8⟩⟩
 have e1:=gX p m r a3 a4 a5 a6 a7 a8 a9 a10 h a12 (by omega) hs hml hrr hhl;have s1':=iA p m r a3 a4 a5 a6 a7 a8 a9 a10 h a12 (by omega) hs hml hrr hhl;have e2:=gK p m r a3 a4 a5 a6 a7 a8 a9 a10 h a12 (by omega) hs hml hrr hhl;have s2':=gG p m r a3 a4 a5 a6 a7 a8 a9 a10 h a12 (by omega) hs hml hrr hhl;rw[hn]at e2 s2'
 have fin':∀(m':List Int) (b3 b4 b12:Int) (y0:List aC) (y1 y2:List Int) (y3 y4 y5 y6 y7 y8 y9 y10:Int) (y11:List Int) (y12:Int),gZ p.length m m'→(a3≤b3)→fS b4 a5 a6 a7=true→a12≤b12→
  lp bx.tree (.c9 p m r a3 a4 a5 a6 a7 a8 a9 a10 h a12 y0 y1 y2 y3 y4 y5 y6 y7 y8 y9 y10 y11 y12 p m' r b3 b4 a5 a6 a7 (cB a8) (cB a9) a10 h b12)=some (if(cY b3 0 400000&&cY b12 0 100000)=true then(p,m',r,b3,b4,a5,a6,a7,cB a8,cB a9,a10,h,b12,true)else(p,m,r,a3,a4,a5,a6,a7,a8,a9,a10,h,a12,false)):=by
  intro m' b3 b4 b12 y0 y1 y2 y3 y4 y5 y6 y7 y8 y9 y10 y11 y12 hG h3 hst' h12;have e3:=gK p m' r b3 b4 a5 a6 a7 (cB a8) (cB a9) a10 h b12 (by omega) hs (by have:=(eL hG.1).1;omega) hrr hhl;rw[hnode m' b3 b4 b12 hG h3 hst' h12]at e3;rw[an];simp only[bx.tree,Tr.ag,Tr.ae,Tr.ai,bF.told,e3,af,bh.told,e1];cases(cY b3 0 400000&&cY b12 0 100000)<;>rfl
 have fins:∀(m':List Int) (b3 b4 b12:Int),gZ p.length m m'→(a3≤b3)→fS b4 a5 a6 a7=true→a12≤b12→eO.f p m r a3 a4 a5 a6 a7 a8 a9 a10 h a12 x=some (p,m',r,b3,b4,a5,a6,a7,cB a8,cB a9,a10,h,b12)→
  bW.f p m r a3 a4 a5 a6 a7 a8 a9 a10 h a12 x=some (if(cY b3 0 400000&&cY b12 0 100000)=true then(p,m',r,b3,b4,a5,a6,a7,cB a8,cB a9,a10,h,b12,true)else(p,m,r,a3,a4,a5,a6,a7,a8,a9,a10,h,a12,false)):=by
  intro m' b3 b4 b12 hG h3 hst' h12 ht;have e3:=gG p m' r b3 b4 a5 a6 a7 (cB a8) (cB a9) a10 h b12 (by omega) hs (by have:=(eL hG.1).1;omega) hrr hhl;rw[hnode m' b3 b4 b12 hG h3 hst' h12]at e3;simp only[bW.f,bW.begin,Tr.ag,Tr.ae,Tr.ai,bk.told,s2',aG.told,bc,hxx,af,Bool.not_true,Bool.false_eq_true,↓reduceIte,eO.told,ht,e3,aS.told,s1'];cases(cY b3 0 400000&&cY b12 0 100000)<;>rfl
 have est:dF.f x p m r a3 a4 a5 a6 a7 a8 a9 a10 h a12=some (p,m,r,a3,c,a5,a6,a7,a8,a9,a10,h,a12):=by
  simp only[dF.f,dF.begin,Tr.au,Tr.ag,Tr.ai,w1,w2,cm.told,ec,af]
 have est':fP.f a4 a5 a6 a7 x=some (c,a5,a6,a7):=by
  simp only[fP.f,fP.begin,Tr.ag,Tr.ai,w1,w2,db.told,esc,af]
 have epn:=po a8 a9 hsp;have spn:=pL a8 a9 hsp
 by_cases hc:c≥a6
 ·obtain⟨m',b3,us,left',eb,gb,lb,ab,ub,sb⟩:=tO (m:=m) r a3 c hp (by omega) hs hm (by omega) (by omega);have hst':fS 0 a5 a6 a7=true:=kz.mpr ⟨s1,by omega,s3,s4⟩;have hul:=ub.1;have w3:wr (a12+(us.length:Int))=a12+(us.length:Int):=aQ (by omega);refine⟨m',b3,0,a12+(us.length:Int),⟨gb,by omega,hst',rfl,rfl,by omega⟩,Or.inr (by omega),hnode _ _ _ _ gb (by omega) hst' (by omega),?_,fins m' b3 0 _ gb (by omega) hst' (by omega) ?_⟩
  ·simp only[bx.f,bx.begin,Tr.ag,Tr.ae,Tr.bI,Tr.au,Tr.aj,Tr.ai,bh.told,e1,bF.told,e2,ba.told,hi,dF.told,est,gD.told,epn,af,Bool.not_true,Bool.false_eq_true,↓reduceIte,decide_eq_true hc,eS.told,eb,w3,aU,decide_true];exact fin' m' b3 0 (a12+(us.length:Int)) _ _ _ _ _ _ _ _ _ _ _ _ _ gb (by omega) hst' (by omega)
  ·simp only[eO.f,eO.begin,Tr.ag,Tr.ae,Tr.ai,aS.told,s1',fP.told,est',gE.told,spn,af,decide_eq_true hc,↓reduceIte,bg.told,sb,w3]
 ·have hst':fS c a5 a6 a7=true:=kz.mpr ⟨s1,by omega,s3,s4⟩;have g0:gZ p.length m m:=⟨hm,List.prefix_rfl⟩;refine⟨m,a3,c,a12,⟨g0,by omega,hst',rfl,rfl,by omega⟩,Or.inl rfl,hnode _ _ _ _ g0 (by omega) hst' (by omega),?_,fins m a3 c a12 g0 (by omega) hst' (by omega) ?_⟩
  ·simp only[bx.f,bx.begin,Tr.ag,Tr.ae,Tr.bI,Tr.au,Tr.aj,Tr.ai,bh.told,e1,bF.told,e2,ba.told,hi,dF.told,est,gD.told,epn,af,Bool.not_true,Bool.false_eq_true,↓reduceIte,decide_eq_false hc];exact fin' m a3 c a12 _ _ _ _ _ _ _ _ _ _ _ _ _ g0 (by omega) hst' (by omega)
  ·simp only[eO.f,eO.begin,Tr.ag,Tr.ae,Tr.ai,aS.told,s1',fP.told,est',gE.told,spn,af,decide_eq_false hc,Bool.false_eq_true,↓reduceIte]
theorem qC (p:List aC) (m r:List Int) (a3 a4 a5 a6 a7 a8 a9 a10:Int) (h:List Int) (a12 x:Int) (hp:p.length≤1048576) (hs:∀t∈p,t.f0.length≤1048576) (hm:m.length≤1048576) (hr:r.length≤1048576) (hh:h.length≤1048576):
 ∃m' b3 b4 b8 b9 b12 ok,bx.f p m r a3 a4 a5 a6 a7 a8 a9 a10 h a12 x=some (p,m',r,b3,b4,a5,a6,a7,b8,b9,a10,h,b12,ok)∧bW.f p m r a3 a4 a5 a6 a7 a8 a9 a10 h a12 x=some (p,m',r,b3,b4,a5,a6,a7,b8,b9,a10,h,b12,ok)∧m'.length≤1048576∧(ok=true→iB p m' r b3 b4 a5 a6 a7 b8 b9 a10 h b12=true)∧(ok=false→(m',b3,b4,b8,b9,b12)=(m,a3,a4,a8,a9,a12)):=by
 have e1:=gX p m r a3 a4 a5 a6 a7 a8 a9 a10 h a12 hp hs hm hr hh;have s1:=iA p m r a3 a4 a5 a6 a7 a8 a9 a10 h a12 hp hs hm hr hh;have e2:=gK p m r a3 a4 a5 a6 a7 a8 a9 a10 h a12 hp hs hm hr hh;have s2:=gG p m r a3 a4 a5 a6 a7 a8 a9 a10 h a12 hp hs hm hr hh;cases hn:iB p m r a3 a4 a5 a6 a7 a8 a9 a10 h a12 with
 | false=>
   rw[hn]at e2 s2;refine⟨m,a3,a4,a8,a9,a12,false,?_,?_,hm,(fun h=>by cases h),fun _=>rfl⟩
   ·simp only[bx.f,bx.begin,Tr.ag,Tr.ae,Tr.ai,bh.told,e1,bF.told,e2,af,Bool.not_false,↓reduceIte]
   ·simp only[bW.f,bW.begin,Tr.ag,Tr.ae,Tr.ai,bk.told,s2,af,Bool.not_false,↓reduceIte,aS.told,s1]
 | true=>
   cases hx:cY x 0 1000 with
   | false=>
     rw[hn]at e2 s2
     have hi:ba.f x=some false:=by
      simp only[ba.f,ba.begin,Tr.ag,Tr.ai,aI.told,aZ,hx,af]
     refine⟨m,a3,a4,a8,a9,a12,false,?_,?_,hm,(fun h=>by cases h),fun _=>rfl⟩
     ·simp only[bx.f,bx.begin,Tr.ag,Tr.ae,Tr.ai,bh.told,e1,bF.told,e2,ba.told,hi,af,Bool.not_true,Bool.not_false,Bool.false_eq_true,↓reduceIte]
     ·simp only[bW.f,bW.begin,Tr.ag,Tr.ae,Tr.ai,bk.told,s2,aG.told,bc,hx,af,Bool.not_true,Bool.not_false,Bool.false_eq_true,↓reduceIte,aS.told,s1]
   | true=>
     obtain⟨m',b3,b4,b12,hT,_,hN,ei,es⟩:=tF x hn hr (aL.mp hx);have h49:=(eL hT.jN.1).1;cases hok:(cY b3 0 400000&&cY b12 0 100000)with
     | true=>
       rw[hok]at hN ei es;exact⟨m',b3,b4,cB a8,cB a9,b12,true,ei,es,by omega,fun _=>hN,fun h=>by cases h⟩
     | false=>
       rw[hok]at ei es;exact⟨m,a3,a4,a8,a9,a12,false,ei,es,hm,(fun h=>by cases h),fun _=>rfl⟩
theorem oD:∀n:Nat,n<25→jO.f (IntKind.wrap .u64 1) (IntKind.wrap .u64 (n:Int))=some (0,(n:Int))
 | 0,_=>rfl
 | 1,_=>rfl
 | 2,_=>rfl
 | 3,_=>rfl
 | 4,_=>rfl
 | 5,_=>rfl
 | 6,_=>rfl
 | 7,_=>rfl
 | 8,_=>rfl
 | 9,_=>rfl
 | 10,_=>rfl
 | 11,_=>rfl
 | 12,_=>rfl
 | 13,_=>rfl
 | 14,_=>rfl
 | 15,_=>rfl
 | 16,_=>rfl
 | 17,_=>rfl
 | 18,_=>rfl
 | 19,_=>rfl
 | 20,_=>rfl
 | 21,_=>rfl
 | 22,_=>rfl
 | 23,_=>rfl
 | 24,_=>rfl
 | n+25,h=>absurd h (by omega)
theorem pt (a b c:Int):∃v,eZ.f a b c=some v∧(v=true→(a=1∧(1≤b∧b≤50)∧0≤c∧c≤1000)∨(a=2∧0≤b∧b≤c∧c≤10000)∨(a=3∧0≤b∧b≤24)∨(a=4∧di b c=true)∨(a=5∧isVal b=true)):=by
 simp only[eZ.f,eZ.begin,Tr.ae,Tr.ag,Tr.ai,aI.told,aZ,ba.told,ba.f,ba.begin,ck.told,eH,dD.told,iT,af]
 by_cases q1:a=1
 ·subst q1;cases h1:cY b 1 50 with
  | false=>exact⟨false,rfl,fun h=>by cases h⟩
  | true=>
    refine⟨cY c 0 1000,rfl,fun h=>Or.inl ⟨rfl,aL.mp h1,aL.mp h⟩⟩
 ·by_cases q2:a=2
  ·subst q2
   by_cases h1:b≥0
   ·by_cases h2:b≤c
    ·refine⟨decide (c≤10000),?_,fun h=>Or.inr (Or.inl ⟨rfl,h1,h2,of_decide_eq_true h⟩)⟩;simp[h1,h2]
    ·exact⟨false,by simp[h1,h2],fun h=>by cases h⟩
   ·exact⟨false,by simp[h1],fun h=>by cases h⟩
  ·by_cases q3:a=3
   ·subst q3;cases h1:cY b 0 24 with
    | false=>exact⟨false,rfl,fun h=>by cases h⟩
    | true=>exact⟨cY c 0 1,rfl,fun h=>Or.inr (Or.inr (Or.inl ⟨rfl,aL.mp h1⟩))⟩
   ·by_cases q4:a=4
    ·subst q4;exact⟨di b c,rfl,fun h=>Or.inr (Or.inr (Or.inr (Or.inl ⟨rfl,h⟩)))⟩
    ·by_cases q5:a=5
     ·subst q5;cases h1:isVal b with
      | false=>exact⟨false,rfl,fun h=>by cases h⟩
      | true=>exact⟨decide (c=0),rfl,fun h=>Or.inr (Or.inr (Or.inr (Or.inr ⟨rfl,rfl⟩)))⟩
     ·exact⟨false,by simp[q1,q2,q3,q4,q5],fun h=>by cases h⟩
theorem nC (a b c d:Int) (h:di a b=true) (g:di c d=true):∃x y,cF.f a b c d=some (x,y)∧di x y=true:=by
 obtain⟨h0,h1,h2⟩:=dv.mp h;obtain⟨g0,g1,g2⟩:=dv.mp g;have w1:wr (a+c)=a+c:=aQ (by omega);have w2:wr (b+d)=b+d:=aQ (by omega);simp only[cF.f,cF.begin,Tr.ag,Tr.ae,Tr.ai,ck.told,eH,h,g,af,Bool.not_true,Bool.false_eq_true,↓reduceIte,w1,w2];refine⟨_,_,rfl,dv.mpr ?_⟩;split<;>split<;>omega
theorem rY (a b c:Int):∃v,eZ.f a b c=some v∧dI.f a b c=some v∧(v=true→(a=1∧(1≤b∧b≤50)∧0≤c∧c≤1000)∨(a=2∧0≤b∧b≤c∧c≤10000)∨(a=3∧0≤b∧b≤24)∨(a=4∧di b c=true)∨(a=5∧isVal b=true)):=by
 obtain⟨v,e,h⟩:=pt a b c;refine⟨v,e,?_,h⟩;rw[←e];simp only[eZ.f,eZ.begin,dI.f,dI.begin,Tr.ae,Tr.ag,Tr.ai,aI.told,aZ,ba.told,ba.f,ba.begin,ck.told,eH,dD.told,iT,aG.told,bc,cS.told,gJ,ek.told,jD,af]
 by_cases q2:a=2
 ·subst q2;simp only[show decide ((2:Int)=1)=false from rfl,decide_true,Bool.false_eq_true,↓reduceIte];unfold cY
  by_cases h1:b≥0
  ·by_cases h2:b≤c
   ·have h3:c≥0:=by omega
    cases hd:decide (c≤10000)<;>simp[h1,h2,h3]
   ·by_cases h3:c≥0
    ·cases hd:decide (c≤10000)<;>simp[h1,h2,h3]
    ·simp[h1,h2,h3]
  ·by_cases h3:c≥0
   ·cases hd:decide (c≤10000)<;>simp[h1,h3]
   ·simp[h1,h3]
 ·simp only[decide_eq_false q2,Bool.false_eq_true,↓reduceIte]
theorem qg (a b c d:Int) (h:di a b=true) (g:di c d=true):∃x y,cF.f a b c d=some (x,y)∧gQ.f a b c d=some (x,y)∧di x y=true:=by
 obtain⟨x,y,e,h'⟩:=nC a b c d h g;refine⟨x,y,e,?_,h'⟩;rw[←e];obtain⟨g0,g1,g2⟩:=dv.mp g;have i1:cY d 0 1000000=true:=aL.mpr (by omega);have i2:cY c 0 d=true:=aL.mpr (by omega);simp only[cF.f,cF.begin,gQ.f,gQ.begin,Tr.ag,Tr.ae,Tr.ai,ck.told,eH,cS.told,gJ,aG.told,bc,h,g,i1,i2,af,Bool.not_true,Bool.false_eq_true,↓reduceIte,fC.told,fC.f,fC.begin]
theorem mO (a b:Int) (h:di a b=true):∃x:Int,dN.f a b=some x∧dO.f a b=some x:=by
 simp only[dN.f,dN.begin,dO.f,dO.begin,Tr.ag,Tr.ae,Tr.ai,ck.told,eH,cS.told,gJ,h,af,Bool.not_true,Bool.false_eq_true,↓reduceIte];exact⟨_,rfl,rfl⟩
theorem ng (a b c d:Int) (h:di a b=true) (g:di c d=true):∃x y z,dP.f a b c d=some (x,y,z)∧dM.f a b c d=some (x,y,z)∧di x y=true:=by
 obtain⟨h0,h1,h2⟩:=dv.mp h;obtain⟨g0,g1,g2⟩:=dv.mp g;simp only[dP.f,dP.begin,dM.f,dM.begin,Tr.ag,Tr.ae,Tr.ai,ck.told,eH,cS.told,gJ,h,g,af,Bool.not_true,Bool.false_eq_true,↓reduceIte]
 have hA:0≤(if c>a then c else a)∧(if d<b then d else b)≤1000000:=by
  constructor
  ·split<;>omega
  ·split<;>omega
 generalize (if c>a then c else a)=A at hA;generalize (if d<b then d else b)=D at hA
 by_cases q:A>D
 ·have e:di A D=false:=by
   rw[Bool.eq_false_iff];intro hc;have:=dv.mp hc;omega
  simp only[e,decide_eq_true q,Bool.not_false,↓reduceIte];exact⟨_,_,_,rfl,rfl,h⟩
 ·have e:di A D=true:=dv.mpr ⟨by omega,by omega,by omega⟩;simp only[e,decide_eq_false q,Bool.not_true,Bool.false_eq_true,↓reduceIte];exact⟨_,_,_,rfl,rfl,e⟩
theorem uK (n:Nat) (hn:n<25):bt.f [true] (n:Int)=some (List.replicate n true):=by
 have e1:jn.f (IntKind.wrap .u64 1) (IntKind.wrap .u64 (n:Int))=some (0,(n:Int)):=by
  simp only[jn.f,jn.begin,Tr.ag,Tr.ai,jO.told,oD n hn,af]
 have key:∀(k j:Nat) (l:List Bool),j+k=n→l.length=n→l.take j=List.replicate j true→(1≤j∨n=0)→lp bt.tree (.c8 l (j:Int))=some (List.replicate n true):=by
  intro k
  induction k using Nat.strongRecOn with
  | _ k ih=>
    intro j l hj hl ht h1;rw[an]
    by_cases q:j<l.length
    ·have n1:(0:Int)≤(j:Int)∧(j:Int)<(l.length:Int)∧(l.length:Int)≤(l.length:Int):=by omega
     have n2:(0:Int)≤0∧(0:Int)<(j:Int)∧(j:Int)≤(l.length:Int):=by omega
     obtain⟨d,hd,hd1,hd2,hd3,hd4⟩:∃d:Nat,(if(j:Int)-0<(l.length:Int)-(j:Int)then(j:Int)-0 else(l.length:Int)-(j:Int))=(d:Int)∧1≤d∧d≤j∧j+d≤l.length∧(d=j∨j+d=l.length):=by
      by_cases c:(j:Int)-0<(l.length:Int)-(j:Int)
      ·rw[if_pos c];exact⟨j,by omega,by omega,by omega,by omega,Or.inl rfl⟩
      ·rw[if_neg c];exact⟨l.length-j,by omega,by omega,by omega,by omega,Or.inr (by omega)⟩
     have w:wr ((j:Int)+(d:Int))=((j+d:Nat):Int):=by
      have:wr ((j:Int)+(d:Int))=(j:Int)+(d:Int):=aQ (by omega);rw[this];omega
     simp only[bt.tree,Tr.ae,Tr.bI,Tr.ak,Tr.au,Tr.eu,Tr.aj,aA q,n1,n2,and_self,decide_true,↓reduceIte,hd,w,aU,Int.toNat_natCast,Int.toNat_zero,List.drop_zero,ht]
     have hmid:List.take (l.length-j) (List.replicate j true)=List.replicate d true:=by
      rw[List.take_replicate];congr 1;omega
     rw[hmid,←List.append_assoc,List.replicate_append_replicate];refine ih (n-(j+d)) (by omega) (j+d) _ (by omega) ?_ ?_ (Or.inl (by omega))
     ·rw[List.length_append,List.length_replicate,List.length_drop];omega
     ·rw[List.take_left' (by rw[List.length_replicate])]
    ·have q':decide ((j:Int)<(l.length:Int))=false:=decide_eq_false (by omega);simp only[bt.tree,Tr.ae,Tr.ai,q',Bool.false_eq_true,↓reduceIte];rw[List.take_of_length_le (by omega)]at ht;rw[ht];congr 2;omega
 have g0:decide ((n:Int)<0)=false:=decide_eq_false (by omega);have g1:decide ((0:Int)>0)=false:=rfl;have g2:decide ((n:Int)>9223372036854775807)=false:=decide_eq_false (by omega);have w:wr (n:Int)=(n:Int):=aQ (by omega);have g3:(0:Int)≤(n:Int)∧(n:Int)≤(n:Int)∧(n:Int)*(1:Nat)≤room:=⟨by omega,by omega,by unfold room;omega⟩;have hl1:((([true]:List Bool).length:Nat):Int)=1:=rfl
 by_cases hz:n=0
 ·subst hz;simp only[bt.f,bt.begin,Tr.ae,Tr.ag,Tr.ak,Tr.aj,g0,hl1,jn.told,e1,af,g1,g2,w,g3,and_self,Int.toNat_natCast,Bool.false_eq_true,↓reduceIte,List.replicate_zero,List.isEmpty_nil];exact key 0 0 [] rfl rfl rfl (Or.inr rfl)
 ·have e:=key (n-1) 1 (List.take n [true]++List.drop 1 (List.replicate n false)) (by omega) (by rw[List.length_append,List.length_take,List.length_drop,List.length_replicate,List.length_singleton];omega) (by
   rw[List.take_of_length_le (show([true]:List Bool).length≤n by rw[List.length_singleton];omega)];rfl) (Or.inl (by omega))
  have g4:(List.replicate n false).isEmpty=false:=by cases n with
   | zero=>exact absurd rfl hz
   | succ n=>rfl
  have g5:(0:Int)<(n:Int)∧(0:Int)<1:=by omega
  have g6:(if(1:Int)<(n:Int)then(1:Int)else(n:Int))=1:=by split<;>omega
  simp only[bt.f,bt.begin,Tr.ae,Tr.ag,Tr.ak,Tr.eu,Tr.aj,g0,hl1,jn.told,e1,af,g1,g2,w,g3,and_self,Int.toNat_natCast,Bool.false_eq_true,↓reduceIte,g4,List.length_replicate,g5,g6];exact e
theorem oY (n:Nat) (hn:n<25):dV.f (n:Int)=some (List.replicate n true):=by
 simp only[dV.f,dV.begin,Tr.aj]
 have key:∀(k j:Nat),j+k=n→lp dV.tree (.c3 (n:Int) (List.replicate j true) (j:Int))=some (List.replicate n true):=by
  intro k
  induction k with
  | zero=>
    intro j hj;obtain rfl:j=n:=by omega
    rw[an];simp only[dV.tree,Tr.ae,Tr.ai,aV,Bool.false_eq_true,↓reduceIte]
  | succ k ih=>
    intro j hj;have q:j<n:=by omega
    have fit:=bY (List.replicate j true) true 1048576 (by rw[List.length_replicate];omega) (by omega) 1 (by omega);rw[←ih (j+1) (by omega),an,List.replicate_succ'];simp only[dV.tree,Tr.ae,Tr.ak,Tr.aj,aA q,↓reduceIte,fit,aq (show j<4611686018427387904 by omega)]
 exact key n 0 (by omega)
set_option maxHeartbeats 2000000 in
theorem sd (K z:Int) (N:Nat) (hN:N≤50) (p:List aC) (r h:List Int) (a5 a6 a7 a10:Int) (hp:p.length≤1048576) (hs:∀t∈p,t.f0.length≤1048576) (hr:r.length≤1048576) (hh:h.length≤1048576) (y0:List aC) (y1 y2:List Int) (y3 y4 y5 y6 y7 y8 y9 y10:Int) (y11:List Int) (y12:Int) (u0:List aC) (u1 u2:List Int) (u3 u4 u5 u6 u7 u8 u9 u10:Int) (u11:List Int) (u12:Int):∀(k i:Nat),i+k=N→∀(m:List Int) (a3 a4 a8 a9 a12:Int),m.length≤1048576→
 ∃m' b3 b4 b8 b9 b12,lp gF.tree (.c2 p m r a3 a4 a5 a6 a7 a8 a9 a10 h a12 K (N:Int) z y0 y1 y2 y3 y4 y5 y6 y7 y8 y9 y10 y11 y12 (N:Int) (i:Int))=some (p,m',r,b3,b4,a5,a6,a7,b8,b9,a10,h,b12,b12)∧lp bf.tree (.c7 K (N:Int) z u0 u1 u2 u3 u4 u5 u6 u7 u8 u9 u10 u11 u12 p m r a3 a4 a5 a6 a7 a8 a9 a10 h a12 (i:Int))=some (p,m',r,b3,b4,a5,a6,a7,b8,b9,a10,h,b12,b12)∧m'.length≤1048576:=by
 intro k
 induction k with
 | zero=>
   intro i hi m a3 a4 a8 a9 a12 hm;have q:decide ((i:Int)<(N:Int))=false:=decide_eq_false (by omega);refine⟨m,a3,a4,a8,a9,a12,?_,?_,hm⟩
   ·rw[an];simp only[gF.tree,Tr.ae,Tr.bI,Tr.au,Tr.ai,q,Bool.false_eq_true,↓reduceIte,aU]
   ·rw[an];simp only[bf.tree,Tr.ae,Tr.bI,Tr.au,Tr.ai,q,Bool.false_eq_true,↓reduceIte,aU]
 | succ k ih=>
   intro i hi m a3 a4 a8 a9 a12 hm;have q:decide ((i:Int)<(N:Int))=true:=decide_eq_true (by omega);obtain⟨m',b3,b4,b8,b9,b12,ok,ei,es,hm',_,_⟩:=qC p m r a3 a4 a5 a6 a7 a8 a9 a10 h a12 z hp hs hm hr hh;cases ok with
   | false=>
     refine⟨m,a3,a4,a8,a9,a12,?_,?_,hm⟩
     ·rw[an];simp only[gF.tree,Tr.ae,Tr.bI,Tr.au,Tr.ag,Tr.ai,q,bx.told,ei,af,Bool.not_false,↓reduceIte,aU]
     ·rw[an];simp only[bf.tree,Tr.ae,Tr.bI,Tr.au,Tr.ag,Tr.ai,q,bW.told,es,af,Bool.not_false,↓reduceIte,aU]
   | true=>
     obtain⟨m2,c3,c4,c8,c9,rE,e1,e2,h2⟩:=ih (i+1) (by omega) m' b3 b4 b8 b9 b12 hm';refine⟨m2,c3,c4,c8,c9,rE,?_,?_,h2⟩
     ·rw[an];simp only[gF.tree,Tr.ae,Tr.bI,Tr.au,Tr.ag,Tr.aj,q,bx.told,ei,af,Bool.not_true,Bool.false_eq_true,↓reduceIte,aq (show i<4611686018427387904 by omega)];exact e1
     ·rw[an];simp only[bf.tree,Tr.ae,Tr.bI,Tr.au,Tr.ag,Tr.aj,q,bW.told,es,af,Bool.not_true,Bool.false_eq_true,↓reduceIte,aq (show i<4611686018427387904 by omega)];exact e2
set_option maxHeartbeats 4000000 in
theorem tB (p:List aC) (m r:List Int) (a3 a4 a5 a6 a7 a8 a9 a10:Int) (h:List Int) (a12 x y z:Int) (hp:p.length≤1048576) (hs:∀t∈p,t.f0.length≤1048576) (hm:m.length≤1048576) (hr:r.length≤1048576) (hh:h.length≤1048576):
 ∃m' r' b3 b4 b8 b9 b10 h' b12 k,dm.f p m r a3 a4 a5 a6 a7 a8 a9 a10 h a12 x y z=some (p,m',r',b3,b4,a5,a6,a7,b8,b9,b10,h',b12,k)∧bf.f p m r a3 a4 a5 a6 a7 a8 a9 a10 h a12 x y z=some (p,m',r',b3,b4,a5,a6,a7,b8,b9,b10,h',b12,k)∧m'.length≤1048576∧r'.length≤1048576∧h'.length≤1048576:=by
 have e1:=gX p m r a3 a4 a5 a6 a7 a8 a9 a10 h a12 hp hs hm hr hh;have s1:=iA p m r a3 a4 a5 a6 a7 a8 a9 a10 h a12 hp hs hm hr hh;have e2:=gK p m r a3 a4 a5 a6 a7 a8 a9 a10 h a12 hp hs hm hr hh;have s2:=gG p m r a3 a4 a5 a6 a7 a8 a9 a10 h a12 hp hs hm hr hh;cases hn:iB p m r a3 a4 a5 a6 a7 a8 a9 a10 h a12 with
 | false=>
   rw[hn]at e2 s2;refine⟨m,r,a3,a4,a8,a9,a10,h,a12,-1,?_,?_,hm,hr,hh⟩
   ·simp only[dm.f,dm.begin,Tr.ag,Tr.ae,Tr.ai,bh.told,e1,bF.told,e2,af,Bool.not_false,↓reduceIte]
   ·simp only[bf.f,bf.begin,Tr.ag,Tr.ae,Tr.ai,bk.told,s2,af,Bool.not_false,↓reduceIte,aS.told,s1]
 | true=>
   rw[hn]at e2 s2;obtain⟨v1,v2,v3,v4,v5,v6,v7,v8⟩:=la.mp hn;obtain⟨v,e3,s3,hv⟩:=rY x y z;cases v with
   | false=>
     refine⟨m,r,a3,a4,a8,a9,a10,h,a12,-1,?_,?_,hm,hr,hh⟩
     ·simp only[dm.f,dm.begin,Tr.ae,Tr.ag,Tr.ai,bF.told,e2,eZ.told,e3,bh.told,e1,af,Bool.not_true,Bool.not_false,Bool.false_eq_true,↓reduceIte]
     ·simp only[bf.f,bf.begin,Tr.ae,Tr.ag,Tr.ai,bk.told,s2,dI.told,s3,aS.told,s1,af,Bool.not_true,Bool.not_false,Bool.false_eq_true,↓reduceIte]
   | true=>
     have eD:∀t,eM.f p m r a3 a4 a5 a6 a7 a8 a9 a10 h a12 x y z=some t→dm.f p m r a3 a4 a5 a6 a7 a8 a9 a10 h a12 x y z=some t:=fun t e4=>by
      simp only[dm.f,dm.begin,Tr.ae,Tr.au,Tr.ag,Tr.ai,bF.told,e2,eZ.told,e3,bh.told,e1,af,Bool.not_true,Bool.false_eq_true,↓reduceIte,eM.told,e4]
     rcases hv rfl with⟨rfl,hy,hz⟩ | ⟨rfl,hy0,hy1,hy2⟩ | ⟨rfl,hy⟩ | ⟨rfl,hy⟩ | ⟨rfl,hy⟩
     ·obtain⟨N,rfl⟩:∃N:Nat,y=N:=⟨y.toNat,by omega⟩;obtain⟨m',b3,b4,b8,b9,b12,ei,es,hm'⟩:=sd 1 z N (by omega) p r h a5 a6 a7 a10 hp hs hr hh [] [] [] 0 0 0 0 0 0 0 0 [] 0 [] [] [] 0 0 0 0 0 0 0 0 [] 0 N 0 (by omega) m a3 a4 a8 a9 a12 hm;have et:gF.f p m r a3 a4 a5 a6 a7 a8 a9 a10 h a12 1 (N:Int) z=some (p,m',r,b3,b4,a5,a6,a7,b8,b9,a10,h,b12,b12):=ei;refine⟨m',r,b3,b4,b8,b9,a10,h,b12,b12,eD _ ?_,?_,hm',hr,hh⟩
      ·simp only[eM.f,eM.begin,Tr.ae,Tr.ag,Tr.ai,decide_true,↓reduceIte,gF.told,et,af]
      ·simp only[bf.f,bf.begin,Tr.ae,Tr.ag,Tr.aj,bk.told,s2,dI.told,s3,aS.told,s1,af,Bool.not_true,Bool.false_eq_true,decide_true,↓reduceIte];exact es
     ·obtain⟨s8,s9,f1,g1,h1⟩:=qg a8 a9 y z v6 (dv.mpr ⟨hy0,hy1,by omega⟩);obtain⟨u,f2,g2⟩:=mO s8 s9 h1;refine⟨m,r,a3,a4,s8,s9,a10,h,a12,u,eD _ ?_,?_,hm,hr,hh⟩
      ·simp only[eM.f,eM.begin,Tr.ae,Tr.au,Tr.ag,Tr.ai,show decide ((2:Int)=1)=false from rfl,decide_true,Bool.false_eq_true,↓reduceIte,cF.told,f1,dN.told,f2,af]
      ·simp only[bf.f,bf.begin,Tr.ae,Tr.au,Tr.ag,Tr.ai,bk.told,s2,dI.told,s3,aS.told,s1,af,Bool.not_true,show decide ((2:Int)=1)=false from rfl,decide_true,Bool.false_eq_true,↓reduceIte,gQ.told,g1,dO.told,g2]
     ·obtain⟨N,rfl⟩:∃N:Nat,y=N:=⟨y.toNat,by omega⟩;have el:=uK N (by omega);have sl:=oY N (by omega);have fU:=pA p m r a3 a4 a5 a6 a7 a8 a9 a10 h a12 (List.replicate N true) (decide (z=1)) hp hs hm hr hh (by rw[List.length_replicate];omega);have gU:=pD p m r a3 a4 a5 a6 a7 a8 a9 a10 h a12 (List.replicate N true) (decide (z=1)) hp hs hm hr hh (by rw[List.length_replicate];omega);unfold oU at fU gU;rw[if_pos hn]at fU gU;have hle:=qA m a10 h (List.replicate N true) (decide (z=1)) hh;generalize ia m a10 h (List.replicate N true) (decide (z=1))=R at fU gU hle
      have e9:lp eM.tree (.c9 p m r a3 a4 a5 a6 a7 a8 a9 R.1 R.2.1 a12 [] [] [] 0 0 0 0 0 0 0 0 [] 0)=some (p,m,r,a3,a4,a5,a6,a7,a8,a9,R.1,R.2.1,a12,(R.2.1.length:Int)):=by
       rw[an];simp only[eM.tree,Tr.bI,Tr.au,Tr.ai,aU]
      refine⟨m,r,a3,a4,a8,a9,R.1,R.2.1,a12,(R.2.1.length:Int),eD _ ?_,?_,hm,hr,hle⟩
      ·simp only[eM.f,eM.begin,Tr.ae,Tr.au,Tr.bI,Tr.ag,Tr.ai,Tr.aj,show decide ((3:Int)=1)=false from rfl,show decide ((3:Int)=2)=false from rfl,decide_true,Bool.false_eq_true,↓reduceIte,bt.told,el,il.told,fU,af,aU,e9]
      ·simp only[bf.f,bf.begin,Tr.ae,Tr.au,Tr.bI,Tr.ag,Tr.ai,Tr.aj,bk.told,s2,dI.told,s3,aS.told,s1,Bool.not_true,show decide ((3:Int)=1)=false from rfl,show decide ((3:Int)=2)=false from rfl,decide_true,Bool.false_eq_true,↓reduceIte,dV.told,sl,ik.told,gU,af,aU]
     ·obtain⟨s8,s9,b,f1,g1,h1⟩:=ng a8 a9 y z v6 hy;refine⟨m,r,a3,a4,s8,s9,a10,h,a12,sa b,eD _ ?_,?_,hm,hr,hh⟩
      ·simp only[eM.f,eM.begin,Tr.ae,Tr.au,Tr.ag,Tr.ai,show decide ((4:Int)=1)=false from rfl,show decide ((4:Int)=2)=false from rfl,show decide ((4:Int)=3)=false from rfl,decide_true,Bool.false_eq_true,↓reduceIte,dP.told,f1,iW.told,l6,af]
      ·simp only[bf.f,bf.begin,Tr.ae,Tr.au,Tr.ag,Tr.ai,bk.told,s2,dI.told,s3,aS.told,s1,Bool.not_true,show decide ((4:Int)=1)=false from rfl,show decide ((4:Int)=2)=false from rfl,show decide ((4:Int)=3)=false from rfl,decide_true,Bool.false_eq_true,↓reduceIte,dM.told,g1,gA.told,j0,af]
     ·by_cases ql:(r.length:Int)<100
      ·have fit:=bY r y 1048576 (by omega) (by omega) 8 (by omega);refine⟨m,r++[y],a3,a4,a8,a9,a10,h,a12,((r++[y]).length:Int),eD _ ?_,?_,hm,by rw[List.length_append,List.length_singleton];omega,hh⟩
       ·simp only[eM.f,eM.begin,Tr.ae,Tr.au,Tr.bI,Tr.ak,Tr.ai,show decide ((5:Int)=1)=false from rfl,show decide ((5:Int)=2)=false from rfl,show decide ((5:Int)=3)=false from rfl,show decide ((5:Int)=4)=false from rfl,Bool.false_eq_true,↓reduceIte,decide_eq_true ql,fit,aU]
       ·simp only[bf.f,bf.begin,Tr.ae,Tr.au,Tr.bI,Tr.ak,Tr.ag,Tr.ai,bk.told,s2,dI.told,s3,aS.told,s1,af,Bool.not_true,show decide ((5:Int)=1)=false from rfl,show decide ((5:Int)=2)=false from rfl,show decide ((5:Int)=3)=false from rfl,show decide ((5:Int)=4)=false from rfl,Bool.false_eq_true,↓reduceIte,decide_eq_true ql,fit,aU]
      ·refine⟨m,r,a3,a4,a8,a9,a10,h,a12,(r.length:Int),eD _ ?_,?_,hm,hr,hh⟩
       ·simp only[eM.f,eM.begin,Tr.ae,Tr.au,Tr.bI,Tr.ai,show decide ((5:Int)=1)=false from rfl,show decide ((5:Int)=2)=false from rfl,show decide ((5:Int)=3)=false from rfl,show decide ((5:Int)=4)=false from rfl,Bool.false_eq_true,↓reduceIte,decide_eq_false ql,aU]
       ·simp only[bf.f,bf.begin,Tr.ae,Tr.au,Tr.bI,Tr.ag,Tr.ai,bk.told,s2,dI.told,s3,aS.told,s1,af,Bool.not_true,show decide ((5:Int)=1)=false from rfl,show decide ((5:Int)=2)=false from rfl,show decide ((5:Int)=3)=false from rfl,show decide ((5:Int)=4)=false from rfl,Bool.false_eq_true,↓reduceIte,decide_eq_false ql,aU]
theorem vl (a b:List Int) (ha:a.length≤1048576):bR.f a b=some (decide (a=b)):=by
 by_cases h:a.length=b.length
 ·exact kQ a b ha h
 ·have h1:decide ((a.length:Int)=(b.length:Int))=false:=decide_eq_false (by omega);have hne:¬a=b:=fun e=>h (by rw[e]);simp only[bR.f,bR.begin,Tr.ae,Tr.ai,h1,Bool.not_false,↓reduceIte,decide_eq_false hne]
set_option maxHeartbeats 2000000 in
theorem xy (l:List kR) (hl:l.length≤30) (p:List aC) (a5 a6 a7:Int) (hp:p.length≤1048576) (hs:∀t∈p,t.f0.length≤1048576) (y0:List aC) (y1 y2:List Int) (y3 y4 y5 y6 y7 y8 y9 y10:Int) (y11:List Int) (y12:Int) (u0:List aC) (u1 u2:List Int) (u3 u4 u5 u6 u7 u8 u9 u10:Int) (u11:List Int) (u12:Int):∀(k i:Nat),i+k=l.length→∀(m r:List Int) (a3 a4 a8 a9 a10:Int) (h:List Int) (a12:Int) (ks:List Int),m.length≤1048576→r.length≤1048576→h.length≤1048576→ks.length=i→
 ∃m' r' b3 b4 b8 b9 b10 h' b12 ks',lp dj.tree (.c6 y0 y1 y2 y3 y4 y5 y6 y7 y8 y9 y10 y11 y12 p m r a3 a4 a5 a6 a7 a8 a9 a10 h a12 ks l (l.length:Int) (i:Int))=some (p,m',r',b3,b4,a5,a6,a7,b8,b9,b10,h',b12,ks')∧lp dE.tree (.c6 l u0 u1 u2 u3 u4 u5 u6 u7 u8 u9 u10 u11 u12 p m r a3 a4 a5 a6 a7 a8 a9 a10 h a12 ks (i:Int))=some (p,m',r',b3,b4,a5,a6,a7,b8,b9,b10,h',b12,ks')∧m'.length≤1048576∧r'.length≤1048576∧h'.length≤1048576∧ks'.length≤30:=by
 intro k
 induction k with
 | zero=>
   intro i hi m r a3 a4 a8 a9 a10 h a12 ks hm hr hh hks;obtain rfl:i=l.length:=by omega
   refine⟨m,r,a3,a4,a8,a9,a10,h,a12,ks,?_,?_,hm,hr,hh,by omega⟩
   ·rw[an];simp only[dj.tree,Tr.ae,Tr.ai,aV,Bool.false_eq_true,↓reduceIte]
   ·rw[an];simp only[dE.tree,Tr.ae,Tr.ai,aV,Bool.false_eq_true,↓reduceIte]
 | succ k ih=>
   intro i hi m r a3 a4 a8 a9 a10 h a12 ks hm hr hh hks;have q:i<l.length:=by omega
   obtain⟨m',r',b3,b4,b8,b9,b10,h',b12,x,ei,es,hm',hr',hh'⟩:=tB p m r a3 a4 a5 a6 a7 a8 a9 a10 h a12 l[i].f0 l[i].f1 l[i].f2 hp hs hm hr hh;obtain⟨m2,r2,c3,c4,c8,c9,c10,h2,rE,ks2,e1,e2,s1,s2,s3,s4⟩:=ih (i+1) (by omega) m' r' b3 b4 b8 b9 b10 h' b12 (ks++[x]) hm' hr' hh' (by rw[List.length_append,List.length_singleton];omega);have fit:=bY ks x 1048576 (by omega) (by omega) 8 (by omega);refine⟨m2,r2,c3,c4,c8,c9,c10,h2,rE,ks2,?_,?_,s1,s2,s3,s4⟩
   ·rw[an];simp only[dj.tree,Tr.ae,Tr.ak,Tr.ag,Tr.aj,aA q,aF q,ar q,and_self,decide_true,↓reduceIte,dm.told,ei,af,fit,aq (show i<4611686018427387904 by omega)];exact e1
   ·rw[an];simp only[dE.tree,Tr.ae,Tr.ak,Tr.bI,Tr.au,Tr.ag,Tr.aj,aA q,aF q,ar q,and_self,decide_true,↓reduceIte,bf.told,es,af,fit,aU,aq (show i<4611686018427387904 by omega)];exact e2
theorem vE (p:List aC) (m r:List Int) (a3 a4 a5 a6 a7 a8 a9 a10:Int) (h:List Int) (a12:Int) (l:List kR) (hp:p.length≤1048576) (hs:∀t∈p,t.f0.length≤1048576) (hm:m.length≤1048576) (hr:r.length≤1048576) (hh:h.length≤1048576):
 ∃m' r' b3 b4 b8 b9 b10 h' b12 ks,dj.f p m r a3 a4 a5 a6 a7 a8 a9 a10 h a12 l=some (p,m',r',b3,b4,a5,a6,a7,b8,b9,b10,h',b12,ks)∧dE.f p m r a3 a4 a5 a6 a7 a8 a9 a10 h a12 l=some (p,m',r',b3,b4,a5,a6,a7,b8,b9,b10,h',b12,ks)∧m'.length≤1048576∧r'.length≤1048576∧h'.length≤1048576∧ks.length≤30:=by
 have e1:=gX p m r a3 a4 a5 a6 a7 a8 a9 a10 h a12 hp hs hm hr hh;have s1:=iA p m r a3 a4 a5 a6 a7 a8 a9 a10 h a12 hp hs hm hr hh;have e2:=gK p m r a3 a4 a5 a6 a7 a8 a9 a10 h a12 hp hs hm hr hh;have s2:=gG p m r a3 a4 a5 a6 a7 a8 a9 a10 h a12 hp hs hm hr hh;cases hn:iB p m r a3 a4 a5 a6 a7 a8 a9 a10 h a12 with
 | false=>
   rw[hn]at e2 s2;refine⟨m,r,a3,a4,a8,a9,a10,h,a12,[],?_,?_,hm,hr,hh,by simp⟩
   ·simp only[dj.f,dj.begin,Tr.ag,Tr.ae,Tr.ai,bh.told,e1,bF.told,e2,af,Bool.not_false,↓reduceIte]
   ·simp only[dE.f,dE.begin,Tr.ag,Tr.ae,Tr.ai,aS.told,s1,bk.told,s2,af,Bool.not_false,↓reduceIte]
 | true=>
   rw[hn]at e2 s2
   by_cases q:(l.length:Int)>30
   ·refine⟨m,r,a3,a4,a8,a9,a10,h,a12,[],?_,?_,hm,hr,hh,by simp⟩
    ·simp only[dj.f,dj.begin,Tr.ag,Tr.ae,Tr.ai,bh.told,e1,bF.told,e2,af,Bool.not_true,Bool.false_eq_true,decide_eq_true q,↓reduceIte]
    ·simp only[dE.f,dE.begin,Tr.ag,Tr.ae,Tr.ai,aS.told,s1,bk.told,s2,af,Bool.not_true,Bool.false_eq_true,decide_eq_true q,↓reduceIte]
   ·obtain⟨m',r',b3,b4,b8,b9,b10,h',b12,ks,ei,es,h1,h2,h3,h4⟩:=xy l (by omega) p a5 a6 a7 hp hs [] [] [] 0 0 0 0 0 0 0 0 [] 0 [] [] [] 0 0 0 0 0 0 0 0 [] 0 l.length 0 (by omega) m r a3 a4 a8 a9 a10 h a12 [] hm hr hh rfl;refine⟨m',r',b3,b4,b8,b9,b10,h',b12,ks,?_,?_,h1,h2,h3,h4⟩
    ·simp only[dj.f,dj.begin,Tr.ag,Tr.ae,Tr.aj,bh.told,e1,bF.told,e2,af,Bool.not_true,Bool.false_eq_true,decide_eq_false q,↓reduceIte];exact ei
    ·simp only[dE.f,dE.begin,Tr.ag,Tr.ae,Tr.aj,aS.told,s1,bk.told,s2,af,Bool.not_true,Bool.false_eq_true,decide_eq_false q,↓reduceIte];exact es
theorem tq (l:List kR) (n:Int) (hl:l.length≤9223372036854775807) (h0:0≤n) (h1:n≤1048576):iP.f l n=some (if n-l.length<0 then -1 else n-l.length):=by
 have w:wr (n-l.length)=n-l.length:=aQ (by omega);simp only[iP.f,iP.begin,Tr.ae,Tr.ai,w,decide_eq_true_eq];split<;>rfl
theorem ud (a b c:Int):gY.f a b c=some (a,b,c):=rfl
theorem tg (l:List kR) (hl:l.length≤1048576):fj.f l=some l:=by
 have h1:(0:Int)≤(List.length l:Int)∧(List.length l:Int)≤(List.length l:Int)∧(List.length l:Int)*(24:Nat)≤room:=⟨by omega,by omega,by unfold room;omega⟩;simp only[fj.f,fj.begin,Tr.ak,Tr.aj,h1,and_self,decide_true,↓reduceIte,Int.toNat_natCast]
 have e:=oo l (fun x:kR=>x) z63 id (fun i s=>lp fj.tree (.c3 l s (i:Int))) (fun i h s hs=>by
  rw[an];have h2:i<s.length:=by omega
  simp only[fj.tree,Tr.ae,Tr.ak,Tr.ag,Tr.eu,Tr.aj,gY.told,ud,af,aA h,aF h,aF h2,ar h,and_self,decide_true,↓reduceIte,aq (show i<4611686018427387904 by omega),Int.toNat_natCast]) (fun s=>by
  rw[an];simp only[fj.tree,Tr.ae,Tr.ai,aV,Bool.false_eq_true,↓reduceIte,id])
 rw[List.map_id'']at e
 ·exact e
 ·exact fun _=>rfl
theorem ux (a b c:Int):jt.f a b c a b c=some true:=by simp[jt.f,jt.begin]
theorem tr (l:List kR) (hl:l.length≤1048576):gB.f l l=some true:=by
 simp only[gB.f,gB.begin,Tr.ae,Tr.aj,decide_true,Bool.not_true,Bool.false_eq_true,↓reduceIte]
 refine mX l.length true (fun i=>lp gB.tree (.c4 l l (i:Int))) (fun i h=>by
  rw[an];simp only[gB.tree,Tr.ae,Tr.ak,Tr.au,Tr.ag,Tr.aj,jt.told,ux,af,aA h,aF h,ar h,and_self,decide_true,↓reduceIte,Bool.not_true,Bool.false_eq_true,aq (show i<4611686018427387904 by omega)]) (by
  rw[an];simp only[gB.tree,Tr.ae,Tr.ai,aV,Bool.false_eq_true,↓reduceIte])
theorem uH (a b:List Int) (ha:a.length≤1048576) (hb:b.length≤1048576):∃v,dq.f a b=some v∧decide (v<0)=decide (a=b):=by
 simp only[dq.f,dq.begin,Tr.aj]
 have key:∀(n i:Nat),i+n=1048577→a.take i=b.take i→i≤a.length→i≤b.length→∃v,lp dq.tree (.c2 a b (i:Int))=some v∧decide (v<0)=decide (a=b):=by
  intro n
  induction n with
  | zero=>intro i hi _ h1 _;omega
  | succ n ih=>
    intro i hi ht h1 h2;rw[an]
    by_cases qa:i<a.length
    ·by_cases qb:i<b.length
     ·have n1:decide ((i:Int)≥(a.length:Int))=false:=decide_eq_false (by omega);have n2:decide ((i:Int)≥(b.length:Int))=false:=decide_eq_false (by omega)
      by_cases e:a[i]=b[i]
      ·simp only[dq.tree,Tr.ae,Tr.ak,Tr.aj,Tr.ai,aA qa,aF qa,aF qb,ar qa,ar qb,n1,n2,and_self,decide_true,↓reduceIte,Bool.false_eq_true,e,Bool.not_true,aq (show i<4611686018427387904 by omega)];exact ih (i+1) (by omega) (by rw[eR qa,eR qb,ht,e]) (by omega) (by omega)
      ·refine⟨(i:Int),?_,?_⟩
       ·simp only[dq.tree,Tr.ae,Tr.ak,Tr.aj,Tr.ai,aA qa,aF qa,aF qb,ar qa,ar qb,n1,n2,and_self,decide_true,↓reduceIte,Bool.false_eq_true,decide_eq_false e,Bool.not_false]
       ·rw[decide_eq_false (show¬(i:Int)<0 by omega),decide_eq_false (fun h=>e (by subst h;rfl))]
     ·have n1:decide ((i:Int)≥(a.length:Int))=false:=decide_eq_false (by omega);have n2:decide ((i:Int)≥(b.length:Int))=true:=decide_eq_true (by omega);refine⟨(i:Int),?_,?_⟩
      ·simp only[dq.tree,Tr.ae,Tr.ai,aA qa,n1,n2,↓reduceIte,Bool.false_eq_true]
      ·rw[decide_eq_false (show¬(i:Int)<0 by omega),decide_eq_false (fun h=>by subst h;omega)]
    ·have e1:decide ((i:Int)<(a.length:Int))=false:=decide_eq_false (by omega)
     by_cases qb:i<b.length
     ·have n1:decide ((i:Int)≥(a.length:Int))=true:=decide_eq_true (by omega);refine⟨(i:Int),?_,?_⟩
      ·simp only[dq.tree,Tr.ae,Tr.ai,e1,aA qb,n1,↓reduceIte,Bool.false_eq_true]
      ·rw[decide_eq_false (show¬(i:Int)<0 by omega),decide_eq_false (fun h=>by subst h;omega)]
     ·have e2:decide ((i:Int)<(b.length:Int))=false:=decide_eq_false (by omega);refine⟨-1,?_,?_⟩
      ·simp only[dq.tree,Tr.ae,Tr.ai,e1,e2,↓reduceIte,Bool.false_eq_true]
      ·rw[List.take_of_length_le (by omega),List.take_of_length_le (by omega)]at ht;rw[decide_eq_true (show(-1:Int)<0 by omega),decide_eq_true ht]
 exact key 1048577 0 (by omega) rfl (by omega) (by omega)
theorem FnExactIsReplay:eQ.Pure:=by
 intro p m r a3 a4 a5 a6 a7 a8 a9 a10 h a12 l k hg hgl hgk;have hp0:p.length≤9223372036854775807:=hg.1.1;have hs0:∀t∈p,t.f0.length≤9223372036854775807:=fun t ht=>(hg.1.2 t ht).1.1;have hm0:m.length≤9223372036854775807:=hg.2.1.1;have hr0:r.length≤9223372036854775807:=hg.2.2.1.1;have hh0:h.length≤9223372036854775807:=hg.2.2.2.2.2.2.1.2.1;have hl0:l.length≤9223372036854775807:=hgl.1;simp only[eQ.f,eQ.begin,Tr.ae,Tr.ag,Tr.ai,Tr.au,gW.told,pB p m r a3 a4 a5 a6 a7 a8 a9 a10 h a12 1048576 hp0 hs0 hm0 hr0 hh0 (by omega) (by omega),af,decide_eq_true_eq]
 by_cases q0:(k.length:Int)>1048576
 ·rw[if_pos q0]
 rw[if_neg q0];have hk:k.length≤1048576:=by omega
 by_cases q4:¬(gN p m r h:Int)≤1048576
 ·simp only[q4,↓reduceIte];rfl
 have q3:(gN p m r h:Int)≤1048576:=by omega
 have q3':¬((1048576:Int)-(gN p m r h:Int)<0):=by omega
 simp only[q3,q3',↓reduceIte,iP.told,tq l (1048576-(gN p m r h:Int)) hl0 (by omega) (by omega),af]
 by_cases q5:1048576-(gN p m r h:Int)-(l.length:Int)<0
 ·simp only[q5,↓reduceIte];rfl
 have hl:l.length≤1048576:=by omega
 obtain⟨b1,b2,b3,b4,b5,p1,p2,p3⟩:=su p m r h (by omega);have e1:=pJ p m r a3 a4 a5 a6 a7 a8 a9 a10 h a12 b1 b2 b3 b4 b5;have ea:=tg l hl;have eb:=tr l hl;have ec:=jG k hk;have ed:=jq k hk;obtain⟨w1,w2,w3,w4,w8,w9,w10,w11,w12,ks,e2,e3,s4,s5,s6,s7⟩:=vE (p.map ku) m r a3 a4 a5 a6 a7 a8 a9 a10 h a12 l p1 p2 b3 b4 b5;have e4:=mD (p.map ku) m r a3 a4 a5 a6 a7 a8 a9 a10 h a12 p1 p2 b3 b4 b5;have i1:=gK (p.map ku) m r a3 a4 a5 a6 a7 a8 a9 a10 h a12 p1 p2 b3 b4 b5;have i2:=gG (p.map ku) m r a3 a4 a5 a6 a7 a8 a9 a10 h a12 p1 p2 b3 b4 b5;have i3:=vl ks k (by omega);obtain⟨v,i4,i5⟩:=uH ks k (by omega) hk
 have hv:∃b,ib.f (p.map ku) m r a3 a4 a5 a6 a7 a8 a9 a10 h a12 l k=some b∧ic.f (p.map ku) m r a3 a4 a5 a6 a7 a8 a9 a10 h a12 l k=some b:=by
  cases hn:iB (p.map ku) m r a3 a4 a5 a6 a7 a8 a9 a10 h a12 with
  | false=>
    rw[hn]at i1 i2;refine⟨false,?_,?_⟩
    ·simp only[ib.f,ib.begin,Tr.ag,Tr.ae,Tr.ai,dj.told,e2,bF.told,i1,af,Bool.false_eq_true,↓reduceIte]
    ·simp only[ic.f,ic.begin,Tr.ag,Tr.ae,Tr.ai,bk.told,i2,af,Bool.not_false,↓reduceIte]
  | true=>
    rw[hn]at i1 i2
    by_cases q:(l.length:Int)>30
    ·have q':¬(l.length:Int)≤30:=by omega
     refine⟨false,?_,?_⟩
     ·simp only[ib.f,ib.begin,Tr.ag,Tr.ae,Tr.ai,dj.told,e2,bF.told,i1,af,decide_eq_false q',Bool.false_eq_true,↓reduceIte]
     ·simp only[ic.f,ic.begin,Tr.ag,Tr.ae,Tr.ai,bk.told,i2,af,Bool.not_true,decide_eq_true q,Bool.false_eq_true,↓reduceIte]
    ·have q':(l.length:Int)≤30:=by omega
     refine⟨decide (ks=k),?_,?_⟩
     ·simp only[ib.f,ib.begin,Tr.ag,Tr.ae,Tr.ai,dj.told,e2,bF.told,i1,af,decide_eq_true q',↓reduceIte,bR.told,i3]
     ·simp only[ic.f,ic.begin,Tr.ag,Tr.ae,Tr.ai,bk.told,i2,af,Bool.not_true,decide_eq_false q,Bool.false_eq_true,↓reduceIte,dE.told,e3,jI.told,jI.f,jI.begin,dq.told,i4,i5]
 obtain⟨b,v1,v2⟩:=hv;have hbb:(b !=b)=false:=by cases b<;>rfl
 simp only[q5,↓reduceIte,dw.told,e1,fj.told,ea,dA.told,ec,ic.told,v2,ib.told,v1,eP.told,e4,gB.told,eb,cZ.told,ed,af,hbb,Bool.not_true,Bool.false_eq_true]
end Go.Proofs.YtmapddgocpkgeaaGreat.Pure
