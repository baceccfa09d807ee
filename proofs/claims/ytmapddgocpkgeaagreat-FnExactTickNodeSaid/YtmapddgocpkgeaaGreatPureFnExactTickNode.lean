/- The plain law of FnExactTickNode. No conditions. -/
import Derived.Test.YtmapddgocpkgeaaGreatEvLFnExactTickNode
import Derived.Test.YtmapddgocpkgeaaGreatLibP
namespace Go.Proofs.YtmapddgocpkgeaaGreat.Pure
open Go.RowKit Go.Proofs.YtmapddgocpkgeaaGreat.aa Go.Proofs.YtmapddgocpkgeaaGreat.Ev
set_option linter.unusedVariables false
set_option linter.unusedSimpArgs false
set_option maxRecDepth 20000
def gv (x a b:Int):Bool:=decide (x≥a)&&decide (x≤b)
theorem du (x a b:Int):aH.f x a b=some (gv x a b):=by
 simp only[aH.f,aH.begin,Tr.ag,Tr.al,gv];cases decide (x≥a)<;>simp
theorem dd (x a b:Int):aK.f x a b=some (gv x a b):=by
 simp only[aK.f,aK.begin,Tr.ag,Tr.al,gv];cases decide (x≥a)<;>simp
def xq (l:List fK):Nat:=l.length+(l.map fun t=>t.f0.length).sum
theorem tn (l:List iE) (n:Int) (hl:l.length≤9223372036854775807) (h0:0≤n) (h1:n≤1048576):fu.f l n=some (if n-l.length<0 then -1 else n-l.length):=by
 have w:wr (n-l.length)=n-l.length:=b6 (by omega);simp only[fu.f,fu.begin,Tr.ag,Tr.al,w,decide_eq_true_eq];split<;>rfl
theorem vC (l:List iE) (a b c n:Int) (hl:l.length≤9223372036854775807) (h0:0≤n) (h1:n≤1048576):fU.f l a b c n=some (if n-l.length<0 then -1 else n-l.length):=by
 simp only[fU.f,fU.begin,Tr.aj,Tr.ag,Tr.al,fu.told,tn l n hl h0 h1,ai,decide_eq_true_eq]
 by_cases h:n-(l.length:Int)<0
 ·simp[h]
 ·simp[h]
theorem uP (l:List fK) (n:Int) (hl:l.length≤9223372036854775807) (hs:∀t∈l,t.f0.length≤9223372036854775807) (h0:0≤n) (h1:n≤1048576):
 db.f l n=some (if(xq l:Int)≤n then n-xq l else -1):=by
 have w:wr (n-l.length)=n-l.length:=b6 (by omega);simp only[db.f,db.begin,Tr.ag,Tr.al,Tr.ak,w,decide_eq_true_eq];split
 ·rename_i h;rw[if_neg (by unfold xq;omega)]
 ·rename_i h
  have key:=rf l (fun(s:Int) t=>if s-t.f0.length<0 then .inr (-1)else .inl (s-t.f0.length)) (fun s=>s) (fun _ s=>0≤s∧s≤1048576) (fun i s=>lp db.tree (.c5 l s (i:Int))) (n-l.length) ⟨by omega,by omega⟩
   (fun i h s hi=>by
    have e:=vC l[i].f0 l[i].f1.f0 l[i].f1.f1 l[i].f1.f2 s (hs _ (List.getElem_mem h)) hi.1 hi.2
    have step:lp db.tree (.c5 l s (i:Int))=if s-l[i].f0.length<0 then some (-1)else lp db.tree (.c5 l (s-l[i].f0.length) ((i+1:Nat):Int)):=by
     rw[aF];simp only[db.tree,Tr.ag,Tr.an,Tr.aj,Tr.al,Tr.ak,fU.told,aX h,bk h,bB h,e,ai,aN (show i<4611686018427387904 by omega),↓reduceIte,and_self,decide_eq_true_eq]
     by_cases q:s-(l[i].f0.length:Int)<0
     ·simp[q]
     ·simp[q]
    refine⟨fun s' hs'=> ?_,fun r hr=> ?_⟩
    ·split at hs'
     ·cases hs'
     ·rename_i q;cases hs';exact⟨by rw[step,if_neg q],by omega,by omega⟩
    ·split at hr
     ·rename_i q;cases hr;rw[step,if_pos q]
     ·cases hr)
   (fun s hi=>by rw[aF];simp only[db.tree,Tr.ag,Tr.al,cP,Bool.false_eq_true,↓reduceIte])
  rw[show((0:Nat):Int)=0 from rfl]at key;rw[key];congr 1
  have gen:∀(l:List fK) (s:Int),0≤s→scan (fun(s:Int) (t:fK)=>if s-t.f0.length<0 then .inr (-1)else .inl (s-t.f0.length)) (fun s=>s) l s=if(((l.map fun t=>t.f0.length).sum:Nat):Int)≤s then s-((l.map fun t=>t.f0.length).sum:Nat)else -1:=by
   intro l
   induction l with
   | nil=>intro s hs;simp[scan,hs]
   | cons t l ih=>
     intro s hs;unfold scan
     by_cases q:s-(t.f0.length:Int)<0
     ·rw[if_pos q];dsimp only;rw[List.map_cons,List.sum_cons,if_neg (by omega)]
     ·rw[if_neg q];dsimp only;rw[ih _ (by omega),List.map_cons,List.sum_cons]
      by_cases q':(((l.map fun t=>t.f0.length).sum:Nat):Int)≤s-(t.f0.length:Int)
      ·rw[if_pos q',if_pos (by omega)];omega
      ·rw[if_neg q',if_neg (by omega)]
  rw[gen _ _ (by omega)];unfold xq
  by_cases q:(((l.map fun t=>t.f0.length).sum:Nat):Int)≤n-(l.length:Int)
  ·rw[if_pos q,if_pos (by omega)];omega
  ·rw[if_neg q,if_neg (by omega)]
theorem rv (l:List fK) (n:Int) (hl:l.length≤9223372036854775807) (hs:∀t∈l,t.f0.length≤9223372036854775807) (h0:0≤n) (h1:n≤1048576):
 dQ.f l n=some (if(xq l:Int)≤n then n-xq l else -1):=by
 simp only[dQ.f,dQ.begin,Tr.aj,Tr.ag,Tr.al,db.told,uP l n hl hs h0 h1,ai,decide_eq_true_eq]
 by_cases h:(xq l:Int)≤n
 ·rw[if_pos h];have q:¬(n-(xq l:Int)<0):=by omega
  simp only[q,↓reduceIte]
 ·rw[if_neg h];rfl
def zd (x:iE):aq:=⟨x.f0,x.f1,x.f2,(⟨x.f3.f0,x.f3.f1,x.f3.f2⟩:iQ)⟩
def np (x:fK):az:=⟨x.f0.map zd,(⟨x.f1.f0,x.f1.f1,x.f1.f2⟩:iQ)⟩
theorem vn (a b c:Int):gm.f a b c=some (a,b,c):=rfl
theorem vG (a b c d e f:Int):gB.f a b c d e f=some (a,b,c,d,e,f):=rfl
theorem tt (l:List iE) (hl:l.length≤1048576):dF.f l=some (l.map zd):=by
 have h1:(0:Int)≤(List.length l:Int)∧(List.length l:Int)≤(List.length l:Int)∧(List.length l:Int)*(48:Nat)≤room:=⟨by omega,by omega,by unfold room;omega⟩;simp only[dF.f,dF.begin,Tr.an,Tr.ak,h1,and_self,decide_true,↓reduceIte,Int.toNat_natCast];refine uT l zd Ad id (fun i s=>lp dF.tree (.c3 l s (i:Int))) (fun i h s hs=> ?_) (fun s=> ?_)
 ·rw[aF];have h2:i<s.length:=by omega
  simp only[dF.tree,Tr.ag,Tr.an,Tr.aj,Tr.gT,Tr.ak,gB.told,vG,ai,bk h,bB h,bB h2,aX h,and_self,decide_true,↓reduceIte,aN (show i<4611686018427387904 by omega),Int.toNat_natCast,zd]
 ·rw[aF];simp only[dF.tree,Tr.ag,Tr.al,cP,Bool.false_eq_true,↓reduceIte,id]
theorem vM (l:List iE) (a b c:Int) (hl:l.length≤1048576):fO.f l a b c=some (l.map zd,a,b,c):=by
 simp only[fO.f,fO.begin,Tr.aj,Tr.al,dF.told,gm.told,tt l hl,vn,ai]
theorem uG (l:List fK) (hl:l.length≤1048576) (hs:∀t∈l,t.f0.length≤1048576):dM.f l=some (l.map np):=by
 have h1:(0:Int)≤(List.length l:Int)∧(List.length l:Int)≤(List.length l:Int)∧(List.length l:Int)*(48:Nat)≤room:=⟨by omega,by omega,by unfold room;omega⟩;simp only[dM.f,dM.begin,Tr.an,Tr.ak,h1,and_self,decide_true,↓reduceIte,Int.toNat_natCast];refine uT l np Ab id (fun i s=>lp dM.tree (.c3 l s (i:Int))) (fun i h s hs'=> ?_) (fun s=> ?_)
 ·rw[aF];have h2:i<s.length:=by omega
  simp only[dM.tree,Tr.ag,Tr.an,Tr.aj,Tr.gT,Tr.ak,fO.told,vM _ _ _ _ (hs _ (List.getElem_mem h)),ai,bk h,bB h,bB h2,aX h,and_self,decide_true,↓reduceIte,aN (show i<4611686018427387904 by omega),Int.toNat_natCast,np]
 ·rw[aF];simp only[dM.tree,Tr.ag,Tr.al,cP,Bool.false_eq_true,↓reduceIte,id]
theorem qY (l:List fK) (hl:l.length≤1048576) (hs:∀t∈l,t.f0.length≤1048576):dL.f l=some (l.map np):=by
 simp only[dL.f,dL.begin,Tr.aj,Tr.al,dM.told,uG l hl hs,ai]
theorem lX (l:List Int) (hl:l.length≤1048576):dC.f l=some l:=by
 have h1:(0:Int)≤(List.length l:Int)∧(List.length l:Int)≤(List.length l:Int)∧(List.length l:Int)*(8:Nat)≤room:=⟨by omega,by omega,by unfold room;omega⟩;simp only[dC.f,dC.begin,Tr.an,Tr.ak,h1,and_self,decide_true,↓reduceIte,Int.toNat_natCast]
 have e:=uT l (fun x:Int=>x) 0 id (fun i s=>lp dC.tree (.c3 l s (i:Int))) (fun i h s hs=>by
  rw[aF];have h2:i<s.length:=by omega
  simp only[dC.tree,Tr.ag,Tr.an,Tr.aj,Tr.gT,Tr.ak,ai,bk h,bB h,bB h2,aX h,and_self,decide_true,↓reduceIte,aN (show i<4611686018427387904 by omega),Int.toNat_natCast]) (fun s=>by
  rw[aF];simp only[dC.tree,Tr.ag,Tr.al,cP,Bool.false_eq_true,↓reduceIte,id])
 rw[List.map_id'']at e
 ·exact e
 ·exact fun _=>rfl
theorem ue (a b c d:Int):ga.f a b c d=some (a,b,c,d):=rfl
theorem oO (a b c:Int):fg.f a b c a b c=some true:=by
 simp[fg.f,fg.begin]
theorem vg (a b c d e f:Int):fP.f a b c d e f a b c d e f=some true:=by
 simp[fP.f,fP.begin,fg.told,oO]
theorem uC (l:List aq) (hl:l.length≤1048576):dR.f l l=some true:=by
 simp only[dR.f,dR.begin,Tr.ag,Tr.ak,decide_true,Bool.not_true,Bool.false_eq_true,↓reduceIte]
 refine qW l.length true (fun i=>lp dR.tree (.c4 l l (i:Int))) (fun i h=>by
  rw[aF];simp only[dR.tree,Tr.ag,Tr.an,Tr.bE,Tr.aj,Tr.ak,fP.told,vg,ai,bk h,bB h,aX h,and_self,decide_true,↓reduceIte,Bool.not_true,Bool.false_eq_true,aN (show i<4611686018427387904 by omega)]) (by
  rw[aF];simp only[dR.tree,Tr.ag,Tr.al,cP,Bool.false_eq_true,↓reduceIte])
theorem vz (l:List aq) (a b c:Int) (hl:l.length≤1048576):fT.f l a b c l a b c=some true:=by
 simp[fT.f,fT.begin,dR.told,uC l hl,fg.told,oO]
theorem tL (l:List az) (hl:l.length≤1048576) (hs:∀t∈l,t.f0.length≤1048576):dP.f l l=some true:=by
 simp only[dP.f,dP.begin,Tr.ag,Tr.ak,decide_true,Bool.not_true,Bool.false_eq_true,↓reduceIte]
 refine qW l.length true (fun i=>lp dP.tree (.c4 l l (i:Int))) (fun i h=>by
  rw[aF];simp only[dP.tree,Tr.ag,Tr.an,Tr.bE,Tr.aj,Tr.ak,fT.told,vz _ _ _ _ (hs _ (List.getElem_mem h)),ai,bk h,bB h,aX h,and_self,decide_true,↓reduceIte,Bool.not_true,Bool.false_eq_true,aN (show i<4611686018427387904 by omega)]) (by
  rw[aF];simp only[dP.tree,Tr.ag,Tr.al,cP,Bool.false_eq_true,↓reduceIte])
theorem rC (l:List az) (hl:l.length≤1048576) (hs:∀t∈l,t.f0.length≤1048576):dG.f l l=some true:=by
 simp[dG.f,dG.begin,dP.told,tL l hl hs]
theorem lO (l:List Int) (hl:l.length≤1048576):dw.f l l=some true:=by
 simp only[dw.f,dw.begin,Tr.ag,Tr.ak,decide_true,Bool.not_true,Bool.false_eq_true,↓reduceIte]
 refine qW l.length true (fun i=>lp dw.tree (.c4 l l (i:Int))) (fun i h=>by
  rw[aF];simp only[dw.tree,Tr.ag,Tr.an,Tr.bE,Tr.aj,Tr.ak,ai,bk h,bB h,aX h,and_self,decide_true,↓reduceIte,decide_true,Bool.not_true,Bool.false_eq_true,aN (show i<4611686018427387904 by omega)]) (by
  rw[aF];simp only[dw.tree,Tr.ag,Tr.al,cP,Bool.false_eq_true,↓reduceIte])
theorem uB (a b c d:Int):fr.f a b c d a b c d=some true:=by simp[fr.f,fr.begin]
theorem vx (a b:Int):fX.f a b a b=some true:=by simp[fX.f,fX.begin]
theorem rh (l:List Int) (hl:l.length≤1048576):dI.f l l=some true:=by simp[dI.f,dI.begin,dw.told,lO l hl]
theorem vq (a:Int) (l:List Int) (hl:l.length≤1048576):fR.f a l a l=some true:=by simp[fR.f,fR.begin,dI.told,rh l hl]
theorem oV (p:List az) (m r:List Int) (a3 a4 a5 a6 a7 a8 a9 a10:Int) (h:List Int) (a12:Int) (hp:p.length≤1048576) (hs:∀t∈p,t.f0.length≤1048576) (hm:m.length≤1048576) (hr:r.length≤1048576) (hh:h.length≤1048576):
 eO.f p m r a3 a4 a5 a6 a7 a8 a9 a10 h a12 p m r a3 a4 a5 a6 a7 a8 a9 a10 h a12=some true:=by
 simp[eO.f,eO.begin,dG.told,rC p hp hs,dw.told,lO m hm,lO r hr,fr.told,uB,fX.told,vx,fR.told,vq _ h hh]
def A7 (k:Int):aq:=⟨k,k+1,k+1+1,(⟨k+1+1+1,k+1+1+1+1,k+1+1+1+1+1⟩:iQ)⟩
def nQ (k:Int) (_:aq):Int:=k+1+1+1+1+1+1
def uj (k:Int) (l:List aq):List aq:=px nQ (fun k _=>A7 k) k l
theorem rP (l:List aq) (k:Int):l.foldl nQ k=k+6*l.length:=
 wq l nQ (fun i s=>s=k+6*i) k (by simp) (fun i h s hs=>by unfold nQ;omega)
theorem ry (k:Int) (l:List aq) (h0:0≤k) (h1:k+6*l.length≤1099511627776):cK.f k l=some (k+6*l.length,uj k l):=by
 simp only[cK.f,cK.begin,Tr.ak]
 have e:=uQ l nQ (fun k _=>A7 k) Ad (fun i s=>s=k+6*i) (fun s m=>(s,m)) (fun i s m=>lp cK.tree (.c2 s (i:Int) m)) k (by simp) (fun i h s m hs hm hg=>by
  refine⟨?_,by unfold nQ;omega⟩;rw[aF];have h2:i<m.length:=by omega
  have w1:wr (s+1)=s+1:=b6 (by omega);have w2:wr (s+1+1)=s+1+1:=b6 (by omega);have w3:wr (s+1+1+1)=s+1+1+1:=b6 (by omega);have w4:wr (s+1+1+1+1)=s+1+1+1+1:=b6 (by omega);have w5:wr (s+1+1+1+1+1)=s+1+1+1+1+1:=b6 (by omega);have w6:wr (s+1+1+1+1+1+1)=s+1+1+1+1+1+1:=b6 (by omega);have w7:wr ((i:Int)+1)=((i+1:Nat):Int):=aN (by omega);clear hs h0 h1;simp only[cK.tree,Tr.ag,Tr.an,Tr.gT,Tr.ak,List.length_set,bk h2,bB h2,and_self,decide_true,↓reduceIte,Int.toNat_natCast,List.set_set,hg,w1,w2,w3,w4,w5,w6,w7,List.getD,List.getElem?_set_self h2,List.getElem?_set_self,Option.getD_some,h2];rfl) (fun s m hs hm=>by
  rw[aF];simp only[cK.tree,Tr.ag,Tr.al,hm,cP,Bool.false_eq_true,↓reduceIte])
 rw[rP]at e;exact e
theorem qO (k:Int) (l:List aq) (h0:0≤k) (h1:k+6*l.length≤1099511627776):cL.f (uj k l) k=some (k+6*l.length):=by
 simp only[cL.f,cL.begin,Tr.ak];have hlen:(uj k l).length=l.length:=lF _ _ _ _
 have e:=qQ l nQ (fun k _=>A7 k) Ad (fun i s=>s=k+6*i) (fun s=>s) k (fun i s=>lp cL.tree (.c2 (uj k l) s (i:Int))) (by simp) (fun i h s hs hg=>by
  refine⟨?_,by unfold nQ;omega⟩;rw[aF];have h2:i<(uj k l).length:=by omega
  have w1:wr (s+1)=s+1:=b6 (by omega);have w2:wr (s+1+1)=s+1+1:=b6 (by omega);have w3:wr (s+1+1+1)=s+1+1+1:=b6 (by omega);have w4:wr (s+1+1+1+1)=s+1+1+1+1:=b6 (by omega);have w5:wr (s+1+1+1+1+1)=s+1+1+1+1+1:=b6 (by omega);have w6:wr (s+1+1+1+1+1+1)=s+1+1+1+1+1+1:=b6 (by omega);have w7:wr ((i:Int)+1)=((i+1:Nat):Int):=aN (by omega);clear hs h0 h1;have hg':ah (uj k l) (i:Int)=A7 s:=hg;simp only[cL.tree,Tr.ag,Tr.an,Tr.gT,Tr.ak,bk h2,bB h2,and_self,decide_true,↓reduceIte,hg',A7,w1,w2,w3,w4,w5,w6,w7,Bool.not_true,Bool.false_eq_true];rfl) (fun s hs=>by
  rw[aF];simp only[cL.tree,Tr.ag,Tr.al,hlen,cP,Bool.false_eq_true,↓reduceIte])
 rw[rP]at e;exact e
def wt (l:List az):Nat:=(l.map fun t=>6*t.f0.length+3).sum
def mR (k:Int) (t:az):Int:=k+6*t.f0.length+1+1+1
def AP (k:Int) (t:az):az:=⟨uj k t.f0,(⟨k+6*t.f0.length,k+6*t.f0.length+1,k+6*t.f0.length+1+1⟩:iQ)⟩
def rT (k:Int) (l:List az):List az:=px mR AP k l
theorem ov:∀(l:List az) (k:Int),l.foldl mR k=k+wt l
 | [],k=>by simp[wt]
 | t::l,k=>by
   rw[List.foldl_cons,ov l,mR,wt,wt,List.map_cons,List.sum_cons];omega
theorem zE (l:List az) (i:Nat) (h:i<l.length):wt (l.drop i)=6*l[i].f0.length+3+wt (l.drop (i+1)):=by
 rw[wt,wt,List.drop_eq_getElem_cons h,List.map_cons,List.sum_cons]
theorem rl (k:Int) (l:List az) (hl:l.length≤1048576) (h0:0≤k) (h1:k+wt l≤1099511627776):cJ.f k l=some (k+wt l,rT k l):=by
 simp only[cJ.f,cJ.begin,Tr.ak]
 have e:=uQ l mR AP Ab (fun i s=>0≤s∧s+wt (l.drop i)≤1099511627776) (fun s m=>(s,m)) (fun i s m=>lp cJ.tree (.c2 s (i:Int) m)) k ⟨h0,by simpa using h1⟩ (fun i h s m hs hm hg=>by
  have hw:=zE l i h;refine⟨?_,by unfold mR;omega,by unfold mR;omega⟩;rw[aF];have h2:i<m.length:=by omega
  have hc:=ry s l[i].f0 hs.1 (by omega);have w1:wr (s+6*(l[i].f0.length:Int)+1)=s+6*(l[i].f0.length:Int)+1:=b6 (by omega);have w2:wr (s+6*(l[i].f0.length:Int)+1+1)=s+6*(l[i].f0.length:Int)+1+1:=b6 (by omega);have w3:wr (s+6*(l[i].f0.length:Int)+1+1+1)=s+6*(l[i].f0.length:Int)+1+1+1:=b6 (by omega);have w7:wr ((i:Int)+1)=((i+1:Nat):Int):=aN (by omega);have hg':aV m (i:Int)=l[i]:=hg;clear hs h0 h1 hw hl;simp only[cJ.tree,Tr.ag,Tr.an,Tr.aj,Tr.gT,Tr.ak,cK.told,List.length_set,bk h2,bB h2,and_self,decide_true,↓reduceIte,Int.toNat_natCast,List.set_set,hg',hc,ai,w1,w2,w3,w7,List.getD,List.getElem?_set_self h2,List.getElem?_set_self,Option.getD_some,h2];rfl) (fun s m hs hm=>by
  rw[aF];simp only[cJ.tree,Tr.ag,Tr.al,hm,cP,Bool.false_eq_true,↓reduceIte])
 rw[ov]at e;exact e
theorem qJ (k:Int) (l:List az) (hl:l.length≤1048576) (h0:0≤k) (h1:k+wt l≤1099511627776):cQ.f (rT k l) k=some (k+wt l):=by
 simp only[cQ.f,cQ.begin,Tr.ak];have hlen:(rT k l).length=l.length:=lF _ _ _ _
 have e:=qQ l mR AP Ab (fun i s=>0≤s∧s+wt (l.drop i)≤1099511627776) (fun s=>s) k (fun i s=>lp cQ.tree (.c2 (rT k l) s (i:Int))) ⟨h0,by simpa using h1⟩ (fun i h s hs hg=>by
  have hw:=zE l i h;refine⟨?_,by unfold mR;omega,by unfold mR;omega⟩;rw[aF];have h2:i<(rT k l).length:=by omega
  have hc:=qO s l[i].f0 hs.1 (by omega);have hn:decide (s+6*(l[i].f0.length:Int)<0)=false:=decide_eq_false (by omega);have w1:wr (s+6*(l[i].f0.length:Int)+1)=s+6*(l[i].f0.length:Int)+1:=b6 (by omega);have w2:wr (s+6*(l[i].f0.length:Int)+1+1)=s+6*(l[i].f0.length:Int)+1+1:=b6 (by omega);have w3:wr (s+6*(l[i].f0.length:Int)+1+1+1)=s+6*(l[i].f0.length:Int)+1+1+1:=b6 (by omega);have w7:wr ((i:Int)+1)=((i+1:Nat):Int):=aN (by omega);have hg':aV (rT k l) (i:Int)=AP s l[i]:=hg;clear hs h0 h1 hw hl;simp only[cQ.tree,Tr.ag,Tr.an,Tr.aj,Tr.gT,Tr.ak,cL.told,bk h2,bB h2,and_self,decide_true,↓reduceIte,hg',AP,hc,hn,ai,w1,w2,w3,w7,Bool.not_true,Bool.false_eq_true];rfl) (fun s hs=>by
  rw[aF];simp only[cQ.tree,Tr.ag,Tr.al,hlen,cP,Bool.false_eq_true,↓reduceIte])
 rw[ov]at e;exact e
def oQ (k:Int) (_:Int):Int:=k+1
def sL (k:Int) (l:List Int):List Int:=px oQ (fun k _=>k) k l
theorem ui (l:List Int) (k:Int):l.foldl oQ k=k+l.length:=
 wq l oQ (fun i s=>s=k+i) k (by simp) (fun i h s hs=>by unfold oQ;omega)
theorem kA (k:Int) (l:List Int) (h0:0≤k) (h1:k+l.length≤1099511627776):cH.f k l=some (k+l.length,sL k l):=by
 simp only[cH.f,cH.begin,Tr.ak]
 have e:=uQ l oQ (fun k _=>k) 0 (fun i s=>s=k+i) (fun s m=>(s,m)) (fun i s m=>lp cH.tree (.c2 s (i:Int) m)) k (by simp) (fun i h s m hs hm hg=>by
  refine⟨?_,by unfold oQ;omega⟩;rw[aF];have h2:i<m.length:=by omega
  have w1:wr (s+1)=s+1:=b6 (by omega);have w7:wr ((i:Int)+1)=((i+1:Nat):Int):=aN (by omega);simp only[cH.tree,Tr.ag,Tr.an,Tr.ak,bk h2,bB h2,and_self,decide_true,↓reduceIte,Int.toNat_natCast,w1,w7,oQ]) (fun s m hs hm=>by
  rw[aF];simp only[cH.tree,Tr.ag,Tr.al,hm,cP,Bool.false_eq_true,↓reduceIte])
 rw[ui]at e;exact e
theorem kB (k:Int) (l:List Int) (h0:0≤k) (h1:k+l.length≤1099511627776):cF.f (sL k l) k=some (k+l.length):=by
 simp only[cF.f,cF.begin,Tr.ak];have hlen:(sL k l).length=l.length:=lF _ _ _ _
 have e:=qQ l oQ (fun k _=>k) 0 (fun i s=>s=k+i) (fun s=>s) k (fun i s=>lp cF.tree (.c2 (sL k l) s (i:Int))) (by simp) (fun i h s hs hg=>by
  refine⟨?_,by unfold oQ;omega⟩;rw[aF];have h2:i<(sL k l).length:=by omega
  have w1:wr (s+1)=s+1:=b6 (by omega);have w7:wr ((i:Int)+1)=((i+1:Nat):Int):=aN (by omega);have hg':eG (sL k l) (i:Int)=s:=hg;simp only[cF.tree,Tr.ag,Tr.an,Tr.ak,bk h2,bB h2,and_self,decide_true,↓reduceIte,hg',w1,w7,Bool.not_true,Bool.false_eq_true,oQ]) (fun s hs=>by
  rw[aF];simp only[cF.tree,Tr.ag,Tr.al,hlen,cP,Bool.false_eq_true,↓reduceIte])
 rw[ui]at e;exact e
theorem ni (a0 a1 a2 a3 a4 a5 a6 a7 a8:Int) (p:List az) (m r h:List Int) (hp:p.length≤1048576) (hw:wt p≤100000000) (hm:m.length≤1048576) (hr:r.length≤1048576) (hh:h.length≤1048576):
 ef.f a0 a1 a2 a3 a4 a5 a6 a7 a8 1 p m r h=some (1+(wt p:Int)+m.length+r.length+h.length,rT 1 p,sL (1+wt p) m,sL (1+wt p+m.length) r,sL (1+wt p+m.length+r.length) h):=by
 simp[ef.f,ef.begin,dh.told,dh.f,dh.begin,cJ.told,rl 1 p hp (by omega) (by omega),cH.told,kA (1+wt p) m (by omega) (by omega),kA (1+wt p+m.length) r (by omega) (by omega),fb.told,fb.f,fb.begin,dk.told,dk.f,dk.begin,kA (1+wt p+m.length+r.length) h (by omega) (by omega)]
theorem sG (a3 a4 a5 a6 a7 a8 a9 a10 a12:Int) (p:List az) (m r h:List Int) (hp:p.length≤1048576) (hw:wt p≤100000000) (hm:m.length≤1048576) (hr:r.length≤1048576) (hh:h.length≤1048576):
 ek.f (rT 1 p) (sL (1+wt p) m) (sL (1+wt p+m.length) r) a3 a4 a5 a6 a7 a8 a9 a10 (sL (1+wt p+m.length+r.length) h) a12 1=some (1+(wt p:Int)+m.length+r.length+h.length):=by
 have n1:¬(1+(wt p:Int)<0):=by omega
 have n2:¬(1+(wt p:Int)+m.length<0):=by omega
 have n3:¬(1+(wt p:Int)+m.length+r.length<0):=by omega
 have n4:¬(1+(wt p:Int)+m.length+r.length+h.length<0):=by omega
 simp only[ek.f,ek.begin,Tr.aj,Tr.ag,Tr.al,di.told,di.f,di.begin,cQ.told,qJ 1 p hp (by omega) (by omega),cF.told,kB (1+wt p) m (by omega) (by omega),kB (1+wt p+m.length) r (by omega) (by omega),fe.told,fe.f,fe.begin,dg.told,dg.f,dg.begin,kB (1+wt p+m.length+r.length) h (by omega) (by omega),ai,decide_eq_true_eq,n1,n2,n3,n4,↓reduceIte]
def pA (a b c:Int):Bool:=gv a 1 7&&(gv b (-8) 999&&gv c (-8) 999)
theorem g9 (a b c:Int):cf.f a b c=some (pA a b c):=by
 simp only[cf.f,cf.begin,Tr.aj,Tr.ag,Tr.al,aH.told,du,dN.told,dN.f,dN.begin,ai,pA];cases gv a 1 7<;>cases gv b (-8) 999<;>rfl
theorem iC (a b c:Int):cR.f a b c=some (pA a b c):=by
 simp only[cR.f,cR.begin,Tr.aj,Tr.ag,Tr.al,aK.told,dd,dE.told,dE.f,dE.begin,ai,pA];cases gv a 1 7<;>cases gv b (-8) 999<;>rfl
def nm (x0 x1 x2 x3 x4 x5:Int):Bool:=
 if x0=1 then decide (x2=0)&&(gv x1 0 7&&pA x3 x4 x5)
 else if x0=2 then(decide (x3=0)&&(decide (x4=0)&&decide (x5=0)))&&(gv x1 0 7&&gv x2 0 3)
 else if x0=3∨x0=4 then decide (x1=0)&&(decide (x2=0)&&pA x3 x4 x5)
 else if x0=5 then decide (x1=0)&&((decide (x3=0)&&(decide (x4=0)&&decide (x5=0)))&&gv x2 1 5)
 else if x0=6 then decide (x1=0)&&(decide (x2=0)&&(decide (x3=0)&&(decide (x4=0)&&decide (x5=0))))
 else false
theorem BF (a b c d e f g h i j k l:Int):lp eM.tree (.Bw a b c d e f g h i j k l)=some (g,h,i,j,k,l):=by
 rw[aF];rfl
theorem vF (x0 x1 x2 x3 x4 x5:Int):fQ.f x0 x1 x2 x3 x4 x5=some (nm x0 x1 x2 x3 x4 x5):=by
 unfold nm;simp only[fQ.f,fQ.begin,eM.told,eM.f,eM.begin,Tr.aj,Tr.ag,Tr.al,Tr.bE,Tr.gT,Tr.ak,BF,aH.told,du,cf.told,g9,ai,decide_eq_true_eq]
 by_cases h1:x0=1
 ·simp only[h1,↓reduceIte,ai]
  by_cases h2:x2=0<;>cases gv x1 0 7<;>simp[h2]
 by_cases h2:x0=2
 ·simp only[h2,↓reduceIte,ai]
  by_cases g3:x3=0<;>by_cases g4:x4=0<;>by_cases g5:x5=0<;>cases gv x1 0 7<;>simp[g3,g4,g5]
 by_cases h3:x0=3
 ·simp only[h3,↓reduceIte,ai]
  by_cases g1:x1=0<;>by_cases g2:x2=0<;>simp[g1,g2]
 by_cases h4:x0=4
 ·simp only[h4,↓reduceIte,ai]
  by_cases g1:x1=0<;>by_cases g2:x2=0<;>simp[g1,g2]
 by_cases h5:x0=5
 ·simp only[h5,↓reduceIte,ai]
  by_cases g1:x1=0<;>by_cases g3:x3=0<;>by_cases g4:x4=0<;>by_cases g5:x5=0<;>simp[g1,g3,g4,g5]
 simp only[h1,h2,h3,h4,h5,↓reduceIte,ai,or_self]
 by_cases g1:x1=0<;>by_cases g2:x2=0<;>by_cases g3:x3=0<;>by_cases g4:x4=0<;>by_cases g5:x5=0<;>by_cases h6:x0=6<;>simp[g1,g2,g3,g4,g5,h6]
theorem uf (x0 x1 x2 x3 x4 x5:Int):lp dx.tree (.c5 x0 x1 x2 x3 x4 x5)=some (if x0=2 then gv x2 0 3 else if x0=5 then gv x2 1 5 else decide (x2=0)):=by
 rw[aF];simp only[dx.tree,Tr.aj,Tr.ag,Tr.al,bS.told,bS.f,bS.begin,aK.told,dd,ai,decide_eq_true_eq];split
 ·rfl
 ·split<;>rfl
theorem uh (x0 x1 x2 x3 x4 x5:Int):lp dx.tree (.c3 x0 x1 x2 x3 x4 x5)=some (if x0=1∨x0=3∨x0=4 then pA x3 x4 x5&&decide (x2=0)else(decide (x3=0)&&(decide (x4=0)&&decide (x5=0)))&&(if x0=2 then gv x2 0 3 else if x0=5 then gv x2 1 5 else decide (x2=0))):=by
 rw[aF];simp only[dx.tree,Tr.aj,Tr.ag,Tr.al,Tr.gT,Tr.ak,cS.told,cS.f,cS.begin,cR.told,iC,uf,ai,decide_eq_true_eq]
 by_cases h1:x0=1
 ·cases hx:pA x3 x4 x5<;>simp[h1]
 by_cases h3:x0=3
 ·cases hx:pA x3 x4 x5<;>simp[h3]
 by_cases h4:x0=4
 ·cases hx:pA x3 x4 x5<;>simp[h4]
 by_cases g3:x3=0<;>by_cases g4:x4=0<;>by_cases g5:x5=0<;>simp[h1,h3,h4,g3,g4,g5]
theorem oU (x0 x1 x2 x3 x4 x5:Int):dx.f x0 x1 x2 x3 x4 x5=some (nm x0 x1 x2 x3 x4 x5):=by
 unfold nm;simp only[dx.f,dx.begin,Tr.aj,Tr.ag,Tr.al,Tr.gT,Tr.ak,bT.told,bT.f,bT.begin,dY.told,dY.f,dY.begin,aK.told,dd,uh,ai,decide_eq_true_eq]
 by_cases h1:x0=1
 ·subst h1;rw[show gv 1 1 6=true from rfl];cases gv x1 0 7<;>cases pA x3 x4 x5<;>simp
 by_cases h2:x0=2
 ·subst h2;rw[show gv 2 1 6=true from rfl];cases gv x1 0 7<;>simp
 by_cases h3:x0=3
 ·subst h3;rw[show gv 3 1 6=true from rfl]
  by_cases g1:x1=0<;>cases pA x3 x4 x5<;>simp[g1]
 by_cases h4:x0=4
 ·subst h4;rw[show gv 4 1 6=true from rfl]
  by_cases g1:x1=0<;>cases pA x3 x4 x5<;>simp[g1]
 by_cases h5:x0=5
 ·subst h5;rw[show gv 5 1 6=true from rfl]
  by_cases g1:x1=0<;>simp[g1]
 by_cases h6:x0=6
 ·subst h6;rw[show gv 6 1 6=true from rfl]
  by_cases g1:x1=0<;>by_cases g2:x2=0<;>simp[g1,g2]
 ·have hb:gv x0 1 6=false:=by
   unfold gv
   by_cases q:x0≥1
   ·rw[decide_eq_true q,decide_eq_false (by omega)];rfl
   ·rw[decide_eq_false q,Bool.false_and]
  simp[hb,h1,h2,h3,h4,h5,h6]
def dep (x0 d:Int):Int:=if x0=4∨x0=5 then d+1 else if x0=6 then d-1 else d
def okB (n:Nat):List aq→Int→Bool
 | [],d=>decide (d=0)&&decide ((n:Int)≤24)
 | s::l,d=>nm s.f0 s.f1 s.f2 s.f3.f0 s.f3.f1 s.f3.f2&&(gv (dep s.f0 d) 0 3&&okB n l (dep s.f0 d))
def wu (d:Int) (s:aq):Int ⊕ Bool:=if nm s.f0 s.f1 s.f2 s.f3.f0 s.f3.f1 s.f3.f2=true then(if gv (dep s.f0 d) 0 3=true then .inl (dep s.f0 d)else .inr false)else .inr false
theorem tj (n:Nat):∀(l:List aq) (d:Int),scan wu (fun d=>decide (d=0)&&decide ((n:Int)≤24)) l d=okB n l d
 | [],d=>rfl
 | s::l,d=>by
   unfold scan wu okB;cases nm s.f0 s.f1 s.f2 s.f3.f0 s.f3.f1 s.f3.f2
   ·rfl
   ·cases gv (dep s.f0 d) 0 3
    ·rfl
    ·exact tj n l _
theorem AT {x d:Int} (h0:0≤d) (h1:d≤3):wr (d+1)=d+1∧wr (d-1)=d-1∧wr (d+1-1)=d+1-1:=⟨b6 (by omega),b6 (by omega),b6 (by omega)⟩
theorem ca {x a b:Int}:gv x a b=true↔a≤x∧x≤b:=by simp[gv]
theorem jY (l:List aq) (hl:l.length≤1048576):bt.f l=some (okB l.length l 0):=by
 simp only[bt.f,bt.begin,Tr.ak];rw[←tj];refine rf l wu _ (fun _ d=>0≤d∧d≤3) (fun i d=>lp bt.tree (.c3 l d (i:Int))) 0 ⟨by omega,by omega⟩ (fun i h d hd=> ?_) (fun d hd=> ?_)
 ·obtain⟨w1,w2,w3⟩:=AT (x:=d) hd.1 hd.2;have w7:wr ((i:Int)+1)=((i+1:Nat):Int):=aN (by omega)
  have step:lp bt.tree (.c3 l d (i:Int))=if nm l[i].f0 l[i].f1 l[i].f2 l[i].f3.f0 l[i].f3.f1 l[i].f3.f2=true then(if gv (dep l[i].f0 d) 0 3=true then lp bt.tree (.c3 l (dep l[i].f0 d) ((i+1:Nat):Int))else some false)else some false:=by
   rw[aF];simp only[bt.tree,Tr.ag,Tr.an,Tr.aj,Tr.al,Tr.ak,fQ.told,vF,aH.told,du,aX h,bk h,bB h,and_self,decide_true,↓reduceIte,ai,w1,w2,w7];cases nm l[i].f0 l[i].f1 l[i].f2 l[i].f3.f0 l[i].f3.f1 l[i].f3.f2
   ·rfl
   ·unfold dep
    by_cases h4:l[i].f0=4
    ·cases hb:gv (d+1) 0 3<;>simp[h4,hb]
    ·by_cases h5:l[i].f0=5
     ·cases hb:gv (d+1) 0 3<;>simp[h4,h5,hb]
     ·by_cases h6:l[i].f0=6
      ·cases hb:gv (d-1) 0 3<;>simp[h4,h5,h6,hb]
      ·cases hb:gv d 0 3<;>simp[h4,h5,h6,hb]
  rw[step];unfold wu;cases nm l[i].f0 l[i].f1 l[i].f2 l[i].f3.f0 l[i].f3.f1 l[i].f3.f2
  ·exact⟨fun s' hs'=>(by cases hs'),fun r hr=>(by cases hr;rfl)⟩
  ·cases hb:gv (dep l[i].f0 d) 0 3
   ·exact⟨fun s' hs'=>(by cases hs'),fun r hr=>(by cases hr;rfl)⟩
   ·exact⟨fun s' hs'=>(by cases hs';exact⟨rfl,ca.mp hb⟩),fun r hr=>(by cases hr)⟩
 ·rw[aF];simp only[bt.tree,Tr.ag,Tr.al,cP,Bool.false_eq_true,↓reduceIte];cases decide (d=0)<;>rfl
theorem jk (l:List aq) (hl:l.length≤1048576):bQ.f l=some (okB l.length l 0):=by
 simp only[bQ.f,bQ.begin,Tr.ak];rw[←tj];refine rf l wu _ (fun _ d=>0≤d∧d≤3) (fun i d=>lp bQ.tree (.c3 l d l (List.length l:Int) (i:Int))) 0 ⟨by omega,by omega⟩ (fun i h d hd=> ?_) (fun d hd=> ?_)
 ·obtain⟨w1,w2,w3⟩:=AT (x:=d) hd.1 hd.2;have w7:wr ((i:Int)+1)=((i+1:Nat):Int):=aN (by omega);have rY:lp bQ.tree .rY=some false:=by rw[aF];rfl
  have tst:∀(x:Int) (A:Option Bool),(if x<0 then some false else if x>3 then some false else A)=if gv x 0 3=true then A else some false:=fun x A=>by
   by_cases q:x<0
   ·rw[if_pos q,if_neg (by rw[ca];omega)]
   ·rw[if_neg q]
    by_cases q':x>3
    ·rw[if_pos q',if_neg (by rw[ca];omega)]
    ·rw[if_neg q',if_pos (by rw[ca];omega)]
  have step:lp bQ.tree (.c3 l d l (List.length l:Int) (i:Int))=if nm l[i].f0 l[i].f1 l[i].f2 l[i].f3.f0 l[i].f3.f1 l[i].f3.f2=true then(if gv (dep l[i].f0 d) 0 3=true then lp bQ.tree (.c3 l (dep l[i].f0 d) l (List.length l:Int) ((i+1:Nat):Int))else some false)else some false:=by
   rw[aF];simp only[bQ.tree,Tr.ag,Tr.an,Tr.aj,Tr.al,Tr.ak,dx.told,oU,bJ.told,bJ.f,bJ.begin,rY,aX h,bk h,bB h,and_self,decide_true,↓reduceIte,ai,w1,w2,w3,w7,decide_eq_true_eq,tst];cases nm l[i].f0 l[i].f1 l[i].f2 l[i].f3.f0 l[i].f3.f1 l[i].f3.f2
   ·rfl
   ·unfold dep
    by_cases h4:l[i].f0=4
    ·simp[h4]
    ·by_cases h5:l[i].f0=5
     ·simp[h4,h5]
     ·by_cases h6:l[i].f0=6
      ·simp[h4,h5,h6]
      ·simp[h4,h5,h6]
  rw[step];unfold wu;cases nm l[i].f0 l[i].f1 l[i].f2 l[i].f3.f0 l[i].f3.f1 l[i].f3.f2
  ·exact⟨fun s' hs'=>(by cases hs'),fun r hr=>(by cases hr;rfl)⟩
  ·cases hb:gv (dep l[i].f0 d) 0 3
   ·exact⟨fun s' hs'=>(by cases hs'),fun r hr=>(by cases hr;rfl)⟩
   ·exact⟨fun s' hs'=>(by cases hs';exact⟨rfl,ca.mp hb⟩),fun r hr=>(by cases hr)⟩
 ·rw[aF];simp only[bQ.tree,Tr.ag,Tr.al,cP,Bool.false_eq_true,↓reduceIte];cases decide (d=0)<;>rfl
def isVal (x:Int):Bool:=gv x (-1000000) 1000000
theorem nK (x:Int):eA.f x=some (isVal x):=by
 simp only[eA.f,eA.begin,Tr.aj,Tr.al,aH.told,du,ai,isVal]
theorem nZ (x:Int):eC.f x=some (isVal x):=by
 simp only[eC.f,eC.begin,Tr.aj,Tr.al,aK.told,dd,ai,isVal]
theorem j7 (l:List Int) (hl:l.length≤1048576):bX.f l=some (l.all isVal):=by
 simp only[bX.f,bX.begin,Tr.ak]
 have e:=qE l isVal true (fun i=>lp bX.tree (.c2 l (i:Int))) (fun i h=>by
  rw[aF];simp only[bX.tree,Tr.ag,Tr.an,Tr.aj,Tr.al,Tr.ak,eA.told,nK,ai,aX h,bk h,bB h,and_self,decide_true,↓reduceIte,aN (show i<4611686018427387904 by omega)];cases isVal l[i]<;>rfl) (by
  rw[aF];simp only[bX.tree,Tr.ag,Tr.al,cP,Bool.false_eq_true,↓reduceIte])
 rw[Bool.and_true]at e;exact e
theorem zG {A:Type} (l:List A) (p:A→Bool):(!(l.any fun x=> !p x))=l.all p:=by
 induction l with
 | nil=>rfl
 | cons a l ih=>rw[List.any_cons,List.all_cons,←ih];cases p a<;>simp
theorem jy (l:List Int) (hl:l.length≤1048576):ck.f l=some (l.all isVal):=by
 obtain⟨r,hr,hd⟩:=rF l (fun x=> !isVal x) (fun i=>lp aB.tree (.c2 l (List.length l:Int) (i:Int))) (fun i h=>by
  rw[aF];simp only[aB.tree,Tr.ag,Tr.an,Tr.aj,Tr.al,Tr.ak,df.told,df.f,df.begin,eC.told,nZ,ai,aX h,bk h,bB h,and_self,decide_true,↓reduceIte,aN (show i<4611686018427387904 by omega)]) (by
  rw[aF];simp only[aB.tree,Tr.ag,Tr.al,cP,Bool.false_eq_true,↓reduceIte])
 have hr':lp aB.tree (.c2 l (List.length l:Int) 0)=some r:=hr;simp only[ck.f,ck.begin,Tr.aj,Tr.al,aI.told,aI.f,aI.begin,aB.told,aB.f,aB.begin,Tr.ak,hr',ai,hd,zG]
theorem oT (l:List Int) (hl:l.length≤1048576):fh.f l=some (l.all isVal&&decide ((l.length:Int)=8)):=by
 simp only[fh.f,fh.begin,Tr.aj,Tr.ag,Tr.al,ck.told,jy l hl,ai];cases decide ((l.length:Int)=8)<;>simp
theorem fits {A B:Type} (l:List A) (m:List B) (hl:l.length≤1048576) (hm:m.length≤1048576) (k:Nat) (hk:k≤1000):((l.length:Int)+(m.length:Int))*(k:Nat)≤room:=by
 unfold room;have h1:((l.length:Int)+(m.length:Int))*(k:Int)≤2097152*(k:Int):=Int.mul_le_mul_of_nonneg_right (by omega) (by omega);omega
theorem gi (l:List Int) (hl:l.length≤1048576):bc.f l=some l:=by
 simp only[bc.f,bc.begin,Tr.wF,Tr.al,Tr.an,fits ([]:List Int) l (by simp) hl 8 (by omega),↓reduceIte,List.nil_append];cases l<;>simp
theorem lM (l:List aq) (hl:l.length≤1048576):bw.f l=some l:=by
 simp only[bw.f,bw.begin,Tr.wF,Tr.al,Tr.an,fits ([]:List aq) l (by simp) hl 48 (by omega),↓reduceIte,List.nil_append];cases l<;>simp
def BT (t:az):Bool:=okB t.f0.length t.f0 0&&pA t.f1.f0 t.f1.f1 t.f1.f2
def vt (l:List az):Bool:=l.all BT&&gv (l.length:Int) 1 6
theorem rm (l:List az) (hl:l.length≤1048576) (hs:∀t∈l,t.f0.length≤1048576):cO.f l=some (vt l):=by
 simp only[cO.f,cO.begin,Tr.ak];refine qE l BT _ (fun i=>lp cO.tree (.c2 l (i:Int))) (fun i h=> ?_) ?_
 ·rw[aF];simp only[cO.tree,Tr.ag,Tr.an,Tr.aj,Tr.al,Tr.ak,bt.told,jY _ (hs _ (List.getElem_mem h)),cf.told,g9,ai,aX h,bk h,bB h,and_self,decide_true,↓reduceIte,aN (show i<4611686018427387904 by omega),BT];rcases Bool.eq_false_or_eq_true (okB l[i].f0.length l[i].f0 0)with q | q<;>rcases Bool.eq_false_or_eq_true (pA l[i].f1.f0 l[i].f1.f1 l[i].f1.f2)with q' | q'<;>simp[q,q']
 ·rw[aF];simp only[cO.tree,Tr.ag,Tr.aj,Tr.al,aH.told,du,ai,cP,Bool.false_eq_true,↓reduceIte]
theorem mo (l:List az) (hl:l.length≤1048576) (hs:∀t∈l,t.f0.length≤1048576):da.f l=some (vt l):=by
 obtain⟨r,hr,hd⟩:=rF l (fun x=> !BT x) (fun i=>lp ao.tree (.c2 l (List.length l:Int) (i:Int))) (fun i h=>by
  rw[aF];simp only[ao.tree,Tr.ag,Tr.an,Tr.aj,Tr.al,Tr.ak,dj.told,dj.f,dj.begin,de.told,de.f,de.begin,bQ.told,jk _ (hs _ (List.getElem_mem h)),cR.told,iC,ai,aX h,bk h,bB h,and_self,decide_true,↓reduceIte,aN (show i<4611686018427387904 by omega),BT];rcases Bool.eq_false_or_eq_true (okB l[i].f0.length l[i].f0 0)with q | q<;>rcases Bool.eq_false_or_eq_true (pA l[i].f1.f0 l[i].f1.f1 l[i].f1.f2)with q' | q'<;>simp[q,q']) (by
  rw[aF];simp only[ao.tree,Tr.ag,Tr.al,cP,Bool.false_eq_true,↓reduceIte])
 have hr':lp ao.tree (.c2 l (List.length l:Int) 0)=some r:=hr;simp only[da.f,da.begin,Tr.aj,Tr.ag,Tr.al,aK.told,dd,aA.told,aA.f,aA.begin,ao.told,ao.f,ao.begin,Tr.ak,hr',ai,hd,zG,vt];cases gv (l.length:Int) 1 6<;>simp
def iH (a b c d:Int):Bool:=gv b 1 5000&&(gv a 0 b&&(gv c 1 b&&gv d 0 100))
theorem td (a b c d:Int):fl.f a b c d=some (iH a b c d):=by
 simp only[fl.f,fl.begin,Tr.aj,Tr.ag,Tr.al,aH.told,du,ai,iH];cases gv b 1 5000<;>cases gv a 0 b<;>cases gv c 1 b<;>rfl
theorem uy (a b c d:Int):fo.f a b c d=some (iH a b c d):=by
 simp only[fo.f,fo.begin,Tr.aj,Tr.ag,Tr.al,aK.told,dd,ai,iH];cases gv b 1 5000<;>cases gv a 0 b<;>cases gv c 1 b<;>rfl
theorem tX (l:List az) (hl:l.length≤1048576) (hs:∀t∈l,t.f0.length≤1048576):cT.f l=some l:=by
 simp only[cT.f,cT.begin,Tr.ak]
 have e:=yB l (fun t:az=>t) id (fun i s=>lp cT.tree (.c3 l [] s (i:Int))) [] (fun i h=>by
  rw[aF];have hr:aV l (i:Int)=l[i]:=aX h;have hin:=bB h;have hlt:=bk h;have h1:(([]:List aq).length+(l[i].f0.length:Int))*(48:Nat)≤room:=fits [] l[i].f0 (by simp) (hs _ (List.getElem_mem h)) 48 (by omega);have h2:∀t:az,((([]++(l.take i).map (fun t:az=>t)).length:Int)+(([t]:List az).length:Int))*(48:Nat)≤room:=fun t=>fits _ [t] (by simp;omega) (by simp) 48 (by omega);generalize ([]++(l.take i).map (fun t:az=>t))=acc at h2⊢
  have c4:∀s,lp cT.tree (.c4 l [] s (i:Int))=lp cT.tree (.c3 l [] s ((i+1:Nat):Int)):=fun s=>by
   rw[aF];simp only[cT.tree,Tr.ak,aN (show i<4611686018427387904 by omega)]
  simp only[cT.tree,Tr.ag,Tr.an,Tr.iu,Tr.bE,Tr.gT,Tr.ak,hr,hin,hlt,and_self,decide_true,↓reduceIte,h1,h2,c4,List.nil_append,fy]) (fun s=>by
  rw[aF];simp only[cT.tree,Tr.ag,Tr.al,cP,Bool.false_eq_true,↓reduceIte,id])
 rw[List.map_id'']at e
 ·exact e
 ·exact fun _=>rfl
theorem pb (l:List az) (hl:l.length≤1048576) (hs:∀t∈l,t.f0.length≤1048576):bY.f l=some l:=by
 simp only[bY.f,bY.begin,Tr.ak]
 have e:=yB l (fun t:az=>t) id (fun i s=>lp bY.tree (.c3 [] s l (List.length l:Int) (i:Int))) [] (fun i h=>by
  rw[aF];have hr:aV l (i:Int)=l[i]:=aX h;have hin:=bB h;have hlt:=bk h;have h2:∀t:az,((([]++(l.take i).map (fun t:az=>t)).length:Int)+(([t]:List az).length:Int))*(48:Nat)≤room:=fun t=>fits _ [t] (by simp;omega) (by simp) 48 (by omega);generalize ([]++(l.take i).map (fun t:az=>t))=acc at h2⊢;simp only[bY.tree,Tr.ag,Tr.an,Tr.iu,Tr.bE,Tr.aj,Tr.al,Tr.ak,eJ.told,eJ.f,eJ.begin,bw.told,lM _ (hs _ (List.getElem_mem h)),ai,hr,hin,hlt,and_self,decide_true,↓reduceIte,h2,fy,aN (show i<4611686018427387904 by omega)]) (fun s=>by
  rw[aF];simp only[bY.tree,Tr.ag,Tr.al,cP,Bool.false_eq_true,↓reduceIte,id])
 rw[List.map_id'']at e
 ·exact e
 ·exact fun _=>rfl
theorem Cs (l:List fK) (n:Nat) (h:xq l≤n):l.length≤n∧(∀t∈l,t.f0.length≤n)∧wt (l.map np)≤6*n:=by
 have key:∀l:List fK,(∀t∈l,t.f0.length≤(l.map fun t=>t.f0.length).sum)∧wt (l.map np)=6*(l.map fun t=>t.f0.length).sum+3*l.length:=by
  intro l
  induction l with
  | nil=>exact⟨by simp,rfl⟩
  | cons t l ih=>
    refine⟨fun u hu=> ?_,?_⟩
    ·rw[List.map_cons,List.sum_cons];rcases List.mem_cons.mp hu with rfl | hu
     ·omega
     ·have:=ih.1 u hu;omega
    ·have h2:=ih.2;unfold wt at h2⊢;rw[List.map_cons,List.map_cons,List.sum_cons,h2,List.map_cons,List.sum_cons,List.length_cons];show 6*(t.f0.map zd).length+3+_=_;rw[List.length_map];omega
 obtain⟨h1,h2⟩:=key l;unfold xq at h;exact⟨by omega,fun t ht=>by have:=h1 t ht;omega,by omega⟩
def pack (a b c:Int):Int:=if(gv a 0 5&&(gv b 0 8&&gv c 0 24))=true then a+8*(b+16*c)else -1
theorem zQ (a b c:Int) (h:(gv a 0 5&&(gv b 0 8&&gv c 0 24))=true):wr (a+wr (8*wr (b+wr (16*c))))=a+8*(b+16*c):=by
 rw[Bool.and_eq_true,Bool.and_eq_true,ca,ca,ca]at h;have w1:wr (16*c)=16*c:=b6 (by omega);have w2:wr (b+16*c)=b+16*c:=b6 (by omega);have w3:wr (8*(b+16*c))=8*(b+16*c):=b6 (by omega);have w4:wr (a+8*(b+16*c))=a+8*(b+16*c):=b6 (by omega);rw[w1,w2,w3,w4]
theorem BH (a b c:Int):pack a b c≤3141:=by
 unfold pack;split
 ·rename_i h;rw[Bool.and_eq_true,Bool.and_eq_true,ca,ca,ca]at h;omega
 ·omega
theorem iP (a b c:Int):bu.f a b c=some (pack a b c):=by
 simp only[bu.f,bu.begin,Tr.aj,Tr.ag,Tr.al,aH.told,du,ai];have h:=zQ a b c;unfold pack
 by_cases q:(gv a 0 5&&(gv b 0 8&&gv c 0 24))=true
 ·rw[h q];rw[Bool.and_eq_true,Bool.and_eq_true]at q;simp[q.1,q.2.1,q.2.2]
 ·clear h;cases qa:gv a 0 5<;>cases qb:gv b 0 8<;>cases qc:gv c 0 24<;>simp_all
theorem iO (a b c:Int):bo.f a b c=some (pack a b c):=by
 simp only[bo.f,bo.begin,Tr.aj,Tr.ag,Tr.al,aK.told,dd,ai];have h:=zQ a b c;unfold pack
 by_cases q:(gv a 0 5&&(gv b 0 8&&gv c 0 24))=true
 ·rw[h q];rw[Bool.and_eq_true,Bool.and_eq_true]at q;simp[q.1,q.2.1,q.2.2]
 ·clear h;cases qa:gv a 0 5<;>cases qb:gv b 0 8<;>cases qc:gv c 0 24<;>simp_all
def unpack (c:Int):Int×Int×Int:=
 if c<0 then(-1,-1,-1)else if pack (Int.tmod c 8) (Int.tmod (wr (Int.tdiv c 8)) 16) (wr (Int.tdiv c 128))=c then(Int.tmod c 8,Int.tmod (wr (Int.tdiv c 8)) 16,wr (Int.tdiv c 128))else(-1,-1,-1)
theorem iy (c:Int):bg.f c=some (unpack c):=by
 simp only[bg.f,bg.begin,Tr.aj,Tr.ag,Tr.an,Tr.al,bu.told,iP,ai,unpack,decide_eq_true_eq]
 by_cases h:c<0
 ·rw[if_pos h,if_pos h]
 rw[if_neg h,if_neg h]
 by_cases h2:c>100000
 ·have:=BH (Int.tmod c 8) (Int.tmod (wr (Int.tdiv c 8)) 16) (wr (Int.tdiv c 128));rw[if_pos h2,if_neg (by omega)]
 rw[if_neg h2]
 by_cases q:pack (Int.tmod c 8) (Int.tmod (wr (Int.tdiv c 8)) 16) (wr (Int.tdiv c 128))=c<;>simp[q]
theorem iA (c:Int):bj.f c=some (unpack c):=by
 simp only[bj.f,bj.begin,Tr.aj,Tr.ag,Tr.an,Tr.al,bo.told,iO,ai,unpack,decide_eq_true_eq]
 by_cases h:c<0
 ·simp[h]
 by_cases q:pack (Int.tmod c 8) (Int.tmod (wr (Int.tdiv c 8)) 16) (wr (Int.tdiv c 128))=c<;>simp[q,h]
theorem ox (c:Int):unpack c=(-1,-1,-1)∨(0≤(unpack c).1∧(unpack c).1≤5∧0≤(unpack c).2.1∧(unpack c).2.1≤8∧0≤(unpack c).2.2∧(unpack c).2.2≤24):=by
 unfold unpack;split
 ·exact .inl rfl
 split
 ·rename_i h q
  right
  unfold pack at q;split at q
  ·rename_i p;rw[Bool.and_eq_true,Bool.and_eq_true,ca,ca,ca]at p;exact⟨p.1.1,p.1.2,p.2.1.1,p.2.1.2,p.2.2.1,p.2.2.2⟩
  ·omega
 ·exact .inl rfl
def jc (m:List Int) (i:Nat):Bool:=gv (eG m (9+2*(i:Int))) 0 7&&isVal (eG m (9+2*(i:Int)+1))
theorem tQ (m:List Int) (hm:m.length=49) (i n:Nat) (h:i<n) (hn:n≤8):
 wr (2*(i:Int))=2*(i:Int)∧wr (9+2*(i:Int))=9+2*(i:Int)∧wr (9+2*(i:Int)+1)=9+2*(i:Int)+1∧((0:Int)≤9+2*(i:Int)∧9+2*(i:Int)<(m.length:Int))∧((0:Int)≤9+2*(i:Int)+1∧9+2*(i:Int)+1<(m.length:Int))∧wr ((i:Int)+1)=((i+1:Nat):Int):=
 ⟨b6 (by omega),b6 (by omega),b6 (by omega),by omega,by omega,aN (by omega)⟩
theorem u7 (m:List Int) (hm:m.length=49) (n:Nat) (hn:n≤8):lp fj.tree (.c7 m (n:Int) 0)=some ((List.range n).all (jc m)):=by
 have e:=qE (List.range n) (jc m) true (fun i=>lp fj.tree (.c7 m (n:Int) (i:Int))) (fun i h=>by
  rw[List.length_range]at h;obtain⟨w1,w2,w3,n1,n2,w4⟩:=tQ m hm i n h hn;rw[aF,List.getElem_range];simp only[fj.tree,Tr.ag,Tr.an,Tr.aj,Tr.al,Tr.ak,w1,w2,w3,w4,n1,n2,bk h,and_self,↓reduceIte,aH.told,du,eA.told,nK,ai,jc];rcases Bool.eq_false_or_eq_true (gv (eG m (9+2*(i:Int))) 0 7)with q | q<;>rcases Bool.eq_false_or_eq_true (isVal (eG m (9+2*(i:Int)+1)))with q' | q'<;>simp only[q,q',Bool.not_true,Bool.not_false,Bool.and_self,Bool.and_true,Bool.and_false,Bool.false_eq_true,↓reduceIte]) (by
  rw[aF,List.length_range];simp only[fj.tree,Tr.ag,Tr.al,cP,Bool.false_eq_true,↓reduceIte])
 rw[Bool.and_true]at e;exact e
theorem ve (m:List Int) (hm:m.length=49) (n:Nat) (hn:n≤8):lp fi.tree (.c7 m (n:Int) 0)=some ((List.range n).all (jc m)):=by
 have e:=qE (List.range n) (jc m) true (fun i=>lp fi.tree (.c7 m (n:Int) (i:Int))) (fun i h=>by
  rw[List.length_range]at h;obtain⟨w1,w2,w3,n1,n2,w4⟩:=tQ m hm i n h hn;rw[aF,List.getElem_range];simp only[fi.tree,Tr.ag,Tr.an,Tr.aj,Tr.al,Tr.ak,w1,w2,w3,w4,n1,n2,bk h,and_self,↓reduceIte,dY.told,dY.f,dY.begin,aK.told,dd,eC.told,nZ,ai,jc];rcases Bool.eq_false_or_eq_true (gv (eG m (9+2*(i:Int))) 0 7)with q | q<;>rcases Bool.eq_false_or_eq_true (isVal (eG m (9+2*(i:Int)+1)))with q' | q'<;>simp only[q,q',Bool.not_true,Bool.not_false,Bool.and_self,Bool.and_true,Bool.and_false,Bool.false_eq_true,↓reduceIte]) (by
  rw[aF,List.length_range];simp only[fi.tree,Tr.ag,Tr.al,cP,Bool.false_eq_true,↓reduceIte])
 rw[Bool.and_true]at e;exact e
def lP (m:List Int):List Int:=(m.take (Int.toNat (25+(unpack (eG m 8)).2.2))).drop 25
def jz (n:Nat) (m:List Int):Bool:=
 decide (m.length=49)&&(!decide ((unpack (eG m 8)).1<0)&&(!decide ((unpack (eG m 8)).1≥(n:Int))&&((m.take 8).all isVal&&((lP m).all isVal&&(List.range (Int.toNat (unpack (eG m 8)).2.1)).all (jc m)))))
theorem nC (m:List Int):(lP m).length≤m.length:=by
 unfold lP;rw[List.length_drop,List.length_take];omega
theorem rV {c:Int} (h:¬(unpack c).1<0):0≤(unpack c).1∧(unpack c).1≤5∧0≤(unpack c).2.1∧(unpack c).2.1≤8∧0≤(unpack c).2.2∧(unpack c).2.2≤24:=by
 rcases ox c with e | e
 ·rw[e]at h;exact absurd (by decide) h
 ·exact e
theorem lB (m:List Int) (hm:m.length=49) (h:¬(unpack (eG m 8)).1<0):
 wr (25+(unpack (eG m 8)).2.2)=25+(unpack (eG m 8)).2.2∧((0:Int)≤25∧(25:Int)≤25+(unpack (eG m 8)).2.2∧25+(unpack (eG m 8)).2.2≤(m.length:Int))∧∃n:Nat,(unpack (eG m 8)).2.1=(n:Int)∧n≤8:=by
 obtain⟨a,b,c,d,e,f⟩:=rV h;exact⟨b6 (by omega),⟨by omega,by omega,by omega⟩,(unpack (eG m 8)).2.1.toNat,by omega,by omega⟩
theorem xi (p:List az) (m:List Int) (hp:p.length≤1048576) (hs:∀t∈p,t.f0.length≤1048576):fj.f p m=some (vt p&&jz p.length m):=by
 simp only[fj.f,fj.begin,Tr.aj,Tr.ag,Tr.al,cO.told,rm p hp hs,ai];unfold jz;cases vt p
 ·rfl
 by_cases hm:¬m.length=49
 ·have hm':¬(m.length:Int)=49:=by omega
  simp only[hm,hm',decide_false,Bool.not_false,Bool.not_true,Bool.false_eq_true,↓reduceIte,Bool.false_and,Bool.and_false]
 have hm:m.length=49:=by omega
 have hm':decide ((m.length:Int)=49)=true:=decide_eq_true (by omega);have n1:(0:Int)≤8∧(8:Int)<(m.length:Int):=by omega
 have n2:(0:Int)≤0∧(0:Int)≤8∧(8:Int)≤(m.length:Int):=by omega
 have v1:=j7 (m.take 8) (by rw[List.length_take];omega);have v2:=j7 (lP m) (Nat.le_trans (nC m) (by omega));rw[show decide (m.length=49)=true from decide_eq_true hm];simp only[hm',Tr.an,Tr.ag,Tr.aj,Tr.al,Tr.ak,bg.told,iy,bX.told,ai,n1,n2,and_self,↓reduceIte,decide_eq_true_eq,Bool.not_true,Bool.false_eq_true,Bool.true_and,show Int.toNat 8=8 from rfl,v1]
 by_cases h1:(unpack (eG m 8)).1<0
 ·simp only[h1,↓reduceIte,decide_true,decide_false,Bool.not_true,Bool.not_false,Bool.false_and,Bool.and_false,Bool.true_and,Bool.false_eq_true]
 by_cases h2:(unpack (eG m 8)).1≥(p.length:Int)
 ·simp only[h1,h2,↓reduceIte,decide_true,decide_false,Bool.not_true,Bool.not_false,Bool.false_and,Bool.and_false,Bool.true_and,Bool.false_eq_true]
 obtain⟨w,n3,n,hn,hn8⟩:=lB m hm h1;have c7:=u7 m hm n hn8;unfold lP at v2;simp only[h1,h2,w,n3,hn,and_self,↓reduceIte,decide_false,Bool.not_false,Bool.true_and,show Int.toNat 25=25 from rfl,v2,ai,c7,Int.toNat_natCast,lP];rcases Bool.eq_false_or_eq_true ((m.take 8).all isVal)with q | q<;>simp only[q,Bool.not_true,Bool.not_false,Bool.false_eq_true,↓reduceIte,Bool.true_and,Bool.false_and]
 rcases Bool.eq_false_or_eq_true (((m.take (Int.toNat (25+(unpack (eG m 8)).2.2))).drop 25).all isVal)with q | q<;>simp only[q,Bool.not_true,Bool.not_false,Bool.false_eq_true,↓reduceIte,Bool.true_and,Bool.false_and]
theorem wV (p:List az) (m:List Int) (hp:p.length≤1048576) (hs:∀t∈p,t.f0.length≤1048576):fi.f p m=some (vt p&&jz p.length m):=by
 simp only[fi.f,fi.begin,Tr.aj,Tr.ag,Tr.al,da.told,mo p hp hs,ai];unfold jz;cases vt p
 ·rfl
 by_cases hm:¬m.length=49
 ·have hm':¬(m.length:Int)=49:=by omega
  simp only[hm,hm',decide_false,Bool.not_false,Bool.not_true,Bool.false_eq_true,↓reduceIte,Bool.false_and,Bool.and_false]
 have hm:m.length=49:=by omega
 have hm':decide ((m.length:Int)=49)=true:=decide_eq_true (by omega);have n1:(0:Int)≤8∧(8:Int)<(m.length:Int):=by omega
 have n2:(0:Int)≤0∧(0:Int)≤8∧(8:Int)≤(m.length:Int):=by omega
 have v1:=jy (m.take 8) (by rw[List.length_take];omega);have v2:=jy (lP m) (Nat.le_trans (nC m) (by omega));rw[show decide (m.length=49)=true from decide_eq_true hm];simp only[hm',Tr.an,Tr.ag,Tr.aj,Tr.al,Tr.ak,bj.told,iA,ck.told,ai,n1,n2,and_self,↓reduceIte,decide_eq_true_eq,Bool.not_true,Bool.false_eq_true,Bool.true_and,show Int.toNat 8=8 from rfl,v1]
 by_cases h1:(unpack (eG m 8)).1<0
 ·cases(m.take 8).all isVal<;>simp only[h1,↓reduceIte,decide_true,decide_false,Bool.not_true,Bool.not_false,Bool.false_and,Bool.and_false,Bool.true_and,Bool.false_eq_true]
 by_cases h2:(unpack (eG m 8)).1≥(p.length:Int)
 ·cases(m.take 8).all isVal<;>simp only[h1,h2,↓reduceIte,decide_true,decide_false,Bool.not_true,Bool.not_false,Bool.false_and,Bool.and_false,Bool.true_and,Bool.false_eq_true]
 obtain⟨w,n3,n,hn,hn8⟩:=lB m hm h1;have c7:=ve m hm n hn8;unfold lP at v2;simp only[h1,h2,w,n3,hn,and_self,↓reduceIte,decide_false,Bool.not_false,Bool.true_and,show Int.toNat 25=25 from rfl,v2,ai,c7,Int.toNat_natCast,lP];rcases Bool.eq_false_or_eq_true ((m.take 8).all isVal)with q | q<;>simp only[q,Bool.not_true,Bool.not_false,Bool.false_eq_true,↓reduceIte,Bool.true_and,Bool.false_and]
 rcases Bool.eq_false_or_eq_true (((m.take (Int.toNat (25+(unpack (eG m 8)).2.2))).drop 25).all isVal)with q | q<;>simp only[q,Bool.not_true,Bool.not_false,Bool.false_eq_true,↓reduceIte,Bool.true_and,Bool.false_and]
theorem kg (m:List Int) (hm:m.length=49):((0:Int)≤8∧(8:Int)<(m.length:Int)):=by omega
def iF (m:List Int):List Int:=if m.length=49 then(if(unpack (eG m 8)).2.2<0 then[]else lP m)else[]
theorem pI {c:Int} (h:¬(unpack c).2.2<0):¬(unpack c).1<0:=by
 rcases ox c with e | e
 ·rw[e]at h;exact absurd (by decide) h
 ·omega
theorem pk (m:List Int) (n:Nat) (h:m.length≤n):(iF m).length≤n:=by
 unfold iF;split
 ·split
  ·simp
  ·exact Nat.le_trans (nC m) h
 ·simp
theorem uK (m:List Int):fm.f m=some (iF m):=by
 simp only[fm.f,fm.begin,Tr.ag,Tr.an,Tr.aj,Tr.al,Tr.gT,bg.told,iy,ai,List.nil_append];unfold iF
 by_cases hm:m.length=49
 ·have hm':decide ((m.length:Int)=49)=true:=decide_eq_true (by omega);rw[if_pos hm];simp only[hm',kg m hm,and_self,Bool.not_true,Bool.false_eq_true,↓reduceIte,decide_eq_true_eq]
  by_cases h:(unpack (eG m 8)).2.2<0
  ·simp only[h,↓reduceIte]
  ·obtain⟨w,n1,-⟩:=lB m hm (pI h);have hl:=nC m;have n2:((([]:List Int).length:Int)+((lP m).length:Int))*(8:Nat)≤room:=fits [] (lP m) (by simp) (by omega) 8 (by omega);simp only[h,w,n1,and_self,↓reduceIte];exact if_pos n2
 ·have hm':¬(m.length:Int)=49:=by omega
  simp only[hm,hm',decide_false,Bool.not_false,↓reduceIte]
theorem tU (m:List Int):fq.f m=some (iF m):=by
 simp only[fq.f,fq.begin,Tr.ag,Tr.an,Tr.aj,Tr.al,Tr.gT,bj.told,iA,ai];unfold iF
 by_cases hm:m.length=49
 ·have hm':decide ((m.length:Int)=49)=true:=decide_eq_true (by omega);rw[if_pos hm];simp only[hm',kg m hm,and_self,Bool.not_true,Bool.false_eq_true,↓reduceIte,decide_eq_true_eq]
  by_cases h:(unpack (eG m 8)).2.2<0
  ·simp only[h,↓reduceIte]
  ·obtain⟨w,n1,-⟩:=lB m hm (pI h);have hl:=nC m;have n2:=gi (lP m) (by omega);unfold lP at n2;simp only[h,w,n1,and_self,↓reduceIte,bc.told,show Int.toNat 25=25 from rfl,n2,ai];rfl
 ·have hm':¬(m.length:Int)=49:=by omega
  simp only[hm,hm',decide_false,Bool.not_false,↓reduceIte]
def qo (a b:List Int):Bool:=decide (a.length≤b.length)&&decide (a=b.take a.length)
theorem qz (a b:List Int) (ha:a.length≤1048576) (hb:b.length≤1048576):bN.f a b=some (qo a b):=by
 simp only[bN.f,bN.begin,Tr.ak];unfold qo;have hend:∀i:Nat,decide ((i:Int)≥(i:Int))=true:=fun i=>decide_eq_true (by omega)
 by_cases h:a.length≤b.length
 ·rw[decide_eq_true h,Bool.true_and];refine zJ a (b.take a.length) (by rw[List.length_take];omega) (fun i=>lp bN.tree (.c2 a b (i:Int))) (fun i hi=> ?_) ?_
  ·rw[aF];have h2:i<b.length:=by omega
   have hn:decide ((i:Int)≥(b.length:Int))=false:=decide_eq_false (by omega);simp only[bN.tree,Tr.ag,Tr.an,Tr.al,Tr.ak,bk hi,hn,bB hi,bB h2,aX hi,aX h2,and_self,decide_true,Bool.false_eq_true,↓reduceIte,aN (show i<4611686018427387904 by omega),List.getElem_take]
   by_cases q:a[i]=b[i]<;>simp[q]
  ·rw[aF];simp only[bN.tree,Tr.ag,Tr.al,cP,Bool.false_eq_true,↓reduceIte]
 ·rw[decide_eq_false h,Bool.false_and];refine Aa b.length false (fun i=>lp bN.tree (.c2 a b (i:Int))) (fun i hi=> ?_) ?_
  ·have h2:i<a.length:=by omega
   have hn:decide ((i:Int)≥(b.length:Int))=false:=decide_eq_false (by omega);rw[aF];simp only[bN.tree,Tr.ag,Tr.an,Tr.al,Tr.ak,bk h2,hn,bB hi,bB h2,aX hi,aX h2,and_self,decide_true,Bool.false_eq_true,↓reduceIte,aN (show i<4611686018427387904 by omega)]
   by_cases q:a[i]=b[i]<;>simp[q]
  ·have h2:b.length<a.length:=by omega
   rw[aF];simp only[bN.tree,Tr.ag,Tr.al,bk h2,hend,↓reduceIte]
theorem pa (a b:List Int) (ha:a.length≤1048576) (hab:a.length=b.length):bZ.f a b=some (decide (a=b)):=by
 have hn:decide ((a.length:Int)=(b.length:Int))=true:=decide_eq_true (by omega);simp only[bZ.f,bZ.begin,Tr.ag,Tr.ak,hn,Bool.not_true,Bool.false_eq_true,↓reduceIte];refine zJ a b hab (fun i=>lp bZ.tree (.c4 a b (a.length:Int) (i:Int))) (fun i hi=> ?_) ?_
 ·rw[aF];have h2:i<b.length:=by omega
  simp only[bZ.tree,Tr.ag,Tr.an,Tr.al,Tr.ak,bk hi,bB hi,bB h2,aX hi,aX h2,and_self,decide_true,↓reduceIte,aN (show i<4611686018427387904 by omega)]
  by_cases q:a[i]=b[i]<;>simp[q]
 ·rw[aF];simp only[bZ.tree,Tr.ag,Tr.al,cP,Bool.false_eq_true,↓reduceIte]
theorem qA (a b:List Int) (ha:a.length≤1048576) (hb:b.length≤1048576):dm.f a b=some (qo a b):=by
 simp only[dm.f,dm.begin,Tr.aj,Tr.ag,Tr.an,Tr.al];unfold qo
 by_cases h:a.length≤b.length
 ·have h':(a.length:Int)≤(b.length:Int):=by omega
  have n1:(0:Int)≤0∧(0:Int)≤(a.length:Int)∧(a.length:Int)≤(b.length:Int):=by omega
  simp only[h,h',n1,and_self,decide_true,↓reduceIte,Int.toNat_natCast,bZ.told,pa a (b.take a.length) ha (by rw[List.length_take];omega),ai,Bool.true_and]
 ·have h':¬(a.length:Int)≤(b.length:Int):=by omega
  simp only[h,h',decide_false,Bool.false_eq_true,↓reduceIte,Bool.false_and]
def ou (m:List Int) (at_:Int) (h:List Int):Bool:=gv at_ 0 h.length&&qo h (iF m)
theorem vh (m:List Int) (x:Int) (h:List Int) (hm:m.length≤1048576) (hh:h.length≤1048576):fW.f m x h=some (ou m x h):=by
 simp only[fW.f,fW.begin,Tr.bE,Tr.aj,Tr.ag,Tr.al,aH.told,du,fm.told,uK,bN.told,qz h (iF m) hh (pk m _ hm),ai,ou];cases gv x 0 (h.length:Int)<;>rfl
theorem u9 (m:List Int) (x:Int) (h:List Int) (hm:m.length≤1048576) (hh:h.length≤1048576):fN.f m x h=some (ou m x h):=by
 simp only[fN.f,fN.begin,Tr.bE,Tr.aj,Tr.ag,Tr.al,aK.told,dd,fq.told,tU,dm.told,qA h (iF m) hh (pk m _ hm),ai,ou];cases gv x 0 (h.length:Int)<;>rfl
def jH (a b:Int):Bool:=decide (a≥0)&&(decide (a≤b)&&decide (b≤1000000))
theorem oR (a b:Int):ff.f a b=some (jH a b):=by
 simp only[ff.f,ff.begin,Tr.ag,Tr.al,jH];cases decide (a≥0)<;>cases decide (a≤b)<;>rfl
theorem oK (a b:Int):eR.f a b=some (jH a b):=by
 simp only[eR.f,eR.begin,Tr.ag,Tr.al,jH];cases decide (a≥0)<;>cases decide (a≤b)<;>rfl
def lh (p:List az) (m r:List Int) (a3 a4 a5 a6 a7 a8 a9 a10:Int) (h:List Int) (a12:Int):Bool:=
 (vt p&&jz p.length m)&&(iH a4 a5 a6 a7&&(r.all isVal&&(gv a3 0 400000&&(jH a8 a9&&(ou m a10 h&&gv a12 0 100000)))))
theorem l3 (p:List az) (m r:List Int) (a3 a4 a5 a6 a7 a8 a9 a10:Int) (h:List Int) (a12:Int) (hp:p.length≤1048576) (hs:∀t∈p,t.f0.length≤1048576) (hm:m.length≤1048576) (hr:r.length≤1048576) (hh:h.length≤1048576):
 eP.f p m r a3 a4 a5 a6 a7 a8 a9 a10 h a12=some (lh p m r a3 a4 a5 a6 a7 a8 a9 a10 h a12):=by
 simp only[eP.f,eP.begin,Tr.aj,Tr.ag,Tr.al,fj.told,xi p m hp hs,fl.told,td,bX.told,j7 r hr,aH.told,du,ff.told,oR,fW.told,vh m a10 h hm hh,ai,lh];cases(vt p&&jz p.length m)<;>cases iH a4 a5 a6 a7<;>cases r.all isVal<;>cases gv a3 0 400000<;>cases jH a8 a9<;>cases ou m a10 h<;>rfl
theorem lS (p:List az) (m r:List Int) (a3 a4 a5 a6 a7 a8 a9 a10:Int) (h:List Int) (a12:Int) (hp:p.length≤1048576) (hs:∀t∈p,t.f0.length≤1048576) (hm:m.length≤1048576) (hr:r.length≤1048576) (hh:h.length≤1048576):
 dS.f p m r a3 a4 a5 a6 a7 a8 a9 a10 h a12=some (lh p m r a3 a4 a5 a6 a7 a8 a9 a10 h a12):=by
 simp only[dS.f,dS.begin,Tr.aj,Tr.ag,Tr.al,fi.told,wV p m hp hs,fo.told,uy,ck.told,jy r hr,aK.told,dd,eR.told,oK,fN.told,u9 m a10 h hm hh,ai,lh];cases(vt p&&jz p.length m)<;>cases iH a4 a5 a6 a7<;>cases r.all isVal<;>cases gv a3 0 400000<;>cases jH a8 a9<;>cases ou m a10 h<;>rfl
theorem lZ (l:List Int) (n:Int) (hl:l.length≤9223372036854775807) (h0:0≤n) (h1:n≤1048576):eS.f l n=some (if n-l.length<0 then -1 else n-l.length):=by
 have w:wr (n-l.length)=n-l.length:=b6 (by omega);simp only[eS.f,eS.begin,Tr.ag,Tr.al,w,decide_eq_true_eq];split<;>rfl
theorem vv (a:Int) (l:List Int) (n:Int) (hl:l.length≤9223372036854775807) (h0:0≤n) (h1:n≤1048576):fV.f a l n=some (if n-l.length<0 then -1 else n-l.length):=by
 simp only[fV.f,fV.begin,eF.told,eF.f,eF.begin,Tr.ag,Tr.aj,Tr.al,eS.told,lZ l n hl h0 h1,ai,decide_eq_true_eq]
 by_cases h:n-(l.length:Int)<0
 ·simp[h]
 ·simp[h]
def jv (p:List fK) (m r h:List Int):Nat:=xq p+m.length+r.length+h.length
theorem vQ (p:List fK) (m r:List Int) (a3 a4 a5 a6 a7 a8 a9 a10:Int) (h:List Int) (a12:Int) (n:Int) (hp:p.length≤9223372036854775807) (hs:∀t∈p,t.f0.length≤9223372036854775807) (hm:m.length≤9223372036854775807) (hr:r.length≤9223372036854775807) (hh:h.length≤9223372036854775807) (h0:0≤n) (h1:n≤1048576):
 fS.f p m r a3 a4 a5 a6 a7 a8 a9 a10 h a12 n=some (if(jv p m r h:Int)≤n then n-jv p m r h else -1):=by
 simp only[fS.f,fS.begin,Tr.aj,Tr.ag,Tr.al,dQ.told,rv p n hp hs h0 h1,ai,decide_eq_true_eq]
 by_cases q:(xq p:Int)≤n
 ·have q':¬(n-(xq p:Int)<0):=by omega
  simp only[q,q',↓reduceIte,eS.told,lZ m (n-xq p) hm (by omega) (by omega),ai]
  by_cases q1:n-(xq p:Int)-m.length<0
  ·simp only[q1,↓reduceIte];rw[if_pos (by decide),if_neg (by unfold jv;omega)]
  ·simp only[q1,↓reduceIte,lZ r (n-xq p-m.length) hr (by omega) (by omega),ai]
   by_cases q2:n-(xq p:Int)-m.length-r.length<0
   ·simp only[q2,↓reduceIte];rw[if_pos (by decide),if_neg (by unfold jv;omega)]
   ·simp only[q2,↓reduceIte,fV.told,vv a10 h (n-xq p-m.length-r.length) hh (by omega) (by omega),ai]
    by_cases q3:n-(xq p:Int)-m.length-r.length-h.length<0
    ·simp only[q3,↓reduceIte];rw[if_pos (by decide),if_neg (by unfold jv;omega)]
    ·simp only[q3,↓reduceIte];rw[if_pos (by unfold jv;omega)];unfold jv;refine congrArg some (show(_:Int)=_ from ?_);omega
 ·simp only[q,↓reduceIte];rw[if_pos (by decide),if_neg (by unfold jv;omega)]
theorem vJ (p:List fK) (m r:List Int) (a3 a4 a5 a6 a7 a8 a9 a10:Int) (h:List Int) (a12:Int) (hp:p.length≤1048576) (hs:∀t∈p,t.f0.length≤1048576) (hm:m.length≤1048576) (hr:r.length≤1048576) (hh:h.length≤1048576):
 eQ.f p m r a3 a4 a5 a6 a7 a8 a9 a10 h a12=some (p.map np,m,r,a3,a4,a5,a6,a7,a8,a9,a10,h,a12):=by
 simp only[eQ.f,eQ.begin,Tr.aj,Tr.al,dL.told,qY p hp hs,dC.told,lX m hm,lX r hr,ga.told,ue,gl.told,gl.f,gl.begin,gk.told,gk.f,gk.begin,eD.told,eD.f,eD.begin,lX h hh,ai]
theorem zh (p:List fK) (m r h:List Int) (hn:jv p m r h≤1048576):
 p.length≤1048576∧(∀t∈p,t.f0.length≤1048576)∧m.length≤1048576∧r.length≤1048576∧h.length≤1048576∧(p.map np).length≤1048576∧(∀t∈p.map np,t.f0.length≤1048576)∧wt (p.map np)≤100000000:=by
 unfold jv at hn;obtain⟨b1,b2,b3⟩:=Cs p 1048576 (by omega);refine⟨b1,b2,by omega,by omega,by omega,by rw[List.length_map];exact b1,fun t ht=> ?_,by omega⟩;obtain⟨u,hu,rfl⟩:=List.mem_map.mp ht;show(u.f0.map zd).length≤1048576;rw[List.length_map];exact b2 u hu
theorem Ae {A S R:Type} (l:List A) (f:S→A→S) (g:S→R) (Inv:Nat→S→Prop) (L:Nat→S→Option R) (s:S) (h0:Inv 0 s)
 (hstep:∀i (h:i<l.length) s,Inv i s→L i s=L (i+1) (f s l[i])∧Inv (i+1) (f s l[i])) (hend:∀s,Inv l.length s→L l.length s=some (g s)):L 0 s=some (g (l.foldl f s)):=by
 have key:∀(n i:Nat) s,i+n=l.length→Inv i s→L i s=some (g ((l.drop i).foldl f s)):=by
  intro n
  induction n with
  | zero=>intro i s hi hI;obtain rfl:i=l.length:=(by omega);rw[List.drop_length];exact hend s hI
  | succ n ih=>
    intro i s hi hI;have h:i<l.length:=by omega
    obtain⟨e,hI'⟩:=hstep i h s hI;rw[e,ih (i+1) _ (by omega) hI',List.drop_eq_getElem_cons h,List.foldl_cons]
 exact key l.length 0 s (by omega) h0
theorem gp {B:Type} (s:List B) (x:B) (n:Nat) (hs:s.length≤n) (hn:n≤1048576) (k:Nat) (hk:k≤1000):((s.length:Int)+(([x]:List B).length:Int))*(k:Nat)≤room:=fits s [x] (by omega) (by simp) k hk
theorem uA (x:Int) (h:List Int) (hh:h.length≤1048576):fp.f x h=some (x,h):=by
 simp only[fp.f,fp.begin,Tr.iu,Tr.bE,Tr.an,Tr.al,fits ([]:List Int) h (by simp) hh 8 (by omega),↓reduceIte,List.nil_append,fy]
theorem su (x:Int) (h:List Int) (hh:h.length≤1048576):eL.f x h=some (x,h):=by
 simp only[eL.f,eL.begin,Tr.iu,Tr.bE,Tr.aj,Tr.al,bc.told,gi h hh,ai,fy]
theorem nw (p:List az) (m r:List Int) (a3 a4 a5 a6 a7 a8 a9 a10:Int) (h:List Int) (a12:Int) (hp:p.length≤1048576) (hs:∀t∈p,t.f0.length≤1048576) (hm:m.length≤1048576) (hr:r.length≤1048576) (hh:h.length≤1048576):
 cG.f p m r a3 a4 a5 a6 a7 a8 a9 a10 h a12=some (p,m,r,a3,a4,a5,a6,a7,a8,a9,a10,h,a12):=by
 simp only[cG.f,cG.begin,Tr.aj,Tr.an,Tr.al,cT.told,tX p hp hs,fp.told,uA _ h hh,fits ([]:List Int) m (by simp) hm 8 (by omega),fits ([]:List Int) r (by simp) hr 8 (by omega),ai,↓reduceIte,List.nil_append]
theorem ng (p:List az) (m r:List Int) (a3 a4 a5 a6 a7 a8 a9 a10:Int) (h:List Int) (a12:Int) (hp:p.length≤1048576) (hs:∀t∈p,t.f0.length≤1048576) (hm:m.length≤1048576) (hr:r.length≤1048576) (hh:h.length≤1048576):
 cE.f p m r a3 a4 a5 a6 a7 a8 a9 a10 h a12=some (p,m,r,a3,a4,a5,a6,a7,a8,a9,a10,h,a12):=by
 simp only[cE.f,cE.begin,Tr.aj,Tr.bE,Tr.al,bY.told,pb p hp hs,bc.told,gi m hm,gi r hr,eL.told,su _ h hh,ai]
def sat (n:Int):Int:=if n< -1000000 then -1000000 else if n>1000000 then 1000000 else n
theorem oq (n:Int): -1000000≤sat n∧sat n≤1000000:=by unfold sat;split;omega;split<;>omega
theorem xw (a:Int):dq.f a (-1000000) 1000000=some (sat a):=by
 simp only[dq.f,dq.begin,Tr.ag,Tr.al,decide_eq_true_eq,sat];rw[if_neg (by omega)];split
 ·rfl
 ·split<;>rfl
theorem wZ (a:Int):cN.f a (-1000000) 1000000=some (sat a):=by
 simp only[cN.f,cN.begin,Tr.ag,Tr.al,decide_eq_true_eq,sat];rw[if_neg (by omega)];refine congrArg some (show(_:Int)=_ from ?_);split<;>split<;>(try split)<;>(try split)<;>omega
theorem ky (a:Int):bK.f a=some (sat a):=by simp only[bK.f,bK.begin,Tr.aj,Tr.al,dq.told,xw,ai]
theorem kC (a:Int):bL.f a=some (sat a):=by simp only[bL.f,bL.begin,Tr.aj,Tr.al,cN.told,wZ,ai]
theorem zR (a b:Int):wr (sat a+sat b)=sat a+sat b:=b6 (by have:=oq a;have:=oq b;omega)
theorem zM (a b:Int):wr (sat a-sat b)=sat a-sat b:=b6 (by have:=oq a;have:=oq b;omega)
theorem B8 (x y:Int) (hx: -1000000≤x∧x≤1000000) (hy: -1000000≤y∧y≤1000000): -1000000000000≤x*y∧x*y≤1000000000000:=by
 have h1:=Int.mul_nonneg (a:=1000000-x) (b:=1000000-y) (by omega) (by omega);have h2:=Int.mul_nonneg (a:=1000000+x) (b:=1000000+y) (by omega) (by omega);have h3:=Int.mul_nonneg (a:=1000000-x) (b:=1000000+y) (by omega) (by omega);have h4:=Int.mul_nonneg (a:=1000000+x) (b:=1000000-y) (by omega) (by omega);rw[Int.sub_mul,Int.mul_sub,Int.mul_sub]at h1;rw[Int.add_mul,Int.mul_add,Int.mul_add]at h2;rw[Int.sub_mul,Int.mul_add,Int.mul_add]at h3;rw[Int.add_mul,Int.mul_sub,Int.mul_sub]at h4;generalize x*y=p at*;omega
theorem zS (a b:Int):wr (sat a*sat b)=sat a*sat b:=b6 (by have:=B8 _ _ (oq a) (oq b);omega)
theorem me (a b:Int):cZ.f a b=some (sat (sat a+sat b)):=by simp only[cZ.f,cZ.begin,Tr.aj,Tr.al,bK.told,ky,ai,zR]
theorem mn (a b:Int):cY.f a b=some (sat (sat a+sat b)):=by simp only[cY.f,cY.begin,Tr.aj,Tr.al,bL.told,kC,ai,zR]
theorem qM (a b:Int):dB.f a b=some (sat (sat a-sat b)):=by simp only[dB.f,dB.begin,Tr.aj,Tr.al,bK.told,ky,ai,zM]
theorem rz (a b:Int):dD.f a b=some (sat (sat a-sat b)):=by simp only[dD.f,dD.begin,Tr.aj,Tr.al,bL.told,kC,ai,zM]
theorem rn (a b:Int):dU.f a b=some (sat (sat a*sat b)):=by simp only[dU.f,dU.begin,Tr.aj,Tr.al,bK.told,ky,ai,zS]
theorem ru (a b:Int):dH.f a b=some (sat (sat a*sat b)):=by simp only[dH.f,dH.begin,Tr.aj,Tr.al,bL.told,kC,ai,zS]
def AE (b:Bool):Int:=if b=true then 1 else 0
theorem oP (b:Bool):fA.f b=some (AE b):=by cases b<;>rfl
theorem uR (b:Bool):gQ.f b=some (AE b):=by cases b<;>rfl
def val (vs:List Int) (n:Int):Int:=if n<0 then eG vs (-1-n)else n
theorem vS {vs:List Int} {n:Int} (hv:vs.length=8) (hn: -8≤n) (h:n<0):wr (-1-n)= -1-n∧((0:Int)≤-1-n∧-1-n<(vs.length:Int)):=⟨b6 (by omega),by omega,by omega⟩
theorem m9 (vs:List Int) (n:Int) (hv:vs.length=8) (hn: -8≤n):dZ.f vs n=some (val vs n):=by
 simp only[dZ.f,dZ.begin,Tr.ag,Tr.an,Tr.al,decide_eq_true_eq];unfold val
 by_cases h:n<0
 ·obtain⟨w,f⟩:=vS hv hn h;rw[if_pos h,if_pos h,w,if_pos f]
 ·rw[if_neg h,if_neg h]
theorem nz (vs:List Int) (n:Int) (hv:vs.length=8) (hn: -8≤n):fa.f vs n=some (val vs n):=by
 simp only[fa.f,fa.begin,Tr.ag,Tr.an,Tr.al,decide_eq_true_eq];unfold val
 by_cases h:n<0
 ·obtain⟨w,f⟩:=vS hv hn h;rw[if_pos h,if_pos h,w,if_pos f]
 ·rw[if_neg h,if_neg h]
def Cc (vs:List Int) (o a b:Int):Int:=
 if o=1 then sat (sat (val vs a)+sat (val vs b))else if o=2 then sat (sat (val vs a)-sat (val vs b))else if o=3 then sat (sat (val vs a)*sat (val vs b))
 else if o=4 then(if val vs b<val vs a then val vs b else val vs a)else if o=5 then(if val vs b>val vs a then val vs b else val vs a)
 else if o=6 then AE (decide (val vs a<val vs b))else AE (decide (val vs a=val vs b))
theorem uS (vs:List Int) (o a b:Int) (hv:vs.length=8) (ha: -8≤a) (hb: -8≤b):cn.f vs o a b=some (Cc vs o a b):=by
 simp only[cn.f,cn.begin,Tr.aj,Tr.ag,Tr.al,dZ.told,m9 vs a hv ha,m9 vs b hv hb,cZ.told,me,dB.told,qM,dU.told,rn,fA.told,oP,ai,decide_eq_true_eq,Cc];split
 ·rfl
 split
 ·rfl
 split
 ·rfl
 split
 ·rfl
 split
 ·rfl
 split<;>rfl
def zi (vs:List Int):Bool:=vs.all isVal&&decide ((vs.length:Int)=8)
theorem ud {o a b:Int} (h:pA o a b=true):(1≤o∧o≤7)∧(-8≤a∧a≤999)∧(-8≤b∧b≤999):=by
 unfold pA at h;rw[Bool.and_eq_true,Bool.and_eq_true,ca,ca,ca]at h;exact⟨h.1,h.2.1,h.2.2⟩
theorem Bm {vs:List Int} (h:zi vs=true):vs.length=8:=by
 unfold zi at h;rw[Bool.and_eq_true]at h;have:=of_decide_eq_true h.2;omega
theorem sj (vs:List Int) (o a b:Int) (hl:vs.length≤1048576):cj.f vs o a b=some (if zi vs=true then(if pA o a b=true then Cc vs o a b else 0)else 0):=by
 simp only[cj.f,cj.begin,Tr.aj,Tr.ag,Tr.al,Tr.bE,fh.told,oT vs hl,cR.told,iC,ai];show(if(!zi vs)=true then _ else _)=_;cases hv:zi vs with
 | false=>rfl
 | true=>
   cases hx:pA o a b with
   | false=>rfl
   | true=>
     obtain⟨_,ha,hb⟩:=ud hx;have hl8:=Bm hv;simp only[Bool.not_true,Bool.false_eq_true,↓reduceIte,fa.told,nz vs a hl8 ha.1,nz vs b hl8 hb.1,cY.told,mn,dD.told,rz,dH.told,ru,gQ.told,uR,ai,decide_eq_true_eq,Cc];split
     ·rfl
     split
     ·rfl
     split
     ·rfl
     split
     ·rfl
     split
     ·rfl
     split<;>rfl
theorem vY {x:Int}:isVal x=true↔-1000000≤x∧x≤1000000:=ca
theorem zy {vs:List Int} (h:vs.all isVal=true) (i:Int):isVal (eG vs i)=true:=by
 unfold eG;rw[List.getD_eq_getElem?_getD];cases hg:vs[i.toNat]? with
 | none=>rfl
 | some x=>exact List.all_eq_true.mp h x (List.mem_of_getElem? hg)
theorem zI {vs:List Int} {n:Int} (h:vs.all isVal=true) (hn:n≤999):isVal (val vs n)=true:=by
 unfold val;split
 ·exact zy h _
 ·rw[vY];omega
theorem BD {vs:List Int} {o a b:Int} (hv:zi vs=true) (hx:pA o a b=true):isVal (Cc vs o a b)=true:=by
 unfold zi at hv;rw[Bool.and_eq_true]at hv;obtain⟨_,ha,hb⟩:=ud hx;have va:=zI (n:=a) hv.1 ha.2;have vb:=zI (n:=b) hv.1 hb.2;have hs:∀n,isVal (sat n)=true:=fun n=>vY.mpr (oq n);have h01:∀b,isVal (AE b)=true:=fun b=>by cases b<;>rfl
 unfold Cc;split
 ·exact hs _
 split
 ·exact hs _
 split
 ·exact hs _
 split
 ·split
  ·exact vb
  ·exact va
 split
 ·split
  ·exact vb
  ·exact va
 split
 ·exact h01 _
 ·exact h01 _
def qw (m:List Int):Nat→List fY→Option (List fY)
 | 0,acc=>some acc
 | i+1,acc=>if gv (eG m (9+2*(i:Int))) 0 7=true then qw m i (acc++[(⟨eG m (9+2*(i:Int)),eG m (9+2*(i:Int)+1)⟩:fY)])else none
def qP (m:List Int) (o:Option (List fY)):List fY:=match o with
 | some l=>l++[(⟨8,pack (unpack (eG m 8)).1 0 (unpack (eG m 8)).2.2⟩:fY)]
 | none=>[]
def kG (m:List Int):List fY:=if m.length=49 then(if(unpack (eG m 8)).2.1<1 then[]else qP m (qw m (unpack (eG m 8)).2.1.toNat []))else[]
theorem xM (m:List Int):∀(i:Nat) (acc l:List fY),qw m i acc=some l→l.length=acc.length+i
 | 0,acc,l,h=>by cases h;rfl
 | i+1,acc,l,h=>by
   unfold qw at h;split at h
   ·have:=xM m i _ l h;rw[List.length_append,List.length_singleton]at this;omega
   ·cases h
theorem mH (c:Int) (h:¬(unpack c).2.1<1):(unpack c).2.1≤8:=by
 rcases ox c with e | e
 ·rw[e]at h;exact absurd (by decide) h
 ·omega
theorem uO (m:List Int):(kG m).length≤9:=by
 unfold kG;split
 ·split
  ·simp
  ·rename_i h;have h8:=mH _ h;unfold qP;split
   ·rename_i l hl;have:=xM m _ _ _ hl;rw[List.length_append,List.length_singleton];rw[List.length_nil]at this;omega
   ·simp
 ·simp
theorem vT (m:List Int) (hm:m.length=49) (i:Nat) (hi:i<8):
 wr (2*(i:Int))=2*(i:Int)∧wr (9+2*(i:Int))=9+2*(i:Int)∧wr (9+2*(i:Int)+1)=9+2*(i:Int)+1∧((0:Int)≤9+2*(i:Int)∧9+2*(i:Int)<(m.length:Int))∧((0:Int)≤9+2*(i:Int)+1∧9+2*(i:Int)+1<(m.length:Int))∧wr ((i:Int)-1)=(i:Int)-1∧((i+1:Nat):Int)-1=(i:Int)∧decide ((i:Int)≥0)=true:=
 ⟨b6 (by omega),b6 (by omega),b6 (by omega),by omega,by omega,b6 (by omega),by omega,decide_eq_true (by omega)⟩
theorem oN (m:List Int) (hm:m.length=49) (t c tl:Int) (hc:¬c<1):∀(i:Nat) (acc:List fY),i≤8→acc.length+i≤8→
 lp bd.tree (.c6 m acc t c tl ((i:Int)-1))=some (match qw m i acc with | some l=>l++[(⟨8,pack t 0 tl⟩:fY)] | none=>[])
 | 0,acc,_,ha=>by
   rw[aF];have h1:∀x:fY,((acc.length:Int)+(([x]:List fY).length:Int))*(16:Nat)≤room:=fun x=>fits acc [x] (by omega) (by simp) 16 (by omega);have h2:decide (((0:Nat):Int)-1≥0)=false:=by decide
   have h3:decide (c≤0)=false:=decide_eq_false (by omega);simp only[bd.tree,Tr.ag,Tr.an,Tr.aj,Tr.al,h2,h3,bu.told,iP,ai,h1,Bool.false_eq_true,↓reduceIte,qw]
 | i+1,acc,hi,ha=>by
   rw[aF];obtain⟨w1,w2,w3,n1,n2,w4,e1,e2⟩:=vT m hm i (by omega);have h1:∀x:fY,((acc.length:Int)+(([x]:List fY).length:Int))*(16:Nat)≤room:=fun x=>fits acc [x] (by omega) (by simp) 16 (by omega);simp only[bd.tree,Tr.ag,Tr.an,Tr.aj,Tr.al,Tr.gT,Tr.ak,e1,e2,w1,w2,w3,w4,n1,n2,and_self,aH.told,du,ai,h1,↓reduceIte];unfold qw;cases hb:gv (eG m (9+2*(i:Int))) 0 7 with
   | false=>rfl
   | true=>
     simp only[Bool.not_true,Bool.false_eq_true,↓reduceIte];exact oN m hm t c tl hc i _ (by omega) (by rw[List.length_append,List.length_singleton];omega)
theorem oS (m:List Int) (hm:m.length=49) (t tl:Int):∀(i:Nat) (acc:List fY),i≤8→acc.length+i≤8→
 lp bm.tree (.c8 m t tl acc ((i:Int)-1))=some (match qw m i acc with | some l=>l++[(⟨8,pack t 0 tl⟩:fY)] | none=>[])
 | 0,acc,_,ha=>by
   rw[aF];have h1:∀x:fY,((acc.length:Int)+(([x]:List fY).length:Int))*(16:Nat)≤room:=fun x=>fits acc [x] (by omega) (by simp) 16 (by omega);have h2:decide (((0:Nat):Int)-1≥0)=false:=by decide
   simp only[bm.tree,Tr.ag,Tr.an,Tr.aj,Tr.al,h2,bo.told,iO,ai,h1,Bool.false_eq_true,↓reduceIte,qw]
 | i+1,acc,hi,ha=>by
   rw[aF];obtain⟨w1,w2,w3,n1,n2,w4,e1,e2⟩:=vT m hm i (by omega);have h1:∀x:fY,((acc.length:Int)+(([x]:List fY).length:Int))*(16:Nat)≤room:=fun x=>fits acc [x] (by omega) (by simp) 16 (by omega);simp only[bm.tree,Tr.ag,Tr.an,Tr.aj,Tr.al,Tr.gT,Tr.ak,e1,e2,w1,w2,w3,w4,n1,n2,and_self,dY.told,dY.f,dY.begin,aK.told,dd,ai,h1,↓reduceIte];unfold qw;cases hb:gv (eG m (9+2*(i:Int))) 0 7 with
   | false=>rfl
   | true=>
     simp only[Bool.not_true,Bool.false_eq_true,↓reduceIte];exact oS m hm t tl i _ (by omega) (by rw[List.length_append,List.length_singleton];omega)
theorem vl (m:List Int) (t c tl i:Int) (hi:i<0) (hc:c<1):lp bd.tree (.c6 m [] t c tl i)=some []:=by
 rw[aF];have h2:decide (i≥0)=false:=decide_eq_false (by omega);have h3:decide (c≤0)=true:=decide_eq_true (by omega);simp only[bd.tree,Tr.ag,Tr.al,h2,h3,Bool.false_eq_true,↓reduceIte]
theorem j4 (m:List Int):bd.f m=some (kG m):=by
 simp only[bd.f,bd.begin,Tr.ag,Tr.an,Tr.aj,Tr.al,Tr.ak,bg.told,iy,ai];unfold kG
 by_cases hm:m.length=49
 ·have hm':decide ((m.length:Int)=49)=true:=decide_eq_true (by omega);rw[if_pos hm];simp only[hm',kg m hm,and_self,Bool.not_true,Bool.false_eq_true,↓reduceIte]
  by_cases h:(unpack (eG m 8)).2.1<1
  ·rw[if_pos h]
   have hw:wr ((unpack (eG m 8)).2.1-1)<0:=by
    have:wr ((unpack (eG m 8)).2.1-1)=(unpack (eG m 8)).2.1-1:=b6 (by rcases ox (eG m 8)with e | e<;>first | (rw[e];decide) | omega);omega
   exact vl m _ _ _ _ hw h
  ·rw[if_neg h];have h8:=mH _ h;obtain⟨n,hn⟩:∃n:Nat,(unpack (eG m 8)).2.1=n:=⟨(unpack (eG m 8)).2.1.toNat,by omega⟩;have hw:wr ((unpack (eG m 8)).2.1-1)=(n:Int)-1:=by rw[hn];exact b6 (by omega)
   rw[hw,oN m hm _ _ _ h n [] (by omega) (by simp;omega),hn,Int.toNat_natCast];rfl
 ·have hm':decide ((m.length:Int)=49)=false:=decide_eq_false (by omega);rw[if_neg hm];simp only[hm',Bool.not_false,↓reduceIte]
theorem j5 (m:List Int):bm.f m=some (kG m):=by
 simp only[bm.f,bm.begin,Tr.ag,Tr.an,Tr.aj,Tr.al,Tr.ak,bj.told,iA,ai,decide_eq_true_eq];unfold kG
 by_cases hm:m.length=49
 ·have hm':decide ((m.length:Int)=49)=true:=decide_eq_true (by omega);rw[if_pos hm];simp only[hm',kg m hm,and_self,Bool.not_true,Bool.false_eq_true,↓reduceIte]
  by_cases h:(unpack (eG m 8)).2.1<1
  ·rw[if_pos h,if_pos h]
  ·rw[if_neg h,if_neg h];have h8:=mH _ h;obtain⟨n,hn⟩:∃n:Nat,(unpack (eG m 8)).2.1=n:=⟨(unpack (eG m 8)).2.1.toNat,by omega⟩;have hw:wr ((unpack (eG m 8)).2.1-1)=(n:Int)-1:=by rw[hn];exact b6 (by omega)
   rw[hw,oS m hm _ _ n [] (by omega) (by simp;omega),hn,Int.toNat_natCast];rfl
 ·have hm':decide ((m.length:Int)=49)=false:=decide_eq_false (by omega);rw[if_neg hm];simp only[hm',Bool.not_false,↓reduceIte]
def BU (m:List Int) (w:fY):List Int:=if gv w.f0 0 ((m.length:Int)-1)=true then m.set w.f0.toNat w.f1 else m
def jV (m:List Int) (l:List fY):List Int:=l.foldl BU m
theorem zY (m:List Int) (w:fY):(BU m w).length=m.length:=by unfold BU;split<;>simp
theorem tF:∀(l:List fY) (m:List Int),(jV m l).length=m.length
 | [],m=>rfl
 | w::l,m=>by
   show(jV (BU m w) l).length=_;rw[tF l,zY]
theorem o5 (m:List Int) (l:List fY) (k:Nat) (hm:m.length≤1048576) (hl:l.length≤1048576):bF.f m l (k:Int)=some (jV m (l.take k)):=by
 simp only[bF.f,bF.begin,Tr.an,Tr.ak,fits ([]:List Int) m (by simp) hm 8 (by omega),↓reduceIte,List.nil_append];refine Ae (l.take k) BU id (fun _ s=>s.length=m.length) (fun i s=>lp bF.tree (.c3 m l (k:Int) s (i:Int))) m rfl (fun i h s hs=> ?_) (fun s hs=> ?_)
 ·have h':=h;rw[List.length_take]at h';have h1:i<l.length:=by omega
  have h2:i<k:=by omega
  refine⟨?_,by rw[zY];exact hs⟩;rw[aF,List.getElem_take];have hw:wr ((m.length:Int)-1)=(m.length:Int)-1:=b6 (by omega);simp only[bF.tree,Tr.ag,Tr.an,Tr.aj,Tr.ak,Tr.bE,aH.told,du,ai,bk h1,bk h2,bB h1,aX h1,and_self,↓reduceIte,hw,aN (show i<4611686018427387904 by omega)];unfold BU;rw[hs];cases hb:gv l[i].f0 0 ((m.length:Int)-1)with
  | false=>rfl
  | true=>
    rw[ca]at hb;have hn:(0:Int)≤l[i].f0∧l[i].f0<(m.length:Int):=by omega
    simp only[hn,and_self,decide_true,↓reduceIte]
 ·rw[aF,List.length_take]
  by_cases h:l.length≤k
  ·simp only[bF.tree,Tr.ag,Tr.al,Nat.min_eq_right h,cP,Bool.false_eq_true,↓reduceIte,id]
  ·simp only[bF.tree,Tr.ag,Tr.al,Nat.min_eq_left (by omega:k≤l.length),cP,Bool.false_eq_true,↓reduceIte,id];split<;>rfl
theorem gX {n:Nat} {m:List Int} (h:jz n m=true):m.length=49∧¬(unpack (eG m 8)).1<0∧(unpack (eG m 8)).1<n∧(m.take 8).all isVal=true∧(lP m).all isVal=true∧(List.range (Int.toNat (unpack (eG m 8)).2.1)).all (jc m)=true:=by
 unfold jz at h;simp only[Bool.and_eq_true,decide_eq_true_eq,Bool.not_eq_true',decide_eq_false_iff_not]at h;exact⟨h.1,h.2.1,by omega,h.2.2.2.1,h.2.2.2.2.1,h.2.2.2.2.2⟩
theorem uX (m:List Int):eY.f m=some (if m.length=49 then m.take 8 else[]):=by
 simp only[eY.f,eY.begin,Tr.ag,Tr.an,Tr.al,List.nil_append]
 by_cases hm:m.length=49
 ·have hm':decide ((m.length:Int)=49)=true:=decide_eq_true (by omega);have n1:(0:Int)≤0∧(0:Int)≤8∧(8:Int)≤(m.length:Int):=by omega
  have n2:=fits ([]:List Int) (m.take (Int.toNat 8)) (by simp) (by rw[List.length_take];omega) 8 (by omega);rw[if_pos hm];simp only[hm',n1,n2,and_self,Bool.not_true,Bool.false_eq_true,↓reduceIte];rfl
 ·have hm':decide ((m.length:Int)=49)=false:=decide_eq_false (by omega);rw[if_neg hm];simp only[hm',Bool.not_false,↓reduceIte]
theorem uJ (m:List Int):eZ.f m=some (if m.length=49 then m.take 8 else[]):=by
 simp only[eZ.f,eZ.begin,Tr.ag,Tr.an,Tr.al,Tr.aj]
 by_cases hm:m.length=49
 ·have hm':decide ((m.length:Int)=49)=true:=decide_eq_true (by omega);have n1:(0:Int)≤0∧(0:Int)≤8∧(8:Int)≤(m.length:Int):=by omega
  rw[if_pos hm];simp only[hm',n1,and_self,Bool.not_true,Bool.false_eq_true,↓reduceIte,bc.told,gi (m.take (Int.toNat 8)) (by rw[List.length_take];omega),ai];rfl
 ·have hm':decide ((m.length:Int)=49)=false:=decide_eq_false (by omega);rw[if_neg hm];simp only[hm',Bool.not_false,↓reduceIte]
def Ok {A:Type} (o:Option A) (P:A→Prop):Prop:=∃r,o=some r∧P r
theorem upto {S R:Type} (N:Nat) (Inv:Nat→S→Prop) (L:Nat→S→Option R) (P:R→Prop)
 (h:∀i,i≤N→∀s,Inv i s→Ok (L i s) P∨(i<N∧∃s',L i s=L (i+1) s'∧Inv (i+1) s')):∀i,i≤N→∀s,Inv i s→Ok (L i s) P:=by
 have key:∀(n i:Nat),i+n=N→∀s,Inv i s→Ok (L i s) P:=by
  intro n
  induction n with
  | zero=>
    intro i hi s hs;rcases h i (by omega) s hs with e | ⟨e,_⟩
    ·exact e
    ·omega
  | succ n ih=>
    intro i hi s hs;rcases h i (by omega) s hs with e | ⟨_,s',e,hs'⟩
    ·exact e
    ·rw[e];exact ih (i+1) (by omega) s' hs'
 exact fun i hi s hs=>key (N-i) i (by omega) s hs
def Trans (d:Int) (l:List aq):Prop:=∀n t,okB n (l++t) d=okB n t d
theorem Trans.nil (d:Int):Trans d []:=fun _ _=>rfl
theorem nq {a b c:Int} (ha:0≤a∧a≤5) (hb:0≤b∧b≤8) (hc:0≤c∧c≤24):unpack (pack a b c)=(a,b,c):=by
 have hp:∀x y z:Int,0≤x∧x≤5→0≤y∧y≤8→0≤z∧z≤24→pack x y z=x+8*(y+16*z):=fun x y z h1 h2 h3=>by
  unfold pack;rw[ca.mpr h1,ca.mpr h2,ca.mpr h3];rfl
 rw[hp a b c ha hb hc];unfold unpack;generalize hw:a+8*(b+16*c)=w;have w0:0≤w:=by omega
 have e1:Int.tmod w 8=a:=by rw[Int.tmod_eq_emod_of_nonneg w0];omega
 have e2:Int.tdiv w 8=b+16*c:=by rw[Int.tdiv_eq_ediv_of_nonneg w0];omega
 have e3:wr (b+16*c)=b+16*c:=b6 (by omega);have e4:Int.tmod (b+16*c) 16=b:=by rw[Int.tmod_eq_emod_of_nonneg (by omega)];omega
 have e5:Int.tdiv w 128=c:=by rw[Int.tdiv_eq_ediv_of_nonneg w0];omega
 have e6:wr c=c:=b6 (by omega);rw[e1,e2,e3,e4,e5,e6,hp a b c ha hb hc,if_neg (by omega),if_pos hw]
theorem xd {m:List Int} {k:Nat} {j:Int} {v:Int} (hk:k<m.length) (hj:j=(k:Int)):eG (m.set k v) j=v:=by
 subst hj;show(m.set k v).getD ((k:Int)).toNat 0=v;rw[List.getD,Int.toNat_natCast,List.getElem?_set_self hk];rfl
theorem Br {m:List Int} {k:Nat} {v:Int} (h:m.all isVal=true) (hv:isVal v=true):(m.set k v).all isVal=true:=by
 rw[List.all_eq_true]at h⊢;intro x hx;rcases List.mem_or_eq_of_mem_set hx with hx | rfl
 ·exact h x hx
 ·exact hv
def Clean (n:Nat) (m:List Int):Prop:=jz n m=true∧(unpack (eG m 8)).2.1=0
theorem pN {n:Nat} {m:List Int} {t c tl:Int} (hm:m.length=49) (e:unpack (eG m 8)=(t,c,tl)) (ht:0≤t∧t<n) (h8:(m.take 8).all isVal=true) (hs:(lP m).all isVal=true) (hl:(List.range c.toNat).all (jc m)=true):jz n m=true:=by
 unfold jz;rw[e,decide_eq_true hm,decide_eq_false (show¬t<0 by omega),decide_eq_false (show¬t≥(n:Int) by omega),h8,hs,hl];rfl
def wx (s:aq):Bool:=nm s.f0 s.f1 s.f2 s.f3.f0 s.f3.f1 s.f3.f2
def inr (lo hi:Int):List aq→Int→Bool
 | [],_=>true
 | s::l,d=>wx s&&(gv (dep s.f0 d) lo hi&&inr lo hi l (dep s.f0 d))
def fin:List aq→Int→Int
 | [],d=>d
 | s::l,d=>fin l (dep s.f0 d)
theorem jU (n:Nat):∀(l:List aq) (d:Int),okB n l d=true→inr 0 3 l d=true∧fin l d=0∧n≤24
 | [],d,h=>by
   unfold okB at h;rw[Bool.and_eq_true,decide_eq_true_eq,decide_eq_true_eq]at h;exact⟨rfl,h.1,by omega⟩
 | s::l,d,h=>by
   unfold okB at h;rw[Bool.and_eq_true,Bool.and_eq_true]at h;obtain⟨a,b,c⟩:=jU n l _ h.2.2;refine⟨?_,b,c⟩;unfold inr wx;rw[h.1,h.2.1,a];rfl
theorem zB (x d c:Int):dep x (d+c)=dep x d+c:=by unfold dep;split;omega;split<;>omega
theorem Bu (x a b c:Int):gv (x+c) (a+c) (b+c)=gv x a b:=by
 rw[Bool.eq_iff_iff,ca,ca];omega
theorem xb (lo hi c:Int):∀(l:List aq) (d:Int),inr (lo+c) (hi+c) l (d+c)=inr lo hi l d
 | [],d=>rfl
 | s::l,d=>by
   show(wx s&&(gv (dep s.f0 (d+c)) (lo+c) (hi+c)&&inr (lo+c) (hi+c) l (dep s.f0 (d+c))))=_;rw[zB,Bu,xb lo hi c l];rfl
theorem wH (c:Int):∀(l:List aq) (d:Int),fin l (d+c)=fin l d+c
 | [],d=>rfl
 | s::l,d=>by show fin l (dep s.f0 (d+c))=_;rw[zB,wH c l];rfl
theorem mr {lo hi lo' hi':Int} (h1:lo'≤lo) (h2:hi≤hi'):∀(l:List aq) (d:Int),inr lo hi l d=true→inr lo' hi' l d=true
 | [],d,_=>rfl
 | s::l,d,h=>by
   unfold inr at h⊢;rw[Bool.and_eq_true,Bool.and_eq_true,ca]at h;rw[h.1,mr h1 h2 l _ h.2.2,(ca (x:=dep s.f0 d)).mpr (by omega)];rfl
theorem tw (k c:Int) (hc:0≤c):∀(l:List aq) (d:Int),c<d→d≤k→inr 0 k l d=true→fin l d≤c→
 ∃a s r,l=a++s::r∧s.f0=6∧inr (c+1) k a d=true∧fin a d=c+1∧inr 0 k r c=true∧fin r c=fin l d
 | [],d,hd,_,_,h=>absurd (show d≤c from h) (by omega)
 | s::l,d,hd,hk,h,hf=>by
   unfold inr at h;rw[Bool.and_eq_true,Bool.and_eq_true,ca]at h;obtain⟨h1,⟨h2,h2'⟩,h3⟩:=h
   by_cases q:dep s.f0 d≤c
   ·have hs:s.f0=6∧d=c+1∧dep s.f0 d=c:=by
     revert q h2 h2';unfold dep;intro h2 h2' q;split at q
     ·omega
     ·split at q
      ·rename_i e;exact⟨e,by omega,by rw[if_neg (by omega),if_pos e];omega⟩
      ·omega
    obtain⟨hs6,hd1,hdc⟩:=hs;rw[hdc]at h3;exact⟨[],s,l,rfl,hs6,rfl,hd1,h3,by show _=fin l (dep s.f0 d);rw[hdc]⟩
   ·obtain⟨a,s',r,e,e6,p1,p2,p3,p4⟩:=tw k c hc l (dep s.f0 d) (by omega) h2' h3 hf;refine⟨s::a,s',r,by rw[e];rfl,e6,?_,p2,p3,p4⟩;unfold inr;rw[h1,p1,(ca (x:=dep s.f0 d)).mpr (by omega)];rfl
def Dd (k:Int) (l:List aq):Prop:=inr 0 k l 0=true∧fin l 0=0
theorem tv {k d:Int} {x:aq} {l:List aq} (hd:0≤d) (hx:x.f0=4∨x.f0=5) (h:inr 0 k (x::l) d=true) (hf:fin (x::l) d=0):
 ∃a s r,l=a++s::r∧s.f0=6∧1≤k∧Dd (k-1) a∧inr 1 k a 1=true∧fin a 1=1∧inr 0 k r d=true∧fin r d=0:=by
 unfold inr at h;rw[Bool.and_eq_true,Bool.and_eq_true,ca]at h;obtain⟨h1,⟨h2,h2'⟩,h3⟩:=h;have e:dep x.f0 d=d+1:=by unfold dep;rw[if_pos hx]
 rw[e]at h2 h2' h3;have hf':fin l (d+1)=0:=by have:fin l (dep x.f0 d)=0:=hf;rw[e]at this;exact this
 obtain⟨a,s,r,e1,e6,p1,p2,p3,p4⟩:=tw k d hd l (d+1) (by omega) h2' h3 (by omega);have q1:=xb 1 (k-d) d a 1;rw[show 1+d=d+1 by omega,show k-d+d=k by omega,p1]at q1;have q2:=wH d a 1;rw[show 1+d=d+1 by omega,p2]at q2;have q3:=xb 0 (k-d-1) 1 a 0;rw[show(0:Int)+1=1 by omega,show k-d-1+1=k-d by omega,←q1]at q3;have q4:=wH 1 a 0;rw[show(0:Int)+1=1 by omega]at q4;exact⟨a,s,r,e1,e6,by omega,⟨mr (by omega) (by omega) a 0 q3.symm,by omega⟩,mr (by omega) (by omega) a 1 q1.symm,by omega,p3,by omega⟩
theorem jE {A:Type} {l a r:List A} {x:A} {i:Nat} (h:l.drop i=a++x::r):∃h':i+a.length<l.length,l[i+a.length]=x∧l.drop (i+a.length+1)=r:=by
 have hl:=congrArg List.length h;rw[List.length_drop,List.length_append,List.length_cons]at hl;have h':i+a.length<l.length:=by omega
 refine⟨h',?_,?_⟩
 ·have e:(l.drop i)[a.length]? =some x:=by rw[h];simp
  rw[List.getElem?_drop,List.getElem?_eq_getElem h']at e;exact Option.some.inj e
 ·rw[show i+a.length+1=i+(a.length+1)from rfl,←List.drop_drop,h];simp
theorem jt (x:Int):bJ.f x=some (decide (x=4∨x=5)):=by
 simp only[bJ.f,bJ.begin,Tr.ag,Tr.al]
 by_cases h4:x=4
 ·simp[h4]
 ·simp[h4]
theorem zX {x d:Int} (h0:0≤d) (h1:d≤30):wr (d+1)=d+1∧wr (d-1)=d-1∧wr (d+1-1)=d+1-1:=⟨b6 (by omega),b6 (by omega),b6 (by omega)⟩
theorem nY (l:List aq) (i:Nat) (d:Int) (hi:i<l.length) (hl:l.length≤1048576) (h0:0≤d) (h1:d≤30):
 lp cM.tree (.c3 l d (i:Int))=if dep l[i].f0 d=0 then some (i:Int)else lp cM.tree (.c3 l (dep l[i].f0 d) ((i+1:Nat):Int)):=by
 rw[aF];obtain⟨w1,w2,w3⟩:=zX (x:=0) h0 h1;have w7:wr ((i:Int)+1)=((i+1:Nat):Int):=aN (by omega);simp only[cM.tree,Tr.ag,Tr.aj,Tr.an,Tr.al,Tr.ak,bJ.told,jt,ai,bk hi,bB hi,aX hi,and_self,↓reduceIte,w1,w2,w3,w7,decide_eq_true_eq];unfold dep
 by_cases h4:l[i].f0=4∨l[i].f0=5
 ·have h6:¬l[i].f0=6:=by omega
  simp only[h4,h6,↓reduceIte]
 ·by_cases h6:l[i].f0=6
  ·simp only[h6,show¬((6:Int)=4∨(6:Int)=5) by omega,↓reduceIte]
  ·simp only[h4,h6,↓reduceIte]
theorem yj (l:List aq) (hl:l.length≤1048576) (k:Int) (hk:k≤30):∀(a:List aq) (d:Int) (j:Nat) (s:aq) (r:List aq),l.drop j=a++s::r→s.f0=6→1≤d→d≤k→inr 1 k a d=true→fin a d=1→
 lp cM.tree (.c3 l d (j:Int))=some ((j+a.length:Nat):Int)
 | [],d,j,s,r,hd,h6,h1,hk',_,hf=>by
   obtain⟨h',e,_⟩:=jE (a:=[]) hd;have hd1:d=1:=hf;rw[nY l j d h' hl (by omega) (by omega)];rw[show l[j]=s from e,h6,hd1];rfl
 | x::a,d,j,s,r,hd,h6,h1,hk',hp,hf=>by
   obtain⟨h',e,e2⟩:=jE (a:=[]) (show l.drop j=[]++x::(a++s::r)from hd);rw[nY l j d h' hl (by omega) (by omega)];rw[show l[j]=x from e];unfold inr at hp;rw[Bool.and_eq_true,Bool.and_eq_true,ca]at hp;rw[if_neg (by omega),yj l hl k hk a (dep x.f0 d) (j+1) s r e2 h6 hp.2.1.1 hp.2.1.2 hp.2.2 hf,List.length_cons];congr 2;omega
theorem vR (l:List aq) (hl:l.length≤1048576) (k:Int) (hk1:1≤k) (hk:k≤30) (i:Nat) (x:aq) (a:List aq) (s:aq) (r:List aq) (hd:l.drop i=x::(a++s::r)) (hx:x.f0=4∨x.f0=5) (h6:s.f0=6) (hp:inr 1 k a 1=true) (hf:fin a 1=1):
 cM.f l (i:Int)=some ((i+1+a.length:Nat):Int):=by
 simp only[cM.f,cM.begin,Tr.ak];obtain⟨h',e,e2⟩:=jE (a:=[]) (show l.drop i=[]++x::(a++s::r)from hd);rw[nY l i 0 h' hl (by omega) (by omega),show l[i]=x from e];have hdep:dep x.f0 0=1:=by unfold dep;rw[if_pos hx];rfl
 rw[hdep,if_neg (by omega)];exact yj l hl k hk a 1 (i+1) s r e2 h6 (by omega) (by omega) hp hf
theorem ja (x:Int):bT.f x=some (decide (x=1∨x=2)):=by
 simp only[bT.f,bT.begin,Tr.ag,Tr.al]
 by_cases h4:x=1
 ·simp[h4]
 ·simp[h4]
theorem tN (x:Int):cS.f x=some (decide (x=1∨x=3∨x=4)):=by
 simp only[cS.f,cS.begin,Tr.ag,Tr.al]
 by_cases h4:x=1
 ·simp[h4]
 ·by_cases h3:x=3
  ·simp[h3]
  ·simp[h4,h3]
theorem ly (zs:List Int) (P:Int→Prop) (h:∀x∈zs,P x):∀m,m≤zs.length→(∀x∈Go.Lib.compactUpTo zs.toArray m,P x)∧(Go.Lib.compactUpTo zs.toArray m).length≤m
 | 0,_=>by
   have:Go.Lib.compactUpTo zs.toArray 0=[]:=rfl;rw[this];exact⟨by simp,by simp⟩
 | m+1,hm=>by
   obtain⟨a,b⟩:=ly zs P h m (by omega);rw[Go.Lib.compactUpTo_succ]
   have hx:P (zs.toArray[m]!):=by
    have h':m<zs.length:=by omega
    have:zs.toArray[m]! =zs[m]:=by simp[h']
    rw[this];exact h _ (List.getElem_mem h')
   split
   ·refine⟨fun x hx'=> ?_,by rw[List.length_append,List.length_singleton];omega⟩;rcases List.mem_append.mp hx' with hx' | hx'
    ·exact a x hx'
    ·rw[List.mem_singleton]at hx';rw[hx'];exact hx
   ·rw[List.append_nil];exact⟨a,by omega⟩
theorem Ax (l:List Int) (P:Int→Prop) (h:∀x∈l,P x) (hl:l.length≤1048576):∃m n,slices_Sort_int.f l=some m∧slices_Compact_int.f m=some n∧(∀x∈n,P x)∧n.length≤l.length:=by
 have e1:slices_Sort_int.f l=some (l.mergeSort fun x y=>decide (x≤y)):=by
  unfold slices_Sort_int.f;rw[if_pos (by omega)]
 have hm:∀x∈(l.mergeSort fun x y=>decide (x≤y)),P x:=fun x hx=>h x (List.mem_mergeSort.mp hx);obtain⟨a,b⟩:=ly (l.mergeSort fun x y=>decide (x≤y)) P hm _ (Nat.le_refl _);refine⟨_,_,e1,rfl,a,?_⟩;have b':(Go.Lib.compact (l.mergeSort fun x y=>decide (x≤y))).length≤(l.mergeSort fun x y=>decide (x≤y)).length:=b;rw[List.length_mergeSort]at b';exact b'
def lk (k:Int) (l:List aq) (i:Nat):Prop:=∃d:Int,0≤d∧inr 0 k (l.drop i) d=true∧fin (l.drop i) d=0
theorem lk.next {k:Int} {l:List aq} {i:Nat} (h:lk k l i) (hi:i<l.length):wx l[i]=true∧lk k l (i+1):=by
 obtain⟨d,hd,h1,h2⟩:=h;rw[List.drop_eq_getElem_cons hi]at h1 h2;unfold inr at h1;rw[Bool.and_eq_true,Bool.and_eq_true,ca]at h1;exact⟨h1.1,dep l[i].f0 d,h1.2.1.1,h1.2.2,h2⟩
theorem pP {s:aq} (h:wx s=true) (hv:s.f0=1∨s.f0=2):0≤s.f1∧s.f1≤7:=by
 unfold wx nm at h;rcases hv with e | e
 ·rw[if_pos e]at h;simp only[Bool.and_eq_true,ca]at h;exact h.2.1
 ·rw[if_neg (by omega),if_pos e]at h;simp only[Bool.and_eq_true,ca]at h;exact h.2.1
def mw (m:List Int) (x:aM):List Int:=if x.f1= -1 then m else m.set x.f1.toNat x.f2
def cI (m:List Int) (o:List aM):List Int:=o.foldl mw m
def ow (x:aM):Prop:=(0≤x.f0∧x.f0≤5)∧(-1≤x.f1∧x.f1<49)
def jn (n:Nat) (M m:List Int):Prop:=jz n m=true∧iF M<+:iF m
def xC (n:Nat) (M:List Int) (o:List aM):Prop:=(∀x∈o,ow x)∧∀k,jn n M (cI M (o.take k))
theorem iM (m:List Int) (o:List aM) (x:aM):cI m (o++[x])=mw (cI m o) x:=by unfold cI;rw[List.foldl_append];rfl
theorem xC.snoc {n:Nat} {M:List Int} {o:List aM} {x:aM} (h:xC n M o) (hx:ow x) (hg:jn n M (mw (cI M o) x)):xC n M (o++[x]):=by
 refine⟨fun y hy=> ?_,fun k=> ?_⟩
 ·rcases List.mem_append.mp hy with hy | hy
  ·exact h.1 y hy
  ·rw[List.mem_singleton]at hy;rw[hy];exact hx
 ·by_cases q:k≤o.length
  ·rw[List.take_append_of_le_length q];exact h.2 k
  ·rw[List.take_of_length_le (by rw[List.length_append,List.length_singleton];omega),iM];exact hg
def zt (m:List Int) (tl:Int):List Int:=(m.drop 25).take tl.toNat
theorem l8 {m:List Int} {tl:Int} (h:(unpack (eG m 8)).2.2=tl) (h0:0≤tl):lP m=zt m tl:=by
 unfold lP zt;rw[h,List.drop_take];congr 1;omega
theorem kt {m:List Int} {t c tl:Int} (hm:m.length=49) (h:unpack (eG m 8)=(t,c,tl)) (h0:0≤tl):iF m=zt m tl:=by
 unfold iF;rw[if_pos hm,h,if_neg (by simp only;omega)];exact l8 (by rw[h]) h0
theorem fJ {m:List Int} {j i:Nat} {v:Int} (hj:j<m.length):(m.set j v).getD i 0=if i=j then v else m.getD i 0:=by
 rw[List.getD_eq_getElem?_getD,List.getElem?_set]
 by_cases h:i=j
 ·subst h;rw[if_pos rfl,if_pos rfl,if_pos hj];rfl
 ·rw[if_neg (fun e=>h e.symm),if_neg h,List.getD_eq_getElem?_getD]
theorem sN (m:List Int) (tl:Int) (i:Nat):(zt m tl)[i]? =if i<tl.toNat then m[25+i]? else none:=by
 unfold zt;rw[List.getElem?_take,List.getElem?_drop]
theorem sZ {m:List Int} {tl:Int} (h:∀i:Nat,(i:Int)<tl→isVal (m.getD (25+i) 0)=true):(zt m tl).all isVal=true:=by
 rw[List.all_eq_true];intro x hx;obtain⟨i,hi⟩:=List.mem_iff_getElem?.mp hx;rw[sN]at hi;split at hi
 ·have:=h i (by omega);rw[List.getD_eq_getElem?_getD,hi]at this;exact this
 ·cases hi
theorem xn {m M:List Int} {tl:Int} (hm:m.length=49) (hM:M.length=49) (h:∀i:Nat,(i:Int)<tl→m.getD (25+i) 0=M.getD (25+i) 0):zt m tl=zt M tl:=by
 refine List.ext_getElem? (fun i=> ?_);rw[sN,sN]
 by_cases q:i<tl.toNat
 ·rw[if_pos q,if_pos q]
  by_cases q':25+i<49
  ·have:=h i (by omega);rw[List.getD_eq_getElem?_getD,List.getElem?_eq_getElem (by omega),List.getD_eq_getElem?_getD,List.getElem?_eq_getElem (by omega)]at this;rw[List.getElem?_eq_getElem (by omega),List.getElem?_eq_getElem (by omega)];exact congrArg some this
  ·rw[List.getElem?_eq_none (by omega),List.getElem?_eq_none (by omega)]
 ·rw[if_neg q,if_neg q]
theorem Bv (m:List Int) {a b:Int} (h:a≤b):zt m a<+:zt m b:=by
 unfold zt;have:(m.drop 25).take a.toNat=((m.drop 25).take b.toNat).take a.toNat:=by rw[List.take_take,Nat.min_eq_left (by omega)]
 rw[this];exact List.take_prefix _ _
structure ns (n:Nat) (t tl:Int) (M:List Int):Prop where
 len:M.length=49
 t0:0≤t∧t<n∧t≤5
 C0:0≤tl∧tl≤24
 lP:iF M=zt M tl
 val:∀i:Nat,(i:Int)<tl→isVal (M.getD (25+i) 0)=true
structure u5 (t tl:Int) (M:List Int) (c:Nat) (s:Int) (m:List Int):Prop where
 len:m.length=49
 C6:eG m 8=pack t c tl
 c8:c≤8
 s0:0≤s
 var:∀i:Nat,i<8→isVal (m.getD i 0)=true
 log:∀i:Nat,i<c→jc m i=true
 yt:∀i:Nat,(i:Int)<tl→m.getD (25+i) 0=M.getD (25+i) 0
 new:∀i:Nat,tl≤(i:Int)→(i:Int)<tl+s→i<24→isVal (m.getD (25+i) 0)=true
theorem u5.gR {n:Nat} {t tl:Int} {M m:List Int} {c:Nat} {s:Int} (b:ns n t tl M) (h:u5 t tl M c s m):jn n M m:=by
 have hc:=h.c8;have ht:=b.t0;have htl:=b.C0;have hu:unpack (eG m 8)=(t,(c:Int),tl):=by rw[h.C6];exact nq (by omega) (by omega) (by omega)
 refine⟨pN h.len hu (by omega) ?_ ?_ ?_,?_⟩
 ·rw[List.all_eq_true];intro x hx;obtain⟨i,hi,rfl⟩:=List.mem_iff_getElem.mp hx;rw[List.length_take]at hi;have:=h.var i (by omega);rw[List.getD_eq_getElem?_getD,List.getElem?_eq_getElem (by have:=h.len;omega)]at this;rw[List.getElem_take];exact this
 ·rw[l8 (tl:=tl) (by rw[hu]) (by omega)];exact sZ (fun i hi=>by rw[h.yt i hi];exact b.val i hi)
 ·rw[List.all_eq_true];intro i hi;rw[List.mem_range]at hi;exact h.log i (by omega)
 ·rw[kt h.len hu (by omega),b.lP,xn h.len b.len h.yt];exact List.prefix_rfl
theorem nB (m:List Int) (i:Nat):eG m (i:Int)=m.getD i 0:=by show m.getD ((i:Int)).toNat 0=_;rw[Int.toNat_natCast]
theorem lq (m:List Int) (i:Nat):jc m i=(gv (m.getD (9+2*i) 0) 0 7&&isVal (m.getD (9+2*i+1) 0)):=by
 unfold jc;rw[←nB,←nB];congr 2
theorem u5.set {t tl:Int} {M m:List Int} {c:Nat} {s:Int} (h:u5 t tl M c s m) {j:Nat} {v:Int} (hj:j<49) (h8:j≠8) (hv:j<8→isVal v=true) (hlog:j<9∨9+2*c≤j) (hbox:j<25∨(tl≤(j:Int)-25∧isVal v=true)):u5 t tl M c s (m.set j v) where
 len:=by rw[List.length_set];exact h.len
 C6:=by have e:=h.C6;have:=h.len;rw[show(8:Int)=((8:Nat):Int)from rfl,nB]at e⊢;rw[fJ (by omega),if_neg (by omega)];exact e
 c8:=h.c8
 s0:=h.s0
 var:=fun i hi=>by
  have:=h.len;rw[fJ (by omega)];split
  ·exact hv (by omega)
  ·exact h.var i hi
 log:=fun i hi=>by
  have:=h.len;have e:=h.log i hi;rw[lq]at e⊢;rw[fJ (by omega),fJ (by omega)]
  by_cases q:j<9
  ·rw[if_neg (by omega),if_neg (by omega)];exact e
  ·rw[if_neg (by omega),if_neg (by omega)];exact e
 yt:=fun i hi=>by
  have:=h.len;rw[fJ (by omega),if_neg (by omega)];exact h.yt i hi
 new:=fun i h1 h2 h3=>by
  have:=h.len;rw[fJ (by omega)];split
  ·rcases hbox with q | q
   ·omega
   ·exact q.2
  ·exact h.new i h1 h2 h3
theorem u5.Dp {t tl:Int} {M m:List Int} {c:Nat} {s:Int} (h:u5 t tl M c s m) (hc:c<8) (hp:jc m c=true):u5 t tl M (c+1) s (m.set 8 (pack t ((c+1:Nat):Int) tl)) where
 len:=by rw[List.length_set];exact h.len
 C6:=xd (by have:=h.len;omega) rfl
 c8:=by omega
 s0:=h.s0
 var:=fun i hi=>by have:=h.len;rw[fJ (by omega),if_neg (by omega)];exact h.var i hi
 log:=fun i hi=>by
  have:=h.len
  have e:jc m i=true:=by
   rcases(show i<c∨i=c by omega)with q | q
   ·exact h.log i q
   ·rw[q];exact hp
  rw[lq]at e⊢;rw[fJ (by omega),fJ (by omega),if_neg (by omega),if_neg (by omega)];exact e
 yt:=fun i hi=>by have:=h.len;rw[fJ (by omega),if_neg (by omega)];exact h.yt i hi
 new:=fun i h1 h2 h3=>by have:=h.len;rw[fJ (by omega),if_neg (by omega)];exact h.new i h1 h2 h3
theorem u5.box {t tl:Int} {M m:List Int} {c:Nat} {s:Int} (htl:0≤tl) (h:u5 t tl M c s m) {j:Nat} {v:Int} (hj:(j:Int)=tl+s) (h24:j<24) (hv:isVal v=true):u5 t tl M c (s+1) (m.set (25+j) v):=by
 have hs:=h.s0;have hc:=h.c8;have h':=h.set (j:=25+j) (v:=v) (by omega) (by omega) (fun q=>by omega) (Or.inr (by omega)) (Or.inr ⟨by omega,hv⟩)
 exact{h' with
  s0:=by omega
  new:=fun i h1 h2 h3=>by
   by_cases q:i=j
   ·subst q;rw[fJ (by have:=h.len;omega),if_pos rfl];exact hv
   ·exact h'.new i h1 (by omega) h3}
theorem u5.Dn {t tl:Int} {M m:List Int} {c:Nat} {s:Int} (h:u5 t tl M c s m) (h24:24≤tl+s):u5 t tl M c (s+1) m:=
 {h with
  s0:=by have:=h.s0;omega
  new:=fun i h1 h2 h3=>h.new i h1 (by omega) h3}
theorem u5.last {n:Nat} {t tl:Int} {M m:List Int} {c:Nat} {s nt tl':Int} (b:ns n t tl M) (h:u5 t tl M c s m) (hn:n≤6) (hnt:0≤nt∧nt<n) (htl:tl'=if tl+s<24 then tl+s else 24):
 jn n M (m.set 8 (pack nt 0 tl'))∧unpack (eG (m.set 8 (pack nt 0 tl')) 8)=(nt,0,tl'):=by
 have hs:=h.s0;have h0:=b.C0;have hr:tl≤tl'∧tl'≤24∧tl'≤tl+s:=by rw[htl];split<;>omega
 have hlen:=h.len;have hu:unpack (eG (m.set 8 (pack nt 0 tl')) 8)=(nt,0,tl'):=by rw[show eG (m.set 8 (pack nt 0 tl')) 8=pack nt 0 tl' from xd (by omega) rfl];exact nq (by omega) (by omega) (by omega)
 have hl':(m.set 8 (pack nt 0 tl')).length=49:=by rw[List.length_set];exact h.len
 have hg:∀i:Nat,i≠8→(m.set 8 (pack nt 0 tl')).getD i 0=m.getD i 0:=fun i hi=>by rw[fJ (by omega),if_neg hi]
 refine⟨⟨pN hl' hu (by omega) ?_ ?_ rfl,?_⟩,hu⟩
 ·rw[List.all_eq_true];intro x hx;obtain⟨i,hi,rfl⟩:=List.mem_iff_getElem.mp hx;rw[List.length_take]at hi;have:=h.var i (by omega);rw[←hg i (by omega),List.getD_eq_getElem?_getD,List.getElem?_eq_getElem (by omega)]at this;rw[List.getElem_take];exact this
 ·rw[l8 (tl:=tl') (by rw[hu]) (by omega)];refine sZ (fun i hi=> ?_);rw[hg _ (by omega)]
  by_cases q:(i:Int)<tl
  ·rw[h.yt i q];exact b.val i q
  ·exact h.new i (by omega) (by omega) (by omega)
 ·rw[kt hl' hu (by omega),b.lP];have e:zt M tl=zt (m.set 8 (pack nt 0 tl')) tl:=(xn hl' b.len (fun i hi=>by rw[hg _ (by omega)];exact h.yt i hi)).symm;rw[e];exact Bv _ hr.1
structure TI (n:Nat) (t tl:Int) (M:List Int) (B:Nat) (o:List aM) (u:List Int) (sn:Int) (lg:List Int) (f:List Bool) (vs:List Int):Prop where
 safe:xC n M o
 run:u5 t tl M lg.length sn (cI M o)
 used:∀x∈u,isVal x=true
 ma:o.length≤B
 tq:u.length≤B
 Ap:sn≤B
 Bp:lg.length≤f.count true
 zL:zi vs=true
theorem TI.mono {n:Nat} {t tl:Int} {M:List Int} {B B':Nat} {o:List aM} {u:List Int} {sn:Int} {lg:List Int} {f:List Bool} {vs:List Int} (h:TI n t tl M B o u sn lg f vs) (hB:B≤B'):TI n t tl M B' o u sn lg f vs:=
 {h with ma:=Nat.le_trans h.ma hB,tq:=Nat.le_trans h.tq hB,Ap:=by have:=h.Ap;omega}
theorem TI.push {n:Nat} {t tl:Int} {M:List Int} {B:Nat} {o:List aM} {u:List Int} {sn:Int} {lg:List Int} {f:List Bool} {vs:List Int} (b:ns n t tl M) (h:TI n t tl M B o u sn lg f vs)
 (x:aM) {sn':Int} {lg':List Int} {f':List Bool} {vs':List Int} (hx:ow x) (hr:u5 t tl M lg'.length sn' (mw (cI M o) x)) (hs:sn'≤B+1) (hl:lg'.length≤f'.count true) (hv:zi vs'=true):
 TI n t tl M (B+1) (o++[x]) u sn' lg' f' vs' where
 safe:=h.safe.snoc hx (hr.gR b)
 run:=by rw[iM];exact hr
 used:=h.used
 ma:=by rw[List.length_append,List.length_singleton];have:=h.ma;omega
 tq:=by have:=h.tq;omega
 Ap:=by omega
 Bp:=hl
 zL:=hv
theorem TI.work {n:Nat} {t tl:Int} {M:List Int} {B:Nat} {o:List aM} {u:List Int} {sn:Int} {lg:List Int} {f:List Bool} {vs:List Int} (b:ns n t tl M) (h:TI n t tl M B o u sn lg f vs)
 {c:Int} (hc:0≤c∧c≤5):TI n t tl M (B+1) (o++[(⟨c,-1,0⟩:aM)]) u sn lg f vs:=
 h.push b _ ⟨hc,by show(-1:Int)≤-1∧(-1:Int)<49;omega⟩ h.run (by have:=h.Ap;omega) h.Bp h.zL
theorem mF {vs:List Int}:zi vs=true↔vs.all isVal=true∧vs.length=8:=by
 unfold zi;rw[Bool.and_eq_true,decide_eq_true_eq];exact⟨fun h=>⟨h.1,by have:=h.2;omega⟩,fun h=>⟨h.1,by have:=h.2;omega⟩⟩
theorem BQ {vs:List Int} {k:Nat} {v:Int} (h:zi vs=true) (hv:isVal v=true):zi (vs.set k v)=true:=by
 rw[mF]at h⊢;exact⟨Br h.1 hv,by rw[List.length_set];exact h.2⟩
theorem mU (m:List Int) (c j v:Int) (hj:0≤j):mw m (⟨c,j,v⟩:aM)=m.set j.toNat v:=by
 unfold mw;rw[if_neg (by show¬j= -1;omega)]
theorem v8 (l:List Bool):l.count true≤l.length:=List.count_le_length
theorem wB (l:List Bool) (k:Nat):l.count true≤(l.set k true).count true:=by
 by_cases h:k<l.length
 ·have hp:=List.count_pos_iff (a:=true) (l:=l);rw[List.count_set h];cases hb:l[k]with
  | true=>
    have:0<l.count true:=hp.mpr (hb▸List.getElem_mem h);simp;omega
  | false=>simp
 ·rw[List.set_eq_of_length_le (by omega)];exact Nat.le_refl _
theorem vc (l:List Bool) (k:Nat) (h:k<l.length) (hf:l.getD k true=false):(l.set k true).count true=l.count true+1:=by
 rw[List.getD_eq_getElem?_getD,List.getElem?_eq_getElem h]at hf;have hf':l[k]=false:=hf;rw[List.count_set h,hf'];simp
theorem jG (c:Int) (o:List aM) (u:List Int) (t tl sn:Int) (lg:List Int) (f0 f1 f2 f3 f4 f5 f6 f7:Bool) (vs:List Int) (ho:o.length≤1000000):
 b7.f c o u t tl sn lg f0 f1 f2 f3 f4 f5 f6 f7 vs=some (o++[(⟨c,-1,0⟩:aM)],u,t,tl,sn,lg,f0,f1,f2,f3,f4,f5,f6,f7,vs):=by
 simp only[b7.f,b7.begin,Tr.an,Tr.al,gp o _ 1048576 (by omega) (by omega) 24 (by omega),↓reduceIte]
theorem gA (a v:Int) (o:List aM) (u:List Int) (t tl sn:Int) (lg:List Int) (f0 f1 f2 f3 f4 f5 f6 f7:Bool) (vs:List Int) (ho:o.length≤1000000):
 aZ.f a v o u t tl sn lg f0 f1 f2 f3 f4 f5 f6 f7 vs=some (o++[(⟨3,a,v⟩:aM)],u,t,tl,sn,lg,f0,f1,f2,f3,f4,f5,f6,f7,vs):=by
 simp only[aZ.f,aZ.begin,Tr.an,Tr.al,gp o _ 1048576 (by omega) (by omega) 24 (by omega),↓reduceIte]
set_option maxHeartbeats 4000000 in
theorem Af (k v:Int) (o:List aM) (u:List Int) (t tl sn:Int) (lg:List Int) (f0 f1 f2 f3 f4 f5 f6 f7:Bool) (vs:List Int) (hk:0≤k∧k≤7):∃g0 g1 g2 g3 g4 g5 g6 g7:Bool,[g0,g1,g2,g3,g4,g5,g6,g7]=([f0,f1,f2,f3,f4,f5,f6,f7]:List Bool).set k.toNat true∧lp aL.tree (.c6 k v o u t tl sn lg f0 f1 f2 f3 f4 f5 f6 f7 vs)=lp aL.tree (.c7 k v o u t tl sn lg g0 g1 g2 g3 g4 g5 g6 g7 vs):=by
 rw[aF]
 rcases(show k=0∨k=1∨k=2∨k=3∨k=4∨k=5∨k=6∨k=7 by omega)with rfl | rfl | rfl | rfl | rfl | rfl | rfl | rfl<;>
  (simp only[aL.tree,Tr.ag,Tr.ak,decide_true,↓reduceIte,Int.reduceEq,decide_false,Bool.false_eq_true]
   exact⟨_,_,_,_,_,_,_,_,rfl,rfl⟩)
theorem uN {s:aq} (h:wx s=true):(1≤s.f0∧s.f0≤6)∧(s.f0=5→1≤s.f2∧s.f2≤5):=by
 unfold wx nm at h;refine⟨?_,fun e=> ?_⟩
 ·split at h
  ·omega
  ·split at h
   ·omega
   ·split at h
    ·omega
    ·split at h
     ·omega
     ·split at h
      ·omega
      ·cases h
 ·rw[if_neg (by omega),if_neg (by omega),if_neg (by omega),if_pos e]at h;simp only[Bool.and_eq_true,ca]at h;exact h.2.2
theorem AD (x:Int):isVal (sat x)=true:=by unfold isVal;rw[ca];exact oq x
theorem TI.CG {n:Nat} {t tl:Int} {M:List Int} {B:Nat} {o:List aM} {u:List Int} {sn:Int} {lg:List Int} {f:List Bool} {vs:List Int} (h:TI n t tl M B o u sn lg f vs) {v:Int} (hv:isVal v=true):TI n t tl M (B+1) o (u++[v]) sn lg f vs:=
 {h with
  used:=fun x hx=>by
   rcases List.mem_append.mp hx with hx | hx
   ·exact h.used x hx
   ·rw[List.mem_singleton]at hx;rw[hx];exact hv
  ma:=by have:=h.ma;omega
  tq:=by have:=h.tq;rw[List.length_append,List.length_singleton];omega
  Ap:=by have:=h.Ap;omega}
def W5 (k:Nat):Nat:=6*5 ^ k
theorem BP (k:Nat):W5 (k+1)=5*W5 k:=by unfold W5;rw[Nat.pow_succ];omega
theorem Cj (k:Nat):6≤W5 k:=by have:0<5 ^ k:=Nat.pow_pos (by omega);unfold W5;omega
theorem zk {w a b c:Int} (h:unpack w=(a,b,c)) (ha:0≤a):w=pack a b c:=by
 unfold unpack at h;split at h
 ·have:=congrArg Prod.fst h;simp only at this;omega
 ·split at h
  ·rename_i e;have h1:Int.tmod w 8=a:=congrArg Prod.fst h;have h2:Int.tmod (wr (Int.tdiv w 8)) 16=b:=congrArg (fun x=>x.2.1) h;have h3:wr (Int.tdiv w 128)=c:=congrArg (fun x=>x.2.2) h;rw[h1,h2,h3]at e;exact e.symm
  ·have:=congrArg Prod.fst h;simp only at this;omega
theorem j8 {n:Nat} {m:List Int} (h:jz n m=true):∃t c tl,unpack (eG m 8)=(t,c,tl)∧eG m 8=pack t c tl∧m.length=49∧(0≤t∧t<n∧t≤5)∧(0≤c∧c≤8)∧(0≤tl∧tl≤24)∧
 (m.take 8).all isVal=true∧(∀i:Nat,(i:Int)<tl→isVal (m.getD (25+i) 0)=true)∧(∀i:Nat,(i:Int)<c→jc m i=true)∧iF m=zt m tl:=by
 obtain⟨h1,h2,h3,h4,h5,h6⟩:=gX h;obtain⟨g1,g2,g3,g4,g5,g6⟩:=rV h2;rcases hu:unpack (eG m 8)with⟨t,c,tl⟩
 rw[hu]at h2 h3 h6 g1 g2 g3 g4 g5 g6;simp only at h2 h3 h6 g1 g2 g3 g4 g5 g6;refine⟨t,c,tl,rfl,zk hu g1,h1,⟨g1,h3,g2⟩,⟨g3,g4⟩,⟨g5,g6⟩,h4,fun i hi=> ?_,fun i hi=> ?_,kt h1 hu g5⟩
 ·rw[l8 (tl:=tl) (by rw[hu]) g5,List.all_eq_true]at h5;refine h5 _ (List.mem_iff_getElem?.mpr ⟨i,?_⟩);rw[sN,if_pos (by omega),List.getD_eq_getElem?_getD,List.getElem?_eq_getElem (by omega)];rfl
 ·rw[List.all_eq_true]at h6;exact h6 i (List.mem_range.mpr (by omega))
theorem uE {m:List Int} (hm:m.length=49) (h:(m.take 8).all isVal=true) (i:Nat) (hi:i<8):isVal (m.getD i 0)=true:=by
 rw[List.all_eq_true]at h;refine h _ (List.mem_iff_getElem?.mpr ⟨i,?_⟩);rw[List.getElem?_take,if_pos hi,List.getD_eq_getElem?_getD,List.getElem?_eq_getElem (by omega)];rfl
theorem Clean.base {n:Nat} {m:List Int} (h:Clean n m):∃t tl,unpack (eG m 8)=(t,0,tl)∧ns n t tl m∧u5 t tl m 0 0 m:=by
 obtain⟨t,c,tl,hu,hc,hm,ht,hcc,htl,h8,hs,hl,hw⟩:=j8 h.1;have hc0:c=0:=by have:=h.2;rw[hu]at this;exact this
 subst hc0;exact⟨t,tl,hu,⟨hm,ht,htl,hw,hs⟩,⟨hm,hc,by omega,by omega,fun i hi=>uE hm h8 i hi,fun i hi=>absurd hi (by omega),fun i _=>rfl,fun i h1 h2 _=>absurd h1 (by omega)⟩⟩
theorem Bf {p:List az} (hp:vt p=true) {t:Int} (ht:0≤t∧t<(p.length:Int)):okB (aV p t).f0.length (aV p t).f0 0=true∧(aV p t).f0.length≤24:=by
 obtain⟨i,rfl⟩:∃i:Nat,t=i:=⟨t.toNat,by omega⟩;have hi:i<p.length:=by omega
 have e:aV p (i:Int)=p[i]:=aX hi;unfold vt at hp;rw[Bool.and_eq_true,List.all_eq_true]at hp;have:=hp.1 _ (List.getElem_mem hi);unfold BT at this;rw[Bool.and_eq_true]at this;rw[e];exact⟨this.1,(jU _ _ _ this.1).2.2⟩
structure B5 (n:Nat) (m:List Int) (o:List aM) (u:List Int):Prop where
 safe:xC n m o
 ma:o.length≤20000
 used:∀x∈u,isVal x=true
 tq:u.length≤20000
 clean:Clean n (cI m o)
theorem mX (zs:List Int) (x:Int):∀m,m≤zs.length→(x∈Go.Lib.compactUpTo zs.toArray m↔x∈zs.take m)
 | 0,_=>by
   have:Go.Lib.compactUpTo zs.toArray 0=[]:=rfl;rw[this,List.take_zero]
 | m+1,hm=>by
   have h':m<zs.length:=by omega
   have ih:=mX zs x m (by omega);have hm':zs.toArray[m]! =zs[m]:=by simp[h']
   rw[Go.Lib.compactUpTo_succ,List.take_add_one,List.getElem?_eq_getElem h',List.mem_append,List.mem_append,ih,hm']
   by_cases q:Go.Lib.keeps zs.toArray m=true
   ·rw[if_pos q];rfl
   ·rw[if_neg q];unfold Go.Lib.keeps at q;rw[decide_eq_true_eq,not_or,Classical.not_not,hm']at q;have h'':m-1<zs.length:=by omega
    have e:zs.toArray[m-1]! =zs[m-1]:=by simp[h'']
    rw[e]at q;refine⟨fun h=>h.elim Or.inl (fun h=>by simp at h),fun h=>h.elim Or.inl fun h=>Or.inl ?_⟩;have hx:x=zs[m]:=by simpa using h
    rw[hx,q.2];refine List.mem_iff_getElem?.mpr ⟨m-1,?_⟩;rw[List.getElem?_take,if_pos (by omega),List.getElem?_eq_getElem h'']
theorem oZ (l:List Int) (hl:l.length≤1048576):∃m n,slices_Sort_int.f l=some m∧slices_Compact_int.f m=some n∧(∀x,x∈n↔x∈l)∧n.length≤l.length:=by
 obtain⟨m,n,e1,e2,_,h⟩:=Ax l (fun _=>True) (fun _ _=>trivial) hl;refine⟨m,n,e1,e2,fun x=> ?_,h⟩
 have e1':slices_Sort_int.f l=some (l.mergeSort fun x y=>decide (x≤y)):=by
  unfold slices_Sort_int.f;rw[if_pos (by omega)]
 obtain rfl:=Option.some.inj (e1.symm.trans e1');have e2':slices_Compact_int.f (l.mergeSort fun x y=>decide (x≤y))=some (Go.Lib.compact (l.mergeSort fun x y=>decide (x≤y))):=rfl;obtain rfl:=Option.some.inj (e2.symm.trans e2');have:=mX (l.mergeSort fun x y=>decide (x≤y)) x _ (Nat.le_refl _);rw[List.take_length,List.mem_mergeSort]at this;exact this
theorem oX (l:List Int) (k:Int) (hl:l.length≤1048576):∃r,bW.f l k=some r∧decide (r≥0)=l.any (fun x=>decide (k=x)):=by
 simp only[bW.f,bW.begin,Tr.ak];refine rF l (fun x=>decide (k=x)) (fun i=>lp bW.tree (.c2 l k (l.length:Int) (i:Int))) (fun i h=> ?_) ?_
 ·rw[aF];simp only[bW.tree,Tr.ag,Tr.an,Tr.al,Tr.ak,bk h,bB h,aX h,and_self,decide_true,↓reduceIte,aN (show i<4611686018427387904 by omega)]
 ·rw[aF];simp only[bW.tree,Tr.ag,Tr.al,cP,Bool.false_eq_true,↓reduceIte]
theorem lI (l:List Int) (k:Int) (hl:l.length≤1048576):ez.f l k=some (decide (k∈l)):=by
 obtain⟨r,e,h⟩:=oX l k hl;simp only[ez.f,ez.begin,Tr.aj,Tr.al,cv.told,cv.f,cv.begin,bW.told,e,ai,h];congr 1;rw[Bool.eq_iff_iff,List.any_eq_true,decide_eq_true_eq];exact⟨fun⟨x,hx,he⟩=>by rw[of_decide_eq_true he];exact hx,fun h=>⟨k,h,decide_eq_true rfl⟩⟩
def Wr (l:List aq) (g:Nat→Prop) (i:Nat) (x:Int):Prop:=∃j y,j<i∧l[j]? =some y∧g j∧(y.f0=1∨y.f0=2)∧y.f1=x
theorem s6 {l:List aq} {g:Nat→Prop} {x:Int}:¬Wr l g 0 x:=fun⟨_,_,h,_⟩=>absurd h (by omega)
theorem kK {l:List aq} {g:Nat→Prop} {i:Nat} {x:Int} (h:i<l.length):Wr l g (i+1) x↔Wr l g i x∨(g i∧(l[i].f0=1∨l[i].f0=2)∧l[i].f1=x):=by
 refine⟨fun⟨j,y,h1,h2,h3⟩=> ?_,fun h'=> ?_⟩
 ·by_cases q:j<i
  ·exact Or.inl ⟨j,y,q,h2,h3⟩
  ·obtain rfl:j=i:=by omega
   rw[List.getElem?_eq_getElem h]at h2;cases h2;exact Or.inr h3
 ·rcases h' with⟨j,y,h1,h2⟩ | h'
  ·exact⟨j,y,by omega,h2⟩
  ·exact⟨i,l[i],by omega,List.getElem?_eq_getElem h,h'⟩
theorem A9 {l:List aq} {g g':Nat→Prop} {i:Nat} {x:Int} (h:∀j,j<i→(g j↔g' j)):Wr l g i x↔Wr l g' i x:=
 ⟨fun⟨j,y,h1,h2,h3,h4⟩=>⟨j,y,h1,h2,(h j h1).mp h3,h4⟩,fun⟨j,y,h1,h2,h3,h4⟩=>⟨j,y,h1,h2,(h j h1).mpr h3,h4⟩⟩
theorem iW (x a:Int) (s:List Int):x∈s++[a]↔x∈s∨a=x:=by
 rw[List.mem_append,List.mem_singleton];exact⟨fun h=>h.imp id Eq.symm,fun h=>h.imp id Eq.symm⟩
theorem pV (l:List aq) (hl:l.length≤1048576) (hb:okB l.length l 0=true):∃r,eK.f l=some r∧r.length≤l.length∧∀x,x∈r↔Wr l (fun _=>True) l.length x:=by
 have key:=upto l.length (fun i (s:List Int)=>s.length≤i∧∀x,x∈s↔Wr l (fun _=>True) i x) (fun i s=>lp cC.tree (.c3 s l (l.length:Int) (i:Int))) (fun r=>r.length≤l.length∧∀x,x∈r↔Wr l (fun _=>True) l.length x) (fun i hi s hs=>by
  obtain⟨hs,hm⟩:=hs;rw[aF]
  by_cases q:i<l.length
  ·have fit:∀x:Int,((s.length:Int)+(([x]:List Int).length:Int))*(8:Nat)≤room:=fun x=>gp s x 1048576 (by omega) (by omega) 8 (by omega)
   by_cases hv:l[i].f0=1∨l[i].f0=2
   ·refine Or.inr ⟨q,s++[l[i].f1],?_,by rw[List.length_append,List.length_singleton];omega,fun x=> ?_⟩
    ·simp only[cC.tree,Tr.ag,Tr.an,Tr.aj,Tr.ak,bk q,bB q,aX q,and_self,↓reduceIte,bT.told,ja,ai,hv,decide_true,dA.told,dA.f,dA.begin,Tr.al,fit,aN (show i<4611686018427387904 by omega)]
    ·rw[iW,hm,kK q];exact⟨fun h=>h.imp id fun h=>⟨trivial,hv,h⟩,fun h=>h.imp id fun h=>h.2.2⟩
   ·refine Or.inr ⟨q,s,?_,by omega,fun x=> ?_⟩
    ·simp only[cC.tree,Tr.ag,Tr.an,Tr.aj,Tr.ak,bk q,bB q,aX q,and_self,↓reduceIte,bT.told,ja,ai,hv,decide_false,decide_true,Bool.false_eq_true,aN (show i<4611686018427387904 by omega)]
    ·rw[hm,kK q];exact⟨Or.inl,fun h=>h.elim id fun h=>absurd h.2.1 hv⟩
  ·obtain rfl:i=l.length:=by omega
   obtain⟨m,n,e1,e2,hn,b⟩:=oZ s (by omega);refine Or.inl ⟨n,?_,by omega,fun x=>by rw[hn,hm]⟩;simp only[cC.tree,Tr.ag,Tr.aj,Tr.al,cP,Bool.false_eq_true,↓reduceIte,slices_Sort_int.told,e1,slices_Compact_int.told,e2,ai]) 0 (by omega) [] ⟨by simp,fun x=>⟨fun h=>by simp at h,fun h=>absurd h s6⟩⟩
 obtain⟨r,e,h⟩:=key;refine⟨r,?_,h⟩;simp only[eK.f,eK.begin,Tr.aj,Tr.ag,Tr.al,bQ.told,jk l hl,ai,cC.told,cC.f,cC.begin,Tr.ak,hb,Bool.not_true,Bool.false_eq_true,↓reduceIte];have e':lp cC.tree (.c3 [] l (l.length:Int) 0)=some r:=e;rw[e'];rfl
theorem rI (l:List aq) (g:List Bool) (hl:l.length≤1048576) (hg:g.length=l.length):∃r,dJ.f l g=some r∧r.1.length≤l.length∧∀x,x∈r.1↔Wr l (fun j=>g[j]? =some false) l.length x:=by
 have key:=upto l.length (fun i (s:List Int)=>s.length≤i∧∀x,x∈s↔Wr l (fun j=>g[j]? =some false) i x) (fun i s=>lp dJ.tree (.c3 s l (l.length:Int) (i:Int) g)) (fun r=>r.1.length≤l.length∧∀x,x∈r.1↔Wr l (fun j=>g[j]? =some false) l.length x) (fun i hi s hs=>by
  obtain⟨hs,hm⟩:=hs;rw[aF]
  by_cases q:i<l.length
  ·have q':i<g.length:=by omega
   have fit:∀x:Int,((s.length:Int)+(([x]:List Int).length:Int))*(8:Nat)≤room:=fun x=>gp s x 1048576 (by omega) (by omega) 8 (by omega)
   by_cases hv:l[i].f0=1∨l[i].f0=2
   ·cases hb:g[i]with
    | false=>
      refine Or.inr ⟨q,s++[l[i].f1],?_,by rw[List.length_append,List.length_singleton];omega,fun x=> ?_⟩
      ·simp only[dJ.tree,Tr.ag,Tr.an,Tr.aj,Tr.ak,bk q,bB q,bB q',aX q,aX q',hb,and_self,↓reduceIte,bT.told,ja,ai,hv,decide_true,cu.told,cu.f,cu.begin,Tr.al,Bool.not_false,fit,aN (show i<4611686018427387904 by omega)]
      ·rw[iW,hm,kK q,List.getElem?_eq_getElem q',hb];exact⟨fun h=>h.imp id fun h=>⟨rfl,hv,h⟩,fun h=>h.imp id fun h=>h.2.2⟩
    | true=>
      refine Or.inr ⟨q,s,?_,by omega,fun x=> ?_⟩
      ·simp only[dJ.tree,Tr.ag,Tr.an,Tr.aj,Tr.ak,bk q,bB q,bB q',aX q,aX q',hb,and_self,↓reduceIte,bT.told,ja,ai,hv,decide_true,cu.told,cu.f,cu.begin,Tr.al,Bool.not_true,Bool.false_eq_true,fit,aN (show i<4611686018427387904 by omega)]
      ·rw[hm,kK q,List.getElem?_eq_getElem q',hb];exact⟨Or.inl,fun h=>h.elim id fun h=>by cases h.1⟩
   ·refine Or.inr ⟨q,s,?_,by omega,fun x=> ?_⟩
    ·simp only[dJ.tree,Tr.ag,Tr.an,Tr.aj,Tr.ak,bk q,bB q,aX q,and_self,↓reduceIte,bT.told,ja,ai,hv,decide_false,decide_true,Bool.false_eq_true,aN (show i<4611686018427387904 by omega)]
    ·rw[hm,kK q];exact⟨Or.inl,fun h=>h.elim id fun h=>absurd h.2.1 hv⟩
  ·obtain rfl:i=l.length:=by omega
   obtain⟨m,n,e1,e2,hn,b⟩:=oZ s (by omega);refine Or.inl ⟨(n,g),?_,by show n.length≤_;omega,fun x=>by rw[←hm];exact hn x⟩;simp only[dJ.tree,Tr.ag,Tr.aj,Tr.al,cP,Bool.false_eq_true,↓reduceIte,slices_Sort_int.told,e1,slices_Compact_int.told,e2,ai]) 0 (by omega) [] ⟨by simp,fun x=>⟨fun h=>by simp at h,fun h=>absurd h s6⟩⟩
 exact key
def Ends (l:List aq) (i e:Nat):Prop:=∃x a s r,l.drop i=x::(a++s::r)∧(x.f0=4∨x.f0=5)∧s.f0=6∧inr 1 30 a 1=true∧fin a 1=1∧e=i+1+a.length
theorem Ends.yF {l:List aq} {i e:Nat} (h:Ends l i e) (hl:l.length≤1048576):cM.f l (i:Int)=some (e:Int):=by
 obtain⟨x,a,s,r,h1,h2,h3,h4,h5,rfl⟩:=h;exact vR l hl 30 (by omega) (by omega) i x a s r h1 h2 h3 h4 h5
theorem Ends.inj {l:List aq} {i e e':Nat} (hl:l.length≤1048576) (h:Ends l i e) (h':Ends l i e'):e=e':=by
 have:=(h.yF hl).symm.trans (h'.yF hl);have:=Option.some.inj this;omega
theorem lk.zO {k:Int} {l:List aq} {i:Nat} (h:lk k l i) (hi:i<l.length) (hk:k≤30) (hx:l[i].f0=4∨l[i].f0=5):
 ∃a s r,l.drop i=l[i]::(a++s::r)∧s.f0=6∧1≤k∧Dd (k-1) a∧inr 1 30 a 1=true∧fin a 1=1∧i+1+a.length<l.length∧(l.take (i+1+a.length)).drop (i+1)=a∧l.drop (i+1+a.length+1)=r∧lk k l (i+1+a.length+1):=by
 obtain⟨d,hd,h1,h2⟩:=h;have hdr:=List.drop_eq_getElem_cons hi;rw[hdr]at h1 h2;obtain⟨a,s,r,e1,e6,k1,hb,p1,p2,p3,p4⟩:=tv hd hx h1 h2;rw[e1]at hdr;obtain⟨g1,g2,g3⟩:=jE (show l.drop i=(l[i]::a)++s::r from hdr);simp only[List.length_cons]at g1 g3
 have hia:(l.take (i+1+a.length)).drop (i+1)=a:=by
  rw[List.drop_take,show i+1+a.length-(i+1)=a.length by omega];have:l.drop (i+1)=a++s::r:=e1;rw[this];simp
 have g3':l.drop (i+1+a.length+1)=r:=by rw[show i+1+a.length+1=i+(a.length+1)+1 by omega];exact g3
 exact⟨a,s,r,hdr,e6,k1,hb,mr (by omega) hk a 1 p1,p2,by omega,hia,g3',d,hd,by rw[g3'];exact p3,by rw[g3'];exact p4⟩
def yH (l:List aq) (i e:Nat):Prop:=(∃x,l[i]? =some x∧x.f0=4)∧Ends l i e
def yQ (l:List aq) (j:Nat):Prop:=∃i e,yH l i e∧i≤j∧j≤e
theorem lk.at {k:Int} {l:List aq}:∀(i:Nat),lk k l 0→i≤l.length→lk k l i
 | 0,h,_=>h
 | i+1,h,hi=>((lk.at i h (by omega)).next (by omega)).2
theorem nested {k:Int} {l:List aq} {i:Nat} {x:aq} {a:List aq} {s:aq} {r:List aq} (hl:l.length≤1048576) (hd:l.drop i=x::(a++s::r)) (hs:s.f0=6) (hb:Dd k a) (hk:k≤30) {i' e':Nat} (h1:i<i') (h2:i'≤i+1+a.length) (h:yH l i' e'):e'≤i+1+a.length:=by
 obtain⟨⟨y,hy,h4⟩,he⟩:=h;obtain⟨m,rfl⟩:∃m,i'=i+1+m:=⟨i'-(i+1),by omega⟩;have hdrop:l.drop (i+1)=a++s::r:=by rw[←List.drop_drop,hd];rfl
 have hy':(a++s::r)[m]? =some y:=by rw[←hdrop,List.getElem?_drop];exact hy
 have hm:m<a.length:=by
  by_cases q:m<a.length
  ·exact q
  ·have:m=a.length:=by omega
   subst this;rw[List.getElem?_append_right (Nat.le_refl _),Nat.sub_self]at hy';have:s=y:=Option.some.inj hy';rw[←this]at h4;omega
 rw[List.getElem?_append_left hm,List.getElem?_eq_getElem hm]at hy';have hy'':a[m]=y:=Option.some.inj hy';have hF:lk k a 0:=⟨0,by omega,hb.1,hb.2⟩;obtain⟨a',s',r',e1,e6,_,_,p1,p2,p3,_,_,_⟩:=(hF.at m (by omega)).zO hm hk (Or.inl (by rw[hy''];exact h4))
 have hd':l.drop (i+1+m)=a[m]::(a'++s'::(r'++s::r)):=by
  rw[←List.drop_drop,hdrop,List.drop_append_of_le_length (by omega),e1];simp
 have:=he.inj hl (⟨a[m],a',s',_,hd',Or.inl (by rw[hy''];exact h4),e6,p1,p2,rfl⟩:Ends l (i+1+m) _);omega
theorem o6 (l:List aq) (hl:l.length≤1048576) (hb:okB l.length l 0=true):∃r,bh.f l=some r∧r.length≤l.length∧∀x,x∈r↔Wr l (fun j=>¬yQ l j) l.length x:=by
 obtain⟨b1,b2,b3⟩:=jU _ _ _ hb;have n1:(0:Int)≤(l.length:Int)∧(l.length:Int)≤(l.length:Int)∧(l.length:Int)*(1:Nat)≤room:=⟨by omega,by omega,by unfold room;omega⟩
 have key9:∀(e i:Nat),e<l.length→cM.f l (i:Int)=some (e:Int)→∀(n j:Nat) (g:List Bool),j+n=e+1→g.length=l.length→∃g',g'.length=l.length∧(∀m,m<l.length→(g'[m]? =some true↔g[m]? =some true∨(j≤m∧m≤e)))∧lp bh.tree (.c9 l g (i:Int) (j:Int) l (l.length:Int) (i:Int))=lp bh.tree (.c5 l g' l (l.length:Int) (wr ((i:Int)+1))):=by
  intro e i he hend n
  induction n with
  | zero=>
    intro j g hj hg;refine⟨g,hg,fun m _=>⟨Or.inl,fun h=>h.elim id fun h=>by omega⟩,?_⟩;rw[aF];have q:decide ((j:Int)≤(e:Int))=false:=decide_eq_false (by omega);simp only[bh.tree,Tr.aj,Tr.ag,Tr.ak,cM.told,hend,ai,q,Bool.false_eq_true,↓reduceIte]
  | succ n ih=>
    intro j g hj hg;obtain⟨g',hg',hm',e'⟩:=ih (j+1) (g.set j true) (by omega) (by rw[List.length_set];exact hg);refine⟨g',hg',fun m hm=> ?_,?_⟩
    ·rw[hm' m hm,List.getElem?_set]
     by_cases qm:j=m
     ·subst qm;rw[if_pos rfl,if_pos (by omega)];exact⟨fun _=>Or.inr ⟨by omega,by omega⟩,fun _=>Or.inl rfl⟩
     ·rw[if_neg qm];exact⟨fun h=>h.imp id fun h=>by omega,fun h=>h.imp id fun h=>by omega⟩
    ·rw[aF];have q:decide ((j:Int)≤(e:Int))=true:=decide_eq_true (by omega);have q':j<g.length:=by omega
     simp only[bh.tree,Tr.aj,Tr.ag,Tr.an,Tr.ak,cM.told,hend,ai,q,bB q',and_self,↓reduceIte,Int.toNat_natCast,aN (show j<4611686018427387904 by omega)];exact e'
 have key:=upto l.length (fun i (g:List Bool)=>g.length=l.length∧lk 3 l i∧∀m,m<l.length→(g[m]? =some true↔∃i' e,i'<i∧yH l i' e∧i'≤m∧m≤e)) (fun i g=>lp bh.tree (.c5 l g l (l.length:Int) (i:Int))) (fun r=>r.length≤l.length∧∀x,x∈r↔Wr l (fun j=>¬yQ l j) l.length x) (fun i hi g hs=>by
  obtain⟨hg,hF,hM⟩:=hs
  by_cases q:i<l.length
  ·obtain⟨hok,hF'⟩:=hF.next q
   by_cases h4:l[i].f0=4
   ·obtain⟨a,s,r,e1,e6,_,_,p1,p2,p3,_,_,_⟩:=hF.zO q (by omega) (Or.inl h4);have hE:Ends l i (i+1+a.length):=⟨l[i],a,s,r,e1,Or.inl h4,e6,p1,p2,rfl⟩;have hI:yH l i (i+1+a.length):=⟨⟨l[i],List.getElem?_eq_getElem q,h4⟩,hE⟩;obtain⟨g',hg',hm',e'⟩:=key9 (i+1+a.length) i p3 (hE.yF hl) (i+1+a.length+1-i) i g (by omega) hg;refine Or.inr ⟨q,g',?_,hg',hF',fun m hm=> ?_⟩
    ·rw[aF];simp only[bh.tree,Tr.ag,Tr.an,Tr.ak,bk q,bB q,aX q,and_self,↓reduceIte,decide_eq_true h4,decide_true,e',aN (show i<4611686018427387904 by omega)]
    ·rw[hm' m hm,hM m hm];refine⟨fun h=>h.elim (fun⟨i',e,h1,h2⟩=>⟨i',e,by omega,h2⟩) fun h=>⟨i,_,by omega,hI,h⟩,fun⟨i',e,h1,h2,h3⟩=> ?_⟩
     by_cases qi:i'<i
     ·exact Or.inl ⟨i',e,qi,h2,h3⟩
     ·obtain rfl:i'=i:=by omega
      have:=h2.2.inj hl hE;exact Or.inr (by omega)
   ·refine Or.inr ⟨q,g,?_,hg,hF',fun m hm=> ?_⟩
    ·rw[aF];simp only[bh.tree,Tr.ag,Tr.an,Tr.ak,bk q,bB q,aX q,and_self,↓reduceIte,decide_eq_false h4,decide_true,Bool.false_eq_true,aN (show i<4611686018427387904 by omega)]
    ·rw[hM m hm];refine⟨fun⟨i',e,h1,h2⟩=>⟨i',e,by omega,h2⟩,fun⟨i',e,h1,h2,h3⟩=> ?_⟩
     by_cases qi:i'<i
     ·exact⟨i',e,qi,h2,h3⟩
     ·obtain rfl:i'=i:=by omega
      obtain⟨⟨y,hy,hy4⟩,_⟩:=h2;rw[List.getElem?_eq_getElem q]at hy;cases hy;exact absurd hy4 h4
  ·obtain rfl:i=l.length:=by omega
   obtain⟨r,er,hr,hrm⟩:=rI l g hl hg;refine Or.inl ⟨r.1,?_,hr,fun x=> ?_⟩
   ·rw[aF];simp only[bh.tree,Tr.ag,Tr.aj,Tr.al,cP,Bool.false_eq_true,↓reduceIte,dJ.told,er,ai]
   ·rw[hrm];refine A9 fun j hj=> ?_;have hj':j<g.length:=by omega
    have:=hM j hj;rw[List.getElem?_eq_getElem hj']at this⊢;cases hgj:g[j]with
    | true=>
      rw[hgj]at this;obtain⟨i',e,h1,h2,h3⟩:=this.mp rfl;exact⟨fun h=>(by cases h),fun h=>(h ⟨i',e,h2,h3⟩).elim⟩
    | false=>
      rw[hgj]at this;refine⟨fun _ hI=> ?_,fun _=>rfl⟩;obtain⟨i',e,h2,h3⟩:=hI;have hi':i'<l.length:=by omega
      have:=this.mpr ⟨i',e,hi',h2,h3⟩;cases this) 0 (by omega) (List.replicate l.length false) ⟨by simp,⟨0,by omega,b1,b2⟩,fun m hm=>⟨fun h=>by simp[List.getElem?_replicate,hm]at h,fun⟨i',e,h,_⟩=>absurd h (by omega)⟩⟩
 obtain⟨r,e,hr⟩:=key;refine⟨r,?_,hr⟩;simp only[bh.f,bh.begin,Tr.aj,Tr.ag,Tr.an,Tr.ak,bQ.told,jk l hl,ai,hb,Bool.not_true,Bool.false_eq_true,↓reduceIte,n1,and_self,Int.toNat_natCast];exact e
theorem im {A:Type} {o:List A} {j:Nat} (q:j<o.length):o.take (j+1)=o.take j++[o[j]]:=by rw[List.take_add_one,List.getElem?_eq_getElem q];rfl
def l6 (o a b:Int) (k:Nat):Bool:=pA o a b&&(decide (a= -1-(k:Int)) || decide (b= -1-(k:Int)))
def note (W F R:Nat→Bool) (k:Nat):Bool:=F k || (R k&& !W k)
def mP (W:Nat→Bool) (v:Int) (k:Nat):Bool:=W k || decide (v=(k:Int))
def ib (x:aq) (W:Nat→Bool):Nat→Bool:=if x.f0=1∨x.f0=2 then mP W x.f1 else W
def ir (x:aq) (W F:Nat→Bool):Nat→Bool:=if x.f0=1∨x.f0=3∨x.f0=4 then note W F (l6 x.f3.f0 x.f3.f1 x.f3.f2)else F
inductive jA:Nat→List aq→(Nat→Bool)→(Nat→Bool)→(Nat→Bool)→(Nat→Bool)→Prop
 | nil (n W F):jA n [] W F W F
 | plain {n x l W F W' F'}:x.f0≠4→wx x=true→jA n l (ib x W) (ir x W F) W' F'→jA n (x::l) W F W' F'
 | ifs {n x a s r W F W1 F1 W' F'}:x.f0=4→wx x=true→s.f0=6→inr 1 30 a 1=true→fin a 1=1→jA n a (ib x W) (ir x W F) W1 F1→jA (n+1) r (ib x W) F1 W' F'→jA (n+1) (x::(a++s::r)) W F W' F'
theorem qZ (o a b:Int):∃r,cU.f o a b=some r∧r.length≤2∧(∀x∈r,0≤x∧x≤7)∧∀k:Nat,(k:Int)∈r↔l6 o a b k=true:=by
 cases hx:pA o a b with
 | false=>
   simp only[cU.f,cU.begin,Tr.aj,Tr.ag,Tr.al,cR.told,iC,hx,ai,Bool.not_false,↓reduceIte];exact⟨_,rfl,by simp,by simp,fun k=>by unfold l6;rw[hx];simp⟩
 | true=>
   obtain⟨_,ha,hb⟩:=ud hx
   have key:=upto 2 (fun i (s:List Int)=>s.length≤i∧(∀x∈s,0≤x∧x≤7)∧∀k:Nat,(k:Int)∈s↔∃j,j<i∧eG [a,b] (j:Int)= -1-(k:Int)) (fun i s=>lp cU.tree (.c5 s [a,b] (2:Int) (i:Int))) (fun r=>r.length≤2∧(∀x∈r,0≤x∧x≤7)∧∀k:Nat,(k:Int)∈r↔l6 o a b k=true) (fun i hi s hs=>by
    obtain⟨hl,hv,hm⟩:=hs;rw[aF]
    by_cases q:i<2
    ·have q1:decide ((i:Int)<2)=true:=decide_eq_true (by omega);have q2:(0:Int)≤(i:Int)∧(i:Int)<((([a,b]:List Int).length:Nat):Int):=by simp;omega
     have hr: -8≤eG [a,b] (i:Int)∧eG [a,b] (i:Int)≤999:=by
      rcases(show i=0∨i=1 by omega)with rfl | rfl
      ·exact ha
      ·exact hb
     have hsucc:∀k:Nat,(∃j,j<i+1∧eG [a,b] (j:Int)= -1-(k:Int))↔(∃j,j<i∧eG [a,b] (j:Int)= -1-(k:Int))∨eG [a,b] (i:Int)= -1-(k:Int):=fun k=>
      ⟨fun⟨j,h1,h2⟩=>by
       by_cases qj:j<i
       ·exact Or.inl ⟨j,qj,h2⟩
       ·obtain rfl:j=i:=by omega
        exact Or.inr h2,fun h=>h.elim (fun⟨j,h1,h2⟩=>⟨j,by omega,h2⟩) fun h=>⟨i,by omega,h⟩⟩
     by_cases hn:eG [a,b] (i:Int)<0
     ·have w:wr (-1-eG [a,b] (i:Int))= -1-eG [a,b] (i:Int):=b6 (by omega);refine Or.inr ⟨q,s++[-1-eG [a,b] (i:Int)],?_,by rw[List.length_append,List.length_singleton];omega,?_,fun k=> ?_⟩
      ·simp only[cU.tree,Tr.ag,Tr.an,Tr.ak,q1,q2,and_self,decide_eq_true hn,w,gp s _ 1048576 (by omega) (by omega) 8 (by omega),decide_true,↓reduceIte,aN (show i<4611686018427387904 by omega)]
      ·intro x hx;rcases List.mem_append.mp hx with hx | hx
       ·exact hv x hx
       ·rw[List.mem_singleton]at hx;omega
      ·rw[iW,hm,hsucc];exact⟨fun h=>h.imp id fun h=>by omega,fun h=>h.imp id fun h=>by omega⟩
     ·refine Or.inr ⟨q,s,?_,by omega,hv,fun k=> ?_⟩
      ·simp only[cU.tree,Tr.ag,Tr.an,Tr.ak,q1,q2,and_self,decide_eq_false hn,Bool.false_eq_true,decide_true,↓reduceIte,aN (show i<4611686018427387904 by omega)]
      ·rw[hm,hsucc];exact⟨Or.inl,fun h=>h.elim id fun h=>by omega⟩
    ·have q1:decide ((i:Int)<2)=false:=decide_eq_false (by omega);obtain⟨m,n,e1,e2,hn,hb⟩:=oZ s (by omega);refine Or.inl ⟨n,?_,by omega,fun x hx=>hv x ((hn x).mp hx),fun k=> ?_⟩
     ·simp only[cU.tree,Tr.ag,Tr.aj,Tr.al,q1,Bool.false_eq_true,↓reduceIte,slices_Sort_int.told,e1,slices_Compact_int.told,e2,ai]
     ·obtain rfl:i=2:=by omega
      rw[hn,hm];unfold l6;rw[hx,Bool.true_and,Bool.or_eq_true,decide_eq_true_eq,decide_eq_true_eq];refine⟨fun⟨j,h1,h2⟩=> ?_,fun h=>h.elim (fun h=>⟨0,by omega,h⟩) fun h=>⟨1,by omega,h⟩⟩;rcases(show j=0∨j=1 by omega)with rfl | rfl
      ·exact Or.inl h2
      ·exact Or.inr h2) 0 (by omega) [] ⟨by simp,by simp,fun k=>⟨fun h=>by simp at h,fun⟨j,h,_⟩=>absurd h (by omega)⟩⟩
   obtain⟨r,e,h⟩:=key;refine⟨r,?_,h⟩;simp only[cU.f,cU.begin,Tr.aj,Tr.ag,Tr.ak,cR.told,iC,hx,ai,Bool.not_true,Bool.false_eq_true,↓reduceIte];exact e
set_option maxHeartbeats 8000000 in
theorem kU (o a b:Int) (W F:Nat→Bool):bn.f o a b (W 0) (W 1) (W 2) (W 3) (W 4) (W 5) (W 6) (W 7) (F 0) (F 1) (F 2) (F 3) (F 4) (F 5) (F 6) (F 7)=some (W 0,W 1,W 2,W 3,W 4,W 5,W 6,W 7,note W F (l6 o a b) 0,note W F (l6 o a b) 1,note W F (l6 o a b) 2,note W F (l6 o a b) 3,note W F (l6 o a b) 4,note W F (l6 o a b) 5,note W F (l6 o a b) 6,note W F (l6 o a b) 7):=by
 obtain⟨l,e,hl,hv,hm⟩:=qZ o a b;simp only[bn.f,bn.begin,Tr.aj,Tr.ak,cU.told,e,ai];obtain⟨G,hG⟩:∃G:Nat→Nat→Bool,∀i k,G i k=note W F (fun k=>decide ((k:Int)∈l.take i)) k:=⟨_,fun _ _=>rfl⟩
 have key:∀(n i:Nat),i+n=l.length→lp bn.tree (.c2 l (l.length:Int) (i:Int) (W 0) (W 1) (W 2) (W 3) (W 4) (W 5) (W 6) (W 7) (G i 0) (G i 1) (G i 2) (G i 3) (G i 4) (G i 5) (G i 6) (G i 7))=some (W 0,W 1,W 2,W 3,W 4,W 5,W 6,W 7,G l.length 0,G l.length 1,G l.length 2,G l.length 3,G l.length 4,G l.length 5,G l.length 6,G l.length 7):=by
  intro n
  induction n with
  | zero=>
    intro i hi;obtain rfl:i=l.length:=by omega
    rw[aF];simp only[bn.tree,Tr.ag,Tr.al,cP,Bool.false_eq_true,↓reduceIte]
  | succ n ih=>
    intro i hi;have q:i<l.length:=by omega
    rw[←ih (i+1) (by omega)];have hk:=hv l[i] (List.getElem_mem q);have hr:eG l (i:Int)=l[i]:=aX q
    have hs:∀k:Nat,G (i+1) k=(G i k || (decide (l[i]=(k:Int))&& !W k)):=fun k=>by
     rw[hG,hG];unfold note;dsimp only
     have:decide ((k:Int)∈l.take (i+1))=(decide ((k:Int)∈l.take i) || decide (l[i]=(k:Int))):=by
      rw[Bool.eq_iff_iff,Bool.or_eq_true,decide_eq_true_eq,decide_eq_true_eq,decide_eq_true_eq,List.take_add_one,List.getElem?_eq_getElem q];exact iW _ _ _
     rw[this,Bool.and_or_distrib_right,Bool.or_assoc]
    clear ih hG hm e hv;generalize l[i]=k at hk hr hs;have w:wr ((i:Int)+1)=((i+1:Nat):Int):=aN (show i<4611686018427387904 by omega);have h0:G (i+1) 0=(G i 0 || (decide (k=(0:Int))&& !W 0)):=hs 0;have h1:G (i+1) 1=(G i 1 || (decide (k=(1:Int))&& !W 1)):=hs 1;have h2:G (i+1) 2=(G i 2 || (decide (k=(2:Int))&& !W 2)):=hs 2;have h3:G (i+1) 3=(G i 3 || (decide (k=(3:Int))&& !W 3)):=hs 3;have h4:G (i+1) 4=(G i 4 || (decide (k=(4:Int))&& !W 4)):=hs 4;have h5:G (i+1) 5=(G i 5 || (decide (k=(5:Int))&& !W 5)):=hs 5;have h6:G (i+1) 6=(G i 6 || (decide (k=(6:Int))&& !W 6)):=hs 6;have h7:G (i+1) 7=(G i 7 || (decide (k=(7:Int))&& !W 7)):=hs 7;clear hs;rw[aF];simp only[bn.tree,Tr.ag,Tr.an,Tr.ak,bk q,bB q,and_self,decide_true,↓reduceIte];rw[hr]
    rcases(show k=0∨k=1∨k=2∨k=3∨k=4∨k=5∨k=6∨k=7 by omega)with rfl | rfl | rfl | rfl | rfl | rfl | rfl | rfl<;>
     (simp only[Int.reduceEq,decide_false,decide_true,Bool.false_and,Bool.true_and,Bool.or_false]at h0 h1 h2 h3 h4 h5 h6 h7
      simp only[Int.reduceEq,decide_false,decide_true,Bool.false_eq_true,↓reduceIte,h0,h1,h2,h3,h4,h5,h6,h7];split
      ·rename_i h;simp only[h,Bool.or_true];rw[aF];simp only[bn.tree,Tr.ag,Tr.ak,decide_true,↓reduceIte,Int.reduceEq,decide_false,Bool.false_eq_true];rw[aF];simp only[bn.tree,Tr.ak,w]
      ·rename_i h;simp only[Bool.eq_false_iff.mpr h,Bool.or_false];rw[aF];simp only[bn.tree,Tr.ak,w])
 have e0:∀k,G 0 k=F k:=fun k=>by rw[hG];unfold note;rw[List.take_zero];simp
 have e1:∀k,G l.length k=note W F (l6 o a b) k:=fun k=>by
  rw[hG];unfold note;dsimp only;have:decide ((k:Int)∈l.take l.length)=l6 o a b k:=by rw[List.take_length,Bool.eq_iff_iff,decide_eq_true_eq,hm]
  rw[this]
 have:=key l.length 0 (by omega);simp only[e0,e1]at this;exact this
theorem BB (W:Nat→Bool) (v:Int) (k:Nat) (h:v=(k:Int)):mP W v k=true:=by unfold mP;rw[decide_eq_true h,Bool.or_true]
theorem BO (W:Nat→Bool) (v:Int) (k:Nat) (h:¬v=(k:Int)):mP W v k=W k:=by unfold mP;rw[decide_eq_false h,Bool.or_false]
set_option maxHeartbeats 8000000 in
theorem ux (self_:Self aD.I aD.A aD.K) (l:List aq) (i:Nat) (hi:i<l.length) (hok:wx l[i]=true) (W F:Nat→Bool):
 lp (aD.tree self_) (.c1 l (i:Int) (W 0) (W 1) (W 2) (W 3) (W 4) (W 5) (W 6) (W 7) (F 0) (F 1) (F 2) (F 3) (F 4) (F 5) (F 6) (F 7))=lp (aD.tree self_) (.c8 l (i:Int) l[i].f0 l[i].f1 l[i].f2 l[i].f3.f0 l[i].f3.f1 l[i].f3.f2 (ib l[i] W 0) (ib l[i] W 1) (ib l[i] W 2) (ib l[i] W 3) (ib l[i] W 4) (ib l[i] W 5) (ib l[i] W 6) (ib l[i] W 7) (ir l[i] W F 0) (ir l[i] W F 1) (ir l[i] W F 2) (ir l[i] W F 3) (ir l[i] W F 4) (ir l[i] W F 5) (ir l[i] W F 6) (ir l[i] W F 7)):=by
 rw[aF];have hvar:=pP hok;generalize hx:l[i]=x at hok hvar;have hr:ah l (i:Int)=x:=(aX hi).trans hx;have sF:(x.f0=1∨x.f0=3∨x.f0=4)→ir x W F=note W F (l6 x.f3.f0 x.f3.f1 x.f3.f2):=fun h=>by unfold ir;rw[if_pos h]
 have sF':¬(x.f0=1∨x.f0=3∨x.f0=4)→ir x W F=F:=fun h=>by unfold ir;rw[if_neg h]
 have sW:(x.f0=1∨x.f0=2)→ib x W=mP W x.f1:=fun h=>by unfold ib;rw[if_pos h]
 have sW':¬(x.f0=1∨x.f0=2)→ib x W=W:=fun h=>by unfold ib;rw[if_neg h]
 generalize hWW:ib x W=W' at sW sW';generalize hFF:ir x W F=F' at sF sF';simp only[aD.tree,Tr.ag,Tr.an,Tr.aj,bk hi,bB hi,hr,and_self,decide_true,↓reduceIte,cS.told,tN,bT.told,ja,ai];clear hWW hFF hok hx hr
 by_cases hE:x.f0=1∨x.f0=3∨x.f0=4
 ·simp only[decide_eq_true hE,↓reduceIte,bn.told,kU x.f3.f0 x.f3.f1 x.f3.f2 W F,ai];rw[sF hE]
  by_cases hV:x.f0=1∨x.f0=2
  ·obtain⟨v0,v1⟩:=hvar hV;rw[sW hV];simp only[decide_eq_true hV,↓reduceIte]
   rcases(show x.f1=0∨x.f1=1∨x.f1=2∨x.f1=3∨x.f1=4∨x.f1=5∨x.f1=6∨x.f1=7 by omega)with h | h | h | h | h | h | h | h<;>
    simp[h,mP,Tr.bE,Tr.ak]
  ·rw[sW' hV];simp only[decide_eq_false hV,Bool.false_eq_true,↓reduceIte,Tr.ak]
 ·simp only[decide_eq_false hE,Bool.false_eq_true,↓reduceIte];rw[sF' hE]
  by_cases hV:x.f0=1∨x.f0=2
  ·obtain⟨v0,v1⟩:=hvar hV;rw[sW hV];simp only[decide_eq_true hV,↓reduceIte]
   rcases(show x.f1=0∨x.f1=1∨x.f1=2∨x.f1=3∨x.f1=4∨x.f1=5∨x.f1=6∨x.f1=7 by omega)with h | h | h | h | h | h | h | h<;>
    simp[h,mP,Tr.bE,Tr.ak]
  ·rw[sW' hV];simp only[decide_eq_false hV,Bool.false_eq_true,↓reduceIte,Tr.ak]
def AO (self_:Self aD.I aD.A aD.K) (n:Nat):Prop:=
 ∀(l:List aq) (W F W1 F1:Nat→Bool),l.length≤1048576→jA n l W F W1 F1→self_.f (l,W 0,W 1,W 2,W 3,W 4,W 5,W 6,W 7,F 0,F 1,F 2,F 3,F 4,F 5,F 6,F 7)=some (W1 0,W1 1,W1 2,W1 3,W1 4,W1 5,W1 6,W1 7,F1 0,F1 1,F1 2,F1 3,F1 4,F1 5,F1 6,F1 7)
set_option maxHeartbeats 4000000 in
theorem sU (self_:Self aD.I aD.A aD.K) (n:Nat) (hs:∀n',n=n'+1→AO self_ n'):AO (aD.step self_) n:=by
 intro l W F W1 F1 hl hR
 have key:∀(n':Nat) (m:List aq) (W F W1 F1:Nat→Bool),jA n' m W F W1 F1→n'=n→∀i,i≤l.length→l.drop i=m→lp (aD.tree self_) (.c1 l (i:Int) (W 0) (W 1) (W 2) (W 3) (W 4) (W 5) (W 6) (W 7) (F 0) (F 1) (F 2) (F 3) (F 4) (F 5) (F 6) (F 7))=some (W1 0,W1 1,W1 2,W1 3,W1 4,W1 5,W1 6,W1 7,F1 0,F1 1,F1 2,F1 3,F1 4,F1 5,F1 6,F1 7):=by
  intro n' m W F W1 F1 h
  induction h with
  | nil n' W F=>
    intro _ i hi hd;have h0:=congrArg List.length hd;rw[List.length_drop,List.length_nil]at h0;obtain rfl:i=l.length:=by omega
    rw[aF];simp only[aD.tree,Tr.ag,Tr.al,cP,Bool.false_eq_true,↓reduceIte]
  | @plain n' x m W F W' F' h4 hok h ih=>
    intro hn i hi hd;obtain⟨q,e,e2⟩:=jE (a:=[]) (show l.drop i=[]++x::m from hd);have q':i<l.length:=q;have e':l[i]=x:=e;rw[ux self_ l i q' (by rw[e'];exact hok) W F,e',aF];simp only[aD.tree,Tr.ag,Tr.ak,decide_eq_false h4,Bool.false_eq_true,↓reduceIte,aN (show i<4611686018427387904 by omega)];exact ih hn (i+1) (by omega) e2
  | @ifs n' x a s r W F Wa Fa W' F' h4 hok h6 p1 p2 ha hr iha ihr=>
    intro hn i hi hd;obtain⟨q,e,e2⟩:=jE (a:=[]) (show l.drop i=[]++x::(a++s::r)from hd);obtain⟨g1,g2,g3⟩:=jE (show l.drop i=(x::a)++s::r from hd);simp only[List.length_cons]at g1 g3;have q':i<l.length:=q;have e':l[i]=x:=e;have hE:Ends l i (i+1+a.length):=⟨x,a,s,r,hd,Or.inl h4,h6,p1,p2,rfl⟩
    have hia:(l.take (i+1+a.length)).drop (i+1)=a:=by
     rw[List.drop_take,show i+1+a.length-(i+1)=a.length by omega];have:l.drop (i+1)=a++s::r:=e2;rw[this];simp
    have hn1:(0:Int)≤((i+1:Nat):Int)∧((i+1:Nat):Int)≤((i+1+a.length:Nat):Int)∧((i+1+a.length:Nat):Int)≤(l.length:Int):=by omega
    have et:=hs n' hn.symm a _ _ _ _ (by omega) ha;have we:wr (((i+1+a.length:Nat):Int)+1)=((i+1+a.length+1:Nat):Int):=aN (by omega);rw[ux self_ l i q' (by rw[e'];exact hok) W F,e',aF];simp only[aD.tree,Tr.ag,Tr.aj,Tr.ak,decide_eq_true h4,↓reduceIte,cM.told,hE.yF hl,ai];rw[aF];simp only[aD.tree,Tr.an,Tr.aj,Tr.ak,aN (show i<4611686018427387904 by omega),hn1,and_self,↓reduceIte,Int.toNat_natCast,Self.told,hia,et,ai,we];exact ihr hn (i+1+a.length+1) (by omega) (by rw[show i+1+a.length+1=i+(a.length+1)+1 by omega];exact g3)
 exact key n l W F W1 F1 hR rfl 0 (by omega) rfl
theorem pc (l:List aq) (W F W1 F1:Nat→Bool) (hl:l.length≤1048576) (h:jA 3 l W F W1 F1):aD.f l (W 0) (W 1) (W 2) (W 3) (W 4) (W 5) (W 6) (W 7) (F 0) (F 1) (F 2) (F 3) (F 4) (F 5) (F 6) (F 7)=some (W1 0,W1 1,W1 2,W1 3,W1 4,W1 5,W1 6,W1 7,F1 0,F1 1,F1 2,F1 3,F1 4,F1 5,F1 6,F1 7):=by
 have h0:=sU (Self.iter aD.step 4) 0 (fun n' h=>absurd h (by omega));have h1:=sU (Self.iter aD.step 5) 1 (fun n' h=>by cases h;exact h0);have h2:=sU (Self.iter aD.step 6) 2 (fun n' h=>by cases h;exact h1);have h3:=sU (Self.iter aD.step 7) 3 (fun n' h=>by cases h;exact h2);exact h3 l W F W1 F1 hl h
set_option maxHeartbeats 4000000 in
theorem nk (l:List aq) (a b c:Int) (hl:l.length≤1048576) (hb:okB l.length l 0=true) (hx:pA a b c=true) {W1 F1:Nat→Bool} (h:jA 3 l (fun _=>false) (fun _=>false) W1 F1):
 ∃r,bq.f l a b c=some r∧r.length≤8∧∀x,x∈r↔∃k:Nat,k<8∧note W1 F1 (l6 a b c) k=true∧x=(k:Int):=by
 have e1:=pc l _ _ _ _ hl h;have e2:=kU a b c W1 F1;generalize note W1 F1 (l6 a b c)=Y at e2
 obtain⟨r,e,hr⟩:=upto 8 (fun i (s:List Int)=>s.length≤i∧∀x,x∈s↔∃k:Nat,k<i∧Y k=true∧x=(k:Int)) (fun i s=>lp bq.tree (.c8 s (Y 0) (Y 1) (Y 2) (Y 3) (Y 4) (Y 5) (Y 6) (Y 7) (i:Int))) (fun r=>r.length≤8∧∀x,x∈r↔∃k:Nat,k<8∧Y k=true∧x=(k:Int)) (fun i hi s hs=>by
  obtain⟨hs,hm⟩:=hs;rw[aF]
  by_cases q:i<8
  ·have q1:decide ((i:Int)<8)=true:=decide_eq_true (by omega);have q2:(0:Int)≤(i:Int)∧(i:Int)<8:=by omega
   have hY:List.getD [Y 0,Y 1,Y 2,Y 3,Y 4,Y 5,Y 6,Y 7] i false=Y i:=by
    rcases(show i=0∨i=1∨i=2∨i=3∨i=4∨i=5∨i=6∨i=7 by omega)with rfl | rfl | rfl | rfl | rfl | rfl | rfl | rfl<;>rfl
   cases hb:Y i with
   | true=>
     rw[hb]at hY;refine Or.inr ⟨q,s++[(i:Int)],?_,by rw[List.length_append,List.length_singleton];omega,fun x=> ?_⟩
     ·simp only[bq.tree,Tr.ag,Tr.an,Tr.ak,q1,q2,and_self,decide_true,Int.toNat_natCast,hY,gp s _ 1048576 (by omega) (by omega) 8 (by omega),↓reduceIte,aN (show i<4611686018427387904 by omega)]
     ·rw[iW,hm];refine⟨fun h=>h.elim (fun⟨k,h1,h2⟩=>⟨k,by omega,h2⟩) fun h=>⟨i,by omega,hb,h.symm⟩,fun⟨k,h1,h2,h3⟩=> ?_⟩
      by_cases qk:k<i
      ·exact Or.inl ⟨k,qk,h2,h3⟩
      ·exact Or.inr (by omega)
   | false=>
     rw[hb]at hY;refine Or.inr ⟨q,s,?_,by omega,fun x=> ?_⟩
     ·simp only[bq.tree,Tr.ag,Tr.an,Tr.ak,q1,q2,and_self,decide_true,Int.toNat_natCast,hY,Bool.false_eq_true,↓reduceIte,aN (show i<4611686018427387904 by omega)]
     ·rw[hm];refine⟨fun⟨k,h1,h2⟩=>⟨k,by omega,h2⟩,fun⟨k,h1,h2,h3⟩=> ?_⟩
      by_cases qk:k<i
      ·exact⟨k,qk,h2,h3⟩
      ·obtain rfl:k=i:=by omega
       rw[hb]at h2;cases h2
  ·obtain rfl:i=8:=by omega
   refine Or.inl ⟨s,?_,by omega,hm⟩;simp only[bq.tree,Tr.ag,Tr.al,show decide (((8:Nat):Int)<8)=false from rfl,Bool.false_eq_true,↓reduceIte]) 0 (by omega) [] ⟨by simp,fun x=>⟨fun h=>by simp at h,fun⟨k,h,_⟩=>absurd h (by omega)⟩⟩
 refine⟨r,?_,hr⟩;simp only[bq.f,bq.begin,Tr.aj,Tr.ag,Tr.al,Tr.ak,de.told,de.f,de.begin,bQ.told,jk l hl,cR.told,iC,hx,ai,hb,Bool.not_true,Bool.false_eq_true,↓reduceIte,aD.told,e1,bn.told,e2];exact e
def lD (a b:List Int) (x:Int):Bool:=decide (x∈a) || !decide (x∈b)
theorem mb (x:Int) (a b:List Int) (ha:a.length≤1048576) (hb:b.length≤1048576):cA.f x a b=some (!lD a b x,a,b):=by
 simp only[cA.f,cA.begin,Tr.aj,Tr.ag,Tr.al,ez.told,lI a x ha,lI b x hb,ai,lD];cases decide (x∈a)<;>cases decide (x∈b)<;>rfl
theorem kZ (l a b:List Int) (hl:l.length≤1048576) (ha:a.length≤1048576) (hb:b.length≤1048576):∃j,aC.f l a b=some (j,a,b)∧((j= -1∧l.filter (lD a b)=l)∨∃n:Nat,j=(n:Int)∧n<l.length∧(l.take (n+1)).filter (lD a b)=l.take n):=by
 have key:=upto l.length (fun i (_:Unit)=>(l.take i).filter (lD a b)=l.take i) (fun i _=>lp aC.tree (.c2 l (l.length:Int) (i:Int) a b)) (fun r=>∃j,r=(j,a,b)∧((j= -1∧l.filter (lD a b)=l)∨∃n:Nat,j=(n:Int)∧n<l.length∧(l.take (n+1)).filter (lD a b)=l.take n)) (fun i hi s hs=>by
  rw[aF]
  by_cases q:i<l.length
  ·have ev:=mb (eG l (i:Int)) a b ha hb;have hr:eG l (i:Int)=l[i]:=aX q;rw[hr]at ev;cases hk:lD a b l[i]with
   | false=>
     rw[hk]at ev;refine Or.inl ⟨((i:Int),a,b),?_,_,rfl,Or.inr ⟨i,rfl,q,?_⟩⟩
     ·simp only[aC.tree,Tr.ag,Tr.an,Tr.aj,Tr.al,bk q,bB q,hr,and_self,decide_true,↓reduceIte,cA.told,ev,ai,Bool.not_false]
     ·rw[List.take_add_one,List.getElem?_eq_getElem q,List.filter_append,hs];simp[hk]
   | true=>
     rw[hk]at ev;refine Or.inr ⟨q,(),?_,?_⟩
     ·simp only[aC.tree,Tr.ag,Tr.an,Tr.aj,Tr.ak,bk q,bB q,hr,and_self,decide_true,↓reduceIte,cA.told,ev,ai,Bool.not_true,Bool.false_eq_true,aN (show i<4611686018427387904 by omega)]
     ·rw[List.take_add_one,List.getElem?_eq_getElem q,List.filter_append,hs];simp[hk]
  ·obtain rfl:i=l.length:=by omega
   rw[List.take_length]at hs;refine Or.inl ⟨(-1,a,b),?_,_,rfl,Or.inl ⟨rfl,hs⟩⟩;simp only[aC.tree,Tr.ag,Tr.al,cP,Bool.false_eq_true,↓reduceIte]) 0 (by omega) () (by simp)
 obtain⟨r,e,j,rfl,h⟩:=key;exact⟨j,e,h⟩
theorem kM (l a b:List Int) (hl:l.length≤1048576) (ha:a.length≤1048576) (hb:b.length≤1048576):∃r,aw.f l a b=some r∧r.1=l.filter (lD a b):=by
 obtain⟨j,ej,hj⟩:=kZ l a b hl ha hb;rcases hj with⟨rfl,h⟩ | ⟨n,rfl,hn,hf⟩
 ·simp only[aw.f,aw.begin,Tr.aj,Tr.ag,Tr.al,aC.told,ej,ai,decide_true,↓reduceIte];exact⟨_,rfl,h.symm⟩
 ·have key:=upto l.length (fun i (s:List Int×Nat)=>s.1.length=l.length∧s.2<i∧s.1.take s.2=(l.take i).filter (lD a b)∧s.1.drop i=l.drop i) (fun i s=>lp aw.tree (.c5 s.1 (s.2:Int) (i:Int) a b)) (fun r=>r.1=l.filter (lD a b)) (fun i hi s hs=>by
   obtain⟨s1,s2⟩:=s;obtain⟨hs1,hs2,hs3,hs4⟩:=hs;simp only at hs1 hs2 hs3 hs4;rw[aF]
   by_cases q:i<l.length
   ·have q1:i<s1.length:=by omega
    have q2:s2<s1.length:=by omega
    have hel:s1[i]=l[i]:=by
     have:=congrArg (fun z=>z[0]?) hs4;simp only[List.getElem?_drop,Nat.add_zero,List.getElem?_eq_getElem q1,List.getElem?_eq_getElem q]at this;exact Option.some.inj this
    have hr:eG s1 (i:Int)=l[i]:=(aX q1).trans hel;have ev:=mb l[i] a b ha hb;cases hk:lD a b l[i]with
    | true=>
      rw[hk]at ev;refine Or.inr ⟨q,(s1.set s2 l[i],s2+1),?_,by rw[List.length_set];exact hs1,by show s2+1<i+1;omega,?_,?_⟩
      ·simp only[aw.tree,Tr.ag,Tr.an,Tr.aj,Tr.ak,bk q1,bB q1,bB q2,hr,and_self,decide_true,↓reduceIte,cA.told,ev,ai,Bool.not_true,Bool.not_false,Int.toNat_natCast,aN (show i<4611686018427387904 by omega),aN (show s2<4611686018427387904 by omega)]
      ·show(s1.set s2 l[i]).take (s2+1)=_;rw[List.take_add_one,List.take_set_of_le (Nat.le_refl s2),hs3,List.getElem?_set_self q2,List.take_add_one,List.getElem?_eq_getElem q,List.filter_append];simp[hk]
      ·show(s1.set s2 l[i]).drop (i+1)=_;rw[List.drop_set_of_lt (by omega),←List.drop_drop,hs4,List.drop_drop]
    | false=>
      rw[hk]at ev;refine Or.inr ⟨q,(s1,s2),?_,hs1,by show s2<i+1;omega,?_,?_⟩
      ·simp only[aw.tree,Tr.ag,Tr.an,Tr.aj,Tr.ak,bk q1,bB q1,hr,and_self,decide_true,↓reduceIte,cA.told,ev,ai,Bool.not_false,Bool.not_true,Bool.false_eq_true,aN (show i<4611686018427387904 by omega)]
      ·show s1.take s2=_;rw[hs3,List.take_add_one,List.getElem?_eq_getElem q,List.filter_append];simp[hk]
      ·show s1.drop (i+1)=_;rw[←List.drop_drop,hs4,List.drop_drop]
   ·obtain rfl:i=s1.length:=by omega
    have q2:s2<s1.length:=hs2;have hlen:(List.take s2 s1++List.replicate (List.length s1-s2) (0:Int)).length=s1.length:=by rw[List.length_append,List.length_take,List.length_replicate];omega
    have n1:(0:Int)≤0∧(0:Int)≤(s2:Int)∧(s2:Int)≤(s1.length:Int):=by omega
    refine Or.inl ⟨(List.take s2 (List.take s2 s1++List.replicate (List.length s1-s2) (0:Int)),a,b),?_,?_⟩
    ·simp only[aw.tree,Tr.ag,Tr.an,Tr.gT,Tr.al,cP,Bool.false_eq_true,↓reduceIte,bB q2,and_self,Int.toNat_natCast,hlen,n1]
    ·show List.take s2 _=_;rw[List.take_left' (by rw[List.length_take];omega),hs3,hs1,List.take_length]) (n+1) (by omega) (l,n) ⟨rfl,by show n<n+1;omega,hf.symm,rfl⟩
  obtain⟨r,e,h⟩:=key;have hn1:decide ((n:Int)= -1)=false:=decide_eq_false (by omega);have w:wr ((n:Int)+1)=((n+1:Nat):Int):=aN (by omega);refine⟨r,?_,h⟩;simp only[aw.f,aw.begin,Tr.aj,Tr.ag,Tr.ak,aC.told,ej,ai,hn1,Bool.false_eq_true,↓reduceIte,w];exact e
def B2 (l:List aq) (Y:Nat→Bool) (x:Int):Prop:=Wr l (fun _=>True) l.length x∧((∃k:Nat,k<8∧Y k=true∧x=(k:Int))∨¬Wr l (fun j=>¬yQ l j) l.length x)
theorem rG (l:List aq) (a b c:Int) (hl:l.length≤1048576) (hb:okB l.length l 0=true) (hx:pA a b c=true) {W1 F1:Nat→Bool} (h:jA 3 l (fun _=>false) (fun _=>false) W1 F1):∃r,dK.f l a b c=some r∧r.length≤l.length+8∧∀x,x∈r↔B2 l (note W1 F1 (l6 a b c)) x:=by
 obtain⟨r1,e1,h1,m1⟩:=nk l a b c hl hb hx h;obtain⟨r2,e2,h2,m2⟩:=o6 l hl hb;obtain⟨r3,e3,h3,m3⟩:=pV l hl hb;obtain⟨r4,e4,h4⟩:=kM r3 r1 r2 (by omega) (by omega) (by omega)
 have key:lp dK.tree (.c4 l a b c r1 r2)=some r4.1:=by
  rw[aF];simp only[dK.tree,Tr.aj,Tr.al,eK.told,e3,aw.told,e4,ai]
 refine⟨r4.1,?_,by rw[h4];have:=List.length_filter_le (lD r1 r2) r3;omega,fun x=> ?_⟩
 ·simp only[dK.f,dK.begin,Tr.aj,Tr.ag,Tr.iu,Tr.bE,Tr.ak,de.told,de.f,de.begin,Tr.al,bQ.told,jk l hl,cR.told,iC,hb,hx,ai,Bool.not_true,Bool.false_eq_true,↓reduceIte,bq.told,e1,bh.told,e2,fy,key]
 ·rw[h4,List.mem_filter,m3];unfold lD B2;rw[Bool.or_eq_true,decide_eq_true_eq,m1,Bool.not_eq_true',decide_eq_false_iff_not,m2]
theorem km (l:List Int) (k:Int) (hl:l.length≤1048576):cw.f l k=some (decide (k∈l)):=by
 simp only[cw.f,cw.begin,Tr.ak]
 have key:∀(n i:Nat),i+n=l.length→lp cw.tree (.c2 l k (i:Int))=some (decide (k∈l.drop i)):=by
  intro n
  induction n with
  | zero=>
    intro i hi;obtain rfl:i=l.length:=by omega
    rw[aF,List.drop_length];simp only[cw.tree,Tr.ag,Tr.al,cP,Bool.false_eq_true,↓reduceIte];simp
  | succ n ih=>
    intro i hi;have q:i<l.length:=by omega
    rw[aF,List.drop_eq_getElem_cons q];simp only[cw.tree,Tr.ag,Tr.an,Tr.al,Tr.ak,bk q,bB q,aX q,and_self,↓reduceIte,aN (show i<4611686018427387904 by omega),ih (i+1) (by omega),decide_eq_true_eq]
    by_cases e:l[i]=k
    ·rw[if_pos e];simp[e]
    ·rw[if_neg e];congr 1;rw[Bool.eq_iff_iff,decide_eq_true_eq,decide_eq_true_eq,List.mem_cons];exact⟨Or.inr,fun h=>h.elim (fun h=>absurd h.symm e) id⟩
 exact key l.length 0 (by omega)
theorem sJ (a b c d e f:Int):eN.f a b c d e f=some (decide (a=4∨a=5)):=by
 simp only[eN.f,eN.begin,Tr.ag,Tr.al]
 by_cases h4:a=4
 ·simp[h4]
 ·simp[h4]
theorem lQ (l:List aq) (i:Nat) (d:Int) (hi:i<l.length) (hl:l.length≤1048576) (h0:0≤d) (h1:d≤30):
 lp cd.tree (.c3 l d (i:Int))=if l[i].f0=6∧dep l[i].f0 d=0 then some (i:Int)else lp cd.tree (.c3 l (dep l[i].f0 d) ((i+1:Nat):Int)):=by
 rw[aF];obtain⟨w1,w2,w3⟩:=zX (x:=0) h0 h1;have w7:wr ((i:Int)+1)=((i+1:Nat):Int):=aN (by omega);simp only[cd.tree,Tr.ag,Tr.aj,Tr.an,Tr.al,Tr.ak,eN.told,sJ,ai,bk hi,bB hi,aX hi,and_self,↓reduceIte,w1,w2,w3,w7,decide_eq_true_eq];unfold dep
 by_cases h4:l[i].f0=4∨l[i].f0=5
 ·have h6:¬l[i].f0=6:=by omega
  simp only[h4,h6,↓reduceIte,false_and]
 ·by_cases h6:l[i].f0=6
  ·simp only[h6,show¬((6:Int)=4∨(6:Int)=5) by omega,↓reduceIte,true_and]
  ·simp only[h4,h6,↓reduceIte,false_and]
theorem tW (l:List aq) (hl:l.length≤1048576) (k:Int) (hk:k≤30):∀(a:List aq) (d:Int) (j:Nat) (s:aq) (r:List aq),l.drop j=a++s::r→s.f0=6→1≤d→d≤k→inr 1 k a d=true→fin a d=1→
 lp cd.tree (.c3 l d (j:Int))=some ((j+a.length:Nat):Int)
 | [],d,j,s,r,hd,h6,h1,hk',_,hf=>by
   obtain⟨h',e,_⟩:=jE (a:=[]) hd;have hd1:d=1:=hf;rw[lQ l j d h' hl (by omega) (by omega)];rw[show l[j]=s from e,h6,hd1];rfl
 | x::a,d,j,s,r,hd,h6,h1,hk',hp,hf=>by
   obtain⟨h',e,e2⟩:=jE (a:=[]) (show l.drop j=[]++x::(a++s::r)from hd);rw[lQ l j d h' hl (by omega) (by omega)];rw[show l[j]=x from e];unfold inr at hp;rw[Bool.and_eq_true,Bool.and_eq_true,ca]at hp;rw[if_neg (by omega),tW l hl k hk a (dep x.f0 d) (j+1) s r e2 h6 hp.2.1.1 hp.2.1.2 hp.2.2 hf,List.length_cons];congr 2;omega
theorem Ends.xr {l:List aq} {i e:Nat} (h:Ends l i e) (hl:l.length≤1048576):cd.f l (i:Int)=some (e:Int):=by
 obtain⟨x,a,s,r,hd,hx,h6,hp,hf,rfl⟩:=h;simp only[cd.f,cd.begin,Tr.ak];obtain⟨h',e,e2⟩:=jE (a:=[]) (show l.drop i=[]++x::(a++s::r)from hd);rw[lQ l i 0 h' hl (by omega) (by omega),show l[i]=x from e];have hdep:dep x.f0 0=1:=by unfold dep;rw[if_pos hx];rfl
 rw[hdep,if_neg (by omega)];exact tW l hl 30 (by omega) a 1 (i+1) s r e2 h6 (by omega) (by omega) hp hf
def L8 (F:Nat→Bool):List Bool:=[F 0,F 1,F 2,F 3,F 4,F 5,F 6,F 7]
theorem lW (F:Nat→Bool):(L8 F).length=8:=rfl
theorem yM (F:Nat→Bool) (k:Nat) (h:k<8):(L8 F)[k]? =some (F k):=by
 rcases(show k=0∨k=1∨k=2∨k=3∨k=4∨k=5∨k=6∨k=7 by omega)with rfl | rfl | rfl | rfl | rfl | rfl | rfl | rfl<;>rfl
theorem AW (F:Nat→Bool) (x:Int) (h:0≤x∧x≤7):CP (L8 F) x=F x.toNat:=by
 show(L8 F).getD x.toNat false=_;rw[List.getD_eq_getElem?_getD,yM F x.toNat (by omega)];rfl
theorem pZ {F G:Nat→Bool} (h:∀k,k<8→F k=G k):L8 F=L8 G:=by
 unfold L8;rw[h 0 (by omega),h 1 (by omega),h 2 (by omega),h 3 (by omega),h 4 (by omega),h 5 (by omega),h 6 (by omega),h 7 (by omega)]
theorem tE (F:Nat→Bool) (x:Int) (h:0≤x∧x≤7):(L8 F).set x.toNat true=L8 (mP F x):=by
 refine List.ext_getElem? (fun k=> ?_);rw[List.getElem?_set,lW]
 by_cases q:k<8
 ·rw[yM _ k q,yM _ k q]
  by_cases e:x.toNat=k
  ·rw[if_pos e,if_pos (by omega),BB F x k (by omega)]
  ·rw[if_neg e,BO F x k (by omega)]
 ·rw[if_neg (by omega),List.getElem?_eq_none (by rw[lW];omega),List.getElem?_eq_none (by rw[lW];omega)]
theorem xt:List.replicate (Int.toNat 8) false=L8 (fun _=>false):=rfl
theorem kT (F:Nat→Bool):∃r,bP.f (L8 F)=some r∧r.length≤8∧∀x,x∈r↔∃k:Nat,k<8∧F k=true∧x=(k:Int):=by
 simp only[bP.f,bP.begin,Tr.ak]
 exact upto 8 (fun i (s:List Int)=>s.length≤i∧∀x,x∈s↔∃k:Nat,k<i∧F k=true∧x=(k:Int)) (fun i s=>lp bP.tree (.c3 (L8 F) s (i:Int))) (fun r=>r.length≤8∧∀x,x∈r↔∃k:Nat,k<8∧F k=true∧x=(k:Int)) (fun i hi s hs=>by
  obtain⟨hs,hm⟩:=hs;rw[aF];have hl8:((L8 F).length:Int)=8:=rfl
  by_cases q:i<8
  ·have q1:decide ((i:Int)<8)=true:=decide_eq_true (by omega);have q2:(0:Int)≤(i:Int)∧(i:Int)<8:=by omega
   have hY:CP (L8 F) (i:Int)=F i:=by rw[AW F _ (by omega),Int.toNat_natCast]
   cases hb:F i with
   | true=>
     rw[hb]at hY;refine Or.inr ⟨q,s++[(i:Int)],?_,by rw[List.length_append,List.length_singleton];omega,fun x=> ?_⟩
     ·simp only[bP.tree,Tr.ag,Tr.an,Tr.ak,hl8,q1,q2,and_self,decide_true,hY,gp s _ 1048576 (by omega) (by omega) 8 (by omega),↓reduceIte,aN (show i<4611686018427387904 by omega)]
     ·rw[iW,hm];refine⟨fun h=>h.elim (fun⟨k,h1,h2⟩=>⟨k,by omega,h2⟩) fun h=>⟨i,by omega,hb,h.symm⟩,fun⟨k,h1,h2,h3⟩=> ?_⟩
      by_cases qk:k<i
      ·exact Or.inl ⟨k,qk,h2,h3⟩
      ·exact Or.inr (by omega)
   | false=>
     rw[hb]at hY;refine Or.inr ⟨q,s,?_,by omega,fun x=> ?_⟩
     ·simp only[bP.tree,Tr.ag,Tr.an,Tr.ak,hl8,q1,q2,and_self,decide_true,hY,Bool.false_eq_true,↓reduceIte,aN (show i<4611686018427387904 by omega)]
     ·rw[hm];refine⟨fun⟨k,h1,h2⟩=>⟨k,by omega,h2⟩,fun⟨k,h1,h2,h3⟩=> ?_⟩
      by_cases qk:k<i
      ·exact⟨k,qk,h2,h3⟩
      ·obtain rfl:k=i:=by omega
       rw[hb]at h2;cases h2
  ·obtain rfl:i=8:=by omega
   refine Or.inl ⟨s,?_,by omega,hm⟩;simp only[bP.tree,Tr.ag,Tr.al,hl8,show decide (((8:Nat):Int)<8)=false from rfl,Bool.false_eq_true,↓reduceIte]) 0 (by omega) [] ⟨by simp,fun x=>⟨fun h=>by simp at h,fun⟨k,h,_⟩=>absurd h (by omega)⟩⟩
theorem jw (a b c d e f:Int):cB.f a b c d e f=some (decide (a=1∨a=2)):=by
 simp only[cB.f,cB.begin,Tr.ag,Tr.al]
 by_cases h4:a=1
 ·simp[h4]
 ·simp[h4]
theorem lk.var {k:Int} {l:List aq} {i:Nat} (h:lk k l i) (hi:i<l.length) (hv:l[i].f0=1∨l[i].f0=2):0≤l[i].f1∧l[i].f1≤7:=pP (h.next hi).1 hv
theorem yE (F:Nat→Bool) (x:Int) (k:Nat):mP F x k=true↔F k=true∨x=(k:Int):=by unfold mP;rw[Bool.or_eq_true,decide_eq_true_eq]
theorem Ch {l:List aq} {g:Nat→Prop} {x:Int} {k:Int} (hF:lk k l 0) {i:Nat} (hi:i≤l.length) (h:Wr l g i x):0≤x∧x≤7:=by
 obtain⟨j,y,h1,h2,h3,h4,rfl⟩:=h;have hj:j<l.length:=by omega
 rw[List.getElem?_eq_getElem hj]at h2;cases h2;exact(hF.at j (by omega)).var hj h4
theorem AZ {l:List aq} {g:Nat→Prop} {k:Int} (hF:lk k l 0) {F:Nat→Bool} (h:∀k:Nat,k<8→(F k=true↔Wr l g l.length (k:Int))) (x:Int):(∃k:Nat,k<8∧F k=true∧x=(k:Int))↔Wr l g l.length x:=by
 refine⟨fun⟨k,h1,h2,h3⟩=> ?_,fun hw=> ?_⟩
 ·rw[h3];exact(h k h1).mp h2
 ·have:=Ch hF (Nat.le_refl _) hw;refine⟨x.toNat,by omega,(h x.toNat (by omega)).mpr ?_,by omega⟩;rw[show((x.toNat:Nat):Int)=x by omega];exact hw
theorem pE (l:List aq) (hl:l.length≤1048576) (hb:okB l.length l 0=true):∃r,cW.f l=some r∧r.length≤8∧∀x,x∈r↔Wr l (fun _=>True) l.length x:=by
 obtain⟨b1,b2,b3⟩:=jU _ _ _ hb;have hF0:lk 3 l 0:=⟨0,by omega,b1,b2⟩;have eb:=jY l hl;rw[hb]at eb
 have key:=upto l.length (fun i (F:Nat→Bool)=>∀k:Nat,k<8→(F k=true↔Wr l (fun _=>True) i (k:Int))) (fun i F=>lp cW.tree (.c3 l (L8 F) (i:Int))) (fun r=>r.length≤8∧∀x,x∈r↔Wr l (fun _=>True) l.length x) (fun i hi F hM=>by
  rw[aF]
  by_cases q:i<l.length
  ·by_cases hv:l[i].f0=1∨l[i].f0=2
   ·have hx:=(hF0.at i (by omega)).var q hv;have n1:(0:Int)≤l[i].f1∧l[i].f1<((L8 F).length:Int):=by rw[lW];omega
    refine Or.inr ⟨q,mP F l[i].f1,?_,fun k hk=> ?_⟩
    ·simp only[cW.tree,Tr.ag,Tr.an,Tr.aj,Tr.ak,bk q,bB q,aX q,and_self,↓reduceIte,bt.told,eb,cB.told,jw,ai,hv,decide_true,n1,tE F l[i].f1 hx,aN (show i<4611686018427387904 by omega)]
    ·rw[yE,hM k hk,kK q];exact⟨fun h=>h.imp id fun h=>⟨trivial,hv,h⟩,fun h=>h.imp id fun h=>h.2.2⟩
   ·refine Or.inr ⟨q,F,?_,fun k hk=> ?_⟩
    ·simp only[cW.tree,Tr.ag,Tr.an,Tr.aj,Tr.ak,bk q,bB q,aX q,and_self,↓reduceIte,bt.told,eb,cB.told,jw,ai,hv,decide_false,decide_true,Bool.false_eq_true,aN (show i<4611686018427387904 by omega)]
    ·rw[hM k hk,kK q];exact⟨Or.inl,fun h=>h.elim id fun h=>absurd h.2.1 hv⟩
  ·obtain rfl:i=l.length:=by omega
   obtain⟨r,er,hr,hm⟩:=kT F;refine Or.inl ⟨r,?_,hr,fun x=>by rw[hm];exact AZ hF0 hM x⟩;simp only[cW.tree,Tr.ag,Tr.aj,Tr.al,cP,Bool.false_eq_true,↓reduceIte,bP.told,er,ai]) 0 (by omega) (fun _=>false) (fun k _=>⟨fun h=>(by cases h),fun h=>absurd h s6⟩)
 obtain⟨r,e,h⟩:=key;refine⟨r,?_,h⟩;have n0:(0:Int)≤8∧(8:Int)≤8∧(8:Int)*(1:Nat)≤room:=⟨by omega,by omega,by unfold room;omega⟩;simp only[cW.f,cW.begin,Tr.an,Tr.ak,n0,and_self,↓reduceIte,xt];exact e
theorem o8 (l:List aq) (hl:l.length≤1048576) (hb:okB l.length l 0=true):∃r,cm.f l=some r∧r.length≤8∧∀x,x∈r↔Wr l (fun j=>¬yQ l j) l.length x:=by
 obtain⟨b1,b2,b3⟩:=jU _ _ _ hb;have hF0:lk 3 l 0:=⟨0,by omega,b1,b2⟩;have eb:=jY l hl;rw[hb]at eb
 have key:∀(n i:Nat) (F:Nat→Bool),i+n=l.length→(∀k:Nat,k<8→(F k=true↔Wr l (fun j=>¬yQ l j) i (k:Int)))→(∀i' e,i'<i→yH l i' e→e<i)→∃r,lp cm.tree (.c3 l (L8 F) (i:Int))=some r∧r.length≤8∧∀x,x∈r↔Wr l (fun j=>¬yQ l j) l.length x:=by
  intro n
  induction n using Nat.strongRecOn with
  | _ n ih=>
    intro i F hi hM hA;rw[aF]
    by_cases q:i<l.length
    ·have hF:=hF0.at i (by omega)
     by_cases h4:l[i].f0=4
     ·obtain⟨a,s,r,e1,e6,_,hbal,p1,p2,p3,_,_,_⟩:=hF.zO q (by omega) (Or.inl h4);have hE:Ends l i (i+1+a.length):=⟨l[i],a,s,r,e1,Or.inl h4,e6,p1,p2,rfl⟩;have hI:yH l i (i+1+a.length):=⟨⟨l[i],List.getElem?_eq_getElem q,h4⟩,hE⟩
      obtain⟨rr,er,hr⟩:=ih (l.length-(i+1+a.length+1)) (by omega) (i+1+a.length+1) F (by omega) (fun k hk=>by
       rw[hM k hk];refine⟨fun⟨j,y,h1,h2⟩=>⟨j,y,by omega,h2⟩,fun⟨j,y,h1,h2,h3,h5⟩=>⟨j,y,?_,h2,h3,h5⟩⟩
       by_cases qj:j<i
       ·exact qj
       ·exact(h3 ⟨i,_,hI,by omega,by omega⟩).elim) (fun i' e' h1 h2=>by
       by_cases qi:i'<i
       ·have:=hA i' e' qi h2;omega
       ·by_cases qe:i'=i
        ·subst qe;have:=h2.2.inj hl hE;omega
        ·have:=nested hl e1 e6 hbal (by omega) (show i<i' by omega) (by omega) h2;omega)
      refine⟨rr,?_,hr⟩;simp only[cm.tree,Tr.ag,Tr.an,Tr.aj,Tr.ak,bk q,bB q,aX q,and_self,↓reduceIte,bt.told,eb,ai,decide_eq_true h4,cd.told,hE.xr hl,aN (show i+1+a.length<4611686018427387904 by omega)];exact er
     ·have hnot:¬yQ l i:=fun⟨i',e,h1,h2,h3⟩=>by
       by_cases qi:i'<i
       ·have:=hA i' e qi h1;omega
       ·obtain rfl:i'=i:=by omega
        obtain⟨⟨y,hy,hy4⟩,_⟩:=h1;rw[List.getElem?_eq_getElem q]at hy;cases hy;exact h4 hy4
      have hA':∀i' e,i'<i+1→yH l i' e→e<i+1:=fun i' e h1 h2=>by
       by_cases qi:i'<i
       ·have:=hA i' e qi h2;omega
       ·obtain rfl:i'=i:=by omega
        obtain⟨⟨y,hy,hy4⟩,_⟩:=h2;rw[List.getElem?_eq_getElem q]at hy;cases hy;exact absurd hy4 h4
      by_cases hv:l[i].f0=1∨l[i].f0=2
      ·have hx:=hF.var q hv;have n1:(0:Int)≤l[i].f1∧l[i].f1<((L8 F).length:Int):=by rw[lW];omega
       obtain⟨rr,er,hr⟩:=ih (l.length-(i+1)) (by omega) (i+1) (mP F l[i].f1) (by omega) (fun k hk=>by
        rw[yE,hM k hk,kK q];exact⟨fun h=>h.imp id fun h=>⟨hnot,hv,h⟩,fun h=>h.imp id fun h=>h.2.2⟩) hA'
       refine⟨rr,?_,hr⟩;simp only[cm.tree,Tr.ag,Tr.an,Tr.aj,Tr.ak,bk q,bB q,aX q,and_self,↓reduceIte,bt.told,eb,ai,decide_eq_false h4,Bool.false_eq_true,cB.told,jw,hv,decide_true,n1,tE F l[i].f1 hx,aN (show i<4611686018427387904 by omega)];exact er
      ·obtain⟨rr,er,hr⟩:=ih (l.length-(i+1)) (by omega) (i+1) F (by omega) (fun k hk=>by
        rw[hM k hk,kK q];exact⟨Or.inl,fun h=>h.elim id fun h=>absurd h.2.1 hv⟩) hA'
       refine⟨rr,?_,hr⟩;simp only[cm.tree,Tr.ag,Tr.an,Tr.aj,Tr.ak,bk q,bB q,aX q,and_self,↓reduceIte,bt.told,eb,ai,decide_eq_false h4,Bool.false_eq_true,cB.told,jw,hv,decide_false,aN (show i<4611686018427387904 by omega)];exact er
    ·obtain rfl:i=l.length:=by omega
     obtain⟨r,er,hr,hm⟩:=kT F;refine⟨r,?_,hr,fun x=>by rw[hm];exact AZ hF0 hM x⟩;simp only[cm.tree,Tr.ag,Tr.aj,Tr.al,cP,Bool.false_eq_true,↓reduceIte,bP.told,er,ai]
 obtain⟨r,e,h⟩:=key l.length 0 (fun _=>false) (by omega) (fun k _=>⟨fun h=>(by cases h),fun h=>absurd h s6⟩) (fun i' e h=>absurd h (by omega));refine⟨r,?_,h⟩;have n0:(0:Int)≤8∧(8:Int)≤8∧(8:Int)*(1:Nat)≤room:=⟨by omega,by omega,by unfold room;omega⟩;simp only[cm.f,cm.begin,Tr.an,Tr.ak,n0,and_self,↓reduceIte,xt];exact e
theorem ri (o a b:Int):∃r,cV.f o a b=some r∧r.length≤8∧(∀x∈r,0≤x∧x≤7)∧∀k:Nat,(k:Int)∈r↔l6 o a b k=true:=by
 simp only[cV.f,cV.begin,Tr.ak];cases hx:pA o a b with
 | false=>
   refine⟨[],?_,by simp,by simp,fun k=>by unfold l6;rw[hx];simp⟩;rw[aF];simp only[cV.tree,Tr.ag,Tr.aj,Tr.al,cf.told,g9,hx,ai,Bool.false_eq_true,show decide ((0:Int)<8)=true from rfl,↓reduceIte]
 | true=>
   obtain⟨_,ha,hb⟩:=ud hx
   exact upto 8 (fun i (s:List Int)=>s.length≤i∧(∀x∈s,0≤x∧x≤7)∧∀k:Nat,(k:Int)∈s↔k<i∧l6 o a b k=true) (fun i s=>lp cV.tree (.c3 o a b s (i:Int))) (fun r=>r.length≤8∧(∀x∈r,0≤x∧x≤7)∧∀k:Nat,(k:Int)∈r↔l6 o a b k=true) (fun i hi s hs=>by
    obtain⟨hl,hv,hm⟩:=hs
    have hr:l6 o a b i=true↔a= -1-(i:Int)∨b= -1-(i:Int):=by
     unfold l6;rw[hx,Bool.true_and,Bool.or_eq_true,decide_eq_true_eq,decide_eq_true_eq]
    have w:wr (-1-(i:Int))= -1-(i:Int):=b6 (by omega);rw[aF]
    by_cases q:i<8
    ·have q1:decide ((i:Int)<8)=true:=decide_eq_true (by omega)
     have step:∀k:Nat,k<i+1∧l6 o a b k=true↔(k<i∧l6 o a b k=true)∨(k=i∧l6 o a b i=true):=fun k=>
      ⟨fun⟨h1,h2⟩=>by
       by_cases qk:k<i
       ·exact Or.inl ⟨qk,h2⟩
       ·obtain rfl:k=i:=by omega
        exact Or.inr ⟨rfl,h2⟩,fun h=>h.elim (fun h=>⟨by omega,h.2⟩) fun h=>⟨by omega,by rw[h.1];exact h.2⟩⟩
     have yes:l6 o a b i=true→(s++[(i:Int)]).length≤i+1∧(∀x∈s++[(i:Int)],0≤x∧x≤7)∧∀k:Nat,(k:Int)∈s++[(i:Int)]↔k<i+1∧l6 o a b k=true:=fun h=>
      ⟨by rw[List.length_append,List.length_singleton];omega,fun x hx=>by
       rcases List.mem_append.mp hx with hx | hx
       ·exact hv x hx
       ·rw[List.mem_singleton]at hx;omega,fun k=>by
       rw[iW,hm,step];exact⟨fun h'=>h'.imp id fun h'=>⟨by omega,h⟩,fun h'=>h'.imp id fun h'=>by omega⟩⟩
     have fit:=gp s (i:Int) 1048576 (by omega) (by omega) 8 (by omega)
     by_cases h1:a= -1-(i:Int)
     ·refine Or.inr ⟨q,s++[(i:Int)],?_,yes (hr.mpr (Or.inl h1))⟩;simp only[cV.tree,Tr.ag,Tr.an,Tr.aj,Tr.ak,q1,cf.told,g9,hx,ai,w,decide_eq_true h1,fit,↓reduceIte,aN (show i<4611686018427387904 by omega)]
     ·by_cases h2:b= -1-(i:Int)
      ·refine Or.inr ⟨q,s++[(i:Int)],?_,yes (hr.mpr (Or.inr h2))⟩;simp only[cV.tree,Tr.ag,Tr.an,Tr.aj,Tr.ak,q1,cf.told,g9,hx,ai,w,decide_eq_false h1,decide_eq_true h2,Bool.false_eq_true,fit,↓reduceIte,aN (show i<4611686018427387904 by omega)]
      ·refine Or.inr ⟨q,s,?_,by omega,hv,fun k=> ?_⟩
       ·simp only[cV.tree,Tr.ag,Tr.an,Tr.aj,Tr.ak,q1,cf.told,g9,hx,ai,w,decide_eq_false h1,decide_eq_false h2,Bool.false_eq_true,↓reduceIte,aN (show i<4611686018427387904 by omega)]
       ·rw[hm,step];exact⟨Or.inl,fun h=>h.elim id fun h=>absurd (hr.mp h.2) (by omega)⟩
    ·obtain rfl:i=8:=by omega
     refine Or.inl ⟨s,?_,by omega,hv,fun k=> ?_⟩
     ·simp only[cV.tree,Tr.ag,Tr.al,show decide (((8:Nat):Int)<8)=false from rfl,Bool.false_eq_true,↓reduceIte]
     ·rw[hm];refine⟨fun h=>h.2,fun h=>⟨?_,h⟩⟩;unfold l6 at h;rw[hx,Bool.true_and,Bool.or_eq_true,decide_eq_true_eq,decide_eq_true_eq]at h;omega) 0 (by omega) [] ⟨by simp,by simp,fun k=>⟨fun h=>by simp at h,fun h=>absurd h.1 (by omega)⟩⟩
theorem jO (o a b:Int) (W F:Nat→Bool):cb.f o a b (L8 F) (L8 W)=some (L8 (note W F (l6 o a b)),L8 W):=by
 obtain⟨l,e,hl,hv,hm⟩:=ri o a b;simp only[cb.f,cb.begin,Tr.aj,Tr.ak,cV.told,e,ai];obtain⟨G,hG⟩:∃G:Nat→Nat→Bool,∀i k,G i k=note W F (fun k=>decide ((k:Int)∈l.take i)) k:=⟨_,fun _ _=>rfl⟩
 have key:∀(n i:Nat),i+n=l.length→lp cb.tree (.c3 l (i:Int) (L8 (G i)) (L8 W))=some (L8 (G l.length),L8 W):=by
  intro n
  induction n with
  | zero=>
    intro i hi;obtain rfl:i=l.length:=by omega
    rw[aF];simp only[cb.tree,Tr.ag,Tr.al,cP,Bool.false_eq_true,↓reduceIte]
  | succ n ih=>
    intro i hi;have q:i<l.length:=by omega
    rw[←ih (i+1) (by omega),aF];have hk:=hv l[i] (List.getElem_mem q)
    have hs:∀k:Nat,G (i+1) k=(G i k || (decide (l[i]=(k:Int))&& !W k)):=fun k=>by
     rw[hG,hG];unfold note;dsimp only
     have:decide ((k:Int)∈l.take (i+1))=(decide ((k:Int)∈l.take i) || decide (l[i]=(k:Int))):=by
      rw[Bool.eq_iff_iff,Bool.or_eq_true,decide_eq_true_eq,decide_eq_true_eq,decide_eq_true_eq,List.take_add_one,List.getElem?_eq_getElem q];exact iW _ _ _
     rw[this,Bool.and_or_distrib_right,Bool.or_assoc]
    have n1:(0:Int)≤l[i]∧l[i]<((L8 W).length:Int):=by rw[lW];omega
    have n2:(0:Int)≤l[i]∧l[i]<((L8 (G i)).length:Int):=by rw[lW];omega
    cases hW:W l[i].toNat with
    | true=>
      have hgg:L8 (G (i+1))=L8 (G i):=pZ fun k hk8=>by
       rw[hs k]
       by_cases e:l[i]=(k:Int)
       ·have:W k=true:=by rw[←hW];congr 1;omega
        rw[this];simp
       ·rw[decide_eq_false e];simp
      rw[hgg];simp only[cb.tree,Tr.ag,Tr.an,Tr.ak,bk q,bB q,aX q,n1,and_self,decide_true,↓reduceIte,AW W l[i] hk,hW,Bool.not_true,Bool.false_eq_true,aN (show i<4611686018427387904 by omega)]
    | false=>
      have hgg:L8 (G (i+1))=L8 (mP (G i) l[i]):=pZ fun k hk8=>by
       rw[hs k];unfold mP
       by_cases e:l[i]=(k:Int)
       ·have:W k=false:=by rw[←hW];congr 1;omega
        rw[this,decide_eq_true e];rfl
       ·rw[decide_eq_false e];simp
      rw[hgg];simp only[cb.tree,Tr.ag,Tr.an,Tr.ak,bk q,bB q,aX q,n1,n2,and_self,decide_true,↓reduceIte,AW W l[i] hk,hW,Bool.not_false,tE (G i) l[i] hk,aN (show i<4611686018427387904 by omega)]
 have e0:L8 F=L8 (G 0):=pZ fun k _=>by rw[hG];unfold note;rw[List.take_zero];simp
 have e1:L8 (note W F (l6 o a b))=L8 (G l.length):=pZ fun k _=>by
  rw[hG];unfold note;dsimp only;have:decide ((k:Int)∈l.take l.length)=l6 o a b k:=by rw[List.take_length,Bool.eq_iff_iff,decide_eq_true_eq,hm]
  rw[this]
 rw[e0,e1];exact key l.length 0 (by omega)
theorem jA.append {n:Nat} {l:List aq} {W F W1 F1:Nat→Bool} (h:jA n l W F W1 F1):∀{r:List aq} {W2 F2:Nat→Bool},jA n r W1 F1 W2 F2→jA n (l++r) W F W2 F2:=by
 induction h with
 | nil n W F=>intro r W2 F2 h;exact h
 | plain h4 hok h ih=>intro r W2 F2 h';exact .plain h4 hok (ih h')
 | ifs h4 hok h6 p1 p2 ha hr iha ihr=>
   intro r W2 F2 h';have:=jA.ifs h4 hok h6 p1 p2 ha (ihr h');rw[List.cons_append,List.append_assoc,List.cons_append];exact this
theorem jA.more {n:Nat} {l:List aq} {W F W1 F1:Nat→Bool} (h:jA n l W F W1 F1):jA (n+1) l W F W1 F1:=by
 induction h with
 | nil n W F=>exact .nil _ _ _
 | plain h4 hok h ih=>exact .plain h4 hok ih
 | ifs h4 hok h6 p1 p2 ha hr iha ihr=>exact .ifs h4 hok h6 p1 p2 iha ihr
def BV (self_:Self bp.I bp.A bp.K) (n:Nat):Prop:=
 ∀(l:List aq) (i b:Nat) (W F:Nat→Bool) (m:List aq),l.length≤1048576→l.drop i=m++l.drop b→i+m.length=b→b≤l.length→inr 0 (n:Int) m 0=true→fin m 0=0→∃W1 F1,self_.f (l,(i:Int),(b:Int),L8 W,L8 F)=some (L8 W1,L8 F1)∧jA n m W F W1 F1
set_option maxHeartbeats 4000000 in
theorem mK (self_:Self bp.I bp.A bp.K) (n:Nat) (hn30:n≤30) (hs:∀n',n=n'+1→BV self_ n'):BV (bp.step self_) n:=by
 intro l i b W F m hl hd hib hbl hp hf
 have key:∀(N:Nat) (m:List aq) (d:Int) (i:Nat) (W F:Nat→Bool),m.length=N→0≤d→l.drop i=m++l.drop b→i+m.length=b→inr 0 (n:Int) m d=true→fin m d=0→∃W1 F1,lp (bp.tree self_) (.c1 l (b:Int) (i:Int) (L8 W) (L8 F))=some (L8 W1,L8 F1)∧jA n m W F W1 F1:=by
  intro N
  induction N using Nat.strongRecOn with
  | _ N ih=>
    intro m d i W F hN hd0 hd hib hp hf;cases m with
    | nil=>
      obtain rfl:i=b:=by simpa using hib
      refine⟨W,F,?_,.nil _ _ _⟩;rw[aF];simp only[bp.tree,Tr.ag,Tr.al,cP,Bool.false_eq_true,↓reduceIte]
    | cons x m=>
      obtain⟨q,e,e2⟩:=jE (a:=[]) (show l.drop i=[]++x::(m++l.drop b)from hd);have q':i<l.length:=q;have e':l[i]=x:=e;have e2':l.drop (i+1)=m++l.drop b:=e2;rw[List.length_cons]at hib;have hr:ah l (i:Int)=x:=(aX q').trans e';have qb:decide ((i:Int)<(b:Int))=true:=decide_eq_true (by omega);have w:wr ((i:Int)+1)=((i+1:Nat):Int):=aN (by omega)
      have hok:wx x=true∧inr 0 (n:Int) m (dep x.f0 d)=true∧0≤dep x.f0 d:=by
       unfold inr at hp;rw[Bool.and_eq_true,Bool.and_eq_true,ca]at hp;exact⟨hp.1,hp.2.2,hp.2.1.1⟩
      have hfm:fin m (dep x.f0 d)=0:=hf
      by_cases hop:x.f0=4∨x.f0=5
      ·obtain⟨a,s,r,em,e6,k1,hbal,p1,p2,p3,p4⟩:=tv hd0 hop hp hf;obtain⟨n',rfl⟩:∃n',n=n'+1:=⟨n-1,by omega⟩;subst em;have hdd:l.drop i=x::(a++s::(r++l.drop b)):=by rw[hd];simp
       have hE:Ends l i (i+1+a.length):=⟨x,a,s,_,hdd,hop,e6,mr (by omega) (by omega) a 1 p1,p2,rfl⟩;obtain⟨g1,g2,g3⟩:=jE (show l.drop (i+1)=a++s::(r++l.drop b) by rw[e2'];simp);have hlen:(a++s::r).length=a.length+1+r.length:=by simp;omega
       have hbal1:inr 0 (n':Int) a 0=true:=by rw[show(n':Int)=((n'+1:Nat):Int)-1 by omega];exact hbal.1
       have hee:=hE.xr hl;have hwe:wr (((i+1+a.length:Nat):Int)+1)=((i+1+a.length+1:Nat):Int):=aN (by omega)
       have hda:l.drop (i+1)=a++l.drop (i+1+a.length):=by
        rw[show l.drop (i+1+a.length)=s::(r++l.drop b) by rw[←List.drop_drop,e2'];simp,e2'];simp
       by_cases h4:x.f0=4
       ·have n1:¬x.f0=1:=by omega
        have n2:¬x.f0=2:=by omega
        have n3:¬x.f0=3:=by omega
        have sW:ib x W=W:=by unfold ib;rw[if_neg (by omega)]
        have sF:ir x W F=note W F (l6 x.f3.f0 x.f3.f1 x.f3.f2):=by unfold ir;rw[if_pos (by omega)]
        have fit:((List.length ([]:List Bool):Int)+((L8 W).length:Int))*(1:Nat)≤room:=by rw[lW];unfold room;simp
        obtain⟨W1,F1,es,hR1⟩:=hs n' rfl l (i+1) (i+1+a.length) W (note W F (l6 x.f3.f0 x.f3.f1 x.f3.f2)) a hl hda rfl (by omega) hbal1 hbal.2;obtain⟨W2,F2,er,hR2⟩:=ih r.length (by rw[←hN,List.length_cons,hlen];omega) r d (i+1+a.length+1) W F1 rfl hd0 g3 (by omega) p3 p4;refine⟨W2,F2,?_,.ifs h4 hok.1 e6 (mr (by omega) (by omega) a 1 p1) p2 (by rw[sW,sF];exact hR1) (by rw[sW];exact hR2)⟩;rw[aF];simp only[bp.tree,Tr.ag,Tr.an,Tr.aj,Tr.ak,qb,bB q',hr,and_self,↓reduceIte,decide_eq_false n1,decide_eq_false n2,decide_eq_false n3,decide_eq_true h4,Bool.false_eq_true,cb.told,jO x.f3.f0 x.f3.f1 x.f3.f2 W F,ai,cd.told,hee,fit,List.nil_append,w,Self.told,es,hwe];exact er
       ·have h5:x.f0=5:=by omega
        have n1:¬x.f0=1:=by omega
        have n2:¬x.f0=2:=by omega
        have n3:¬x.f0=3:=by omega
        have sW:ib x W=W:=by unfold ib;rw[if_neg (by omega)]
        have sF:ir x W F=F:=by unfold ir;rw[if_neg (by omega)]
        obtain⟨W1,F1,es,hR1⟩:=hs n' rfl l (i+1) (i+1+a.length) W F a hl hda rfl (by omega) hbal1 hbal.2;obtain⟨W2,F2,er,hR2⟩:=ih r.length (by rw[←hN,List.length_cons,hlen];omega) r d (i+1+a.length+1) W1 F1 rfl hd0 g3 (by omega) p3 p4
        have oks:wx s=true:=by
         have h1:=hok.2.1
         have:∀(a:List aq) (d:Int),inr 0 ((n'+1:Nat):Int) (a++s::r) d=true→wx s=true:=by
          intro a
          induction a with
          | nil=>intro d h;exact(Bool.and_eq_true _ _▸h:wx s=true∧_).1
          | cons y a iha=>intro d h;unfold inr at h;rw[List.cons_append]at h;simp only[inr,Bool.and_eq_true]at h;exact iha _ h.2.2
         exact this a _ h1
        have sWs:∀W:Nat→Bool,ib s W=W:=fun W=>by unfold ib;rw[if_neg (by omega)]
        have sFs:∀W F:Nat→Bool,ir s W F=F:=fun W F=>by unfold ir;rw[if_neg (by omega)]
        refine⟨W2,F2,?_,.plain h4 hok.1 (by rw[sW,sF];exact hR1.more.append (.plain (by omega) oks (by rw[sWs,sFs];exact hR2)))⟩;rw[aF];simp only[bp.tree,Tr.ag,Tr.an,Tr.aj,Tr.ak,qb,bB q',hr,and_self,↓reduceIte,decide_eq_false n1,decide_eq_false n2,decide_eq_false n3,decide_eq_false h4,decide_eq_true h5,Bool.false_eq_true,ai,cd.told,hee,w,Self.told,es,hwe];exact er
      ·have n4:¬x.f0=4:=by omega
       have n5:¬x.f0=5:=by omega
       by_cases n1:x.f0=1
       ·have hv:=pP hok.1 (Or.inl n1);have sW:ib x W=mP W x.f1:=by unfold ib;rw[if_pos (by omega)]
        have sF:ir x W F=note W F (l6 x.f3.f0 x.f3.f1 x.f3.f2):=by unfold ir;rw[if_pos (by omega)]
        have nb:(0:Int)≤x.f1∧x.f1<((L8 W).length:Int):=by rw[lW];omega
        obtain⟨W2,F2,er,hR2⟩:=ih m.length (by rw[←hN,List.length_cons];omega) m _ (i+1) (mP W x.f1) (note W F (l6 x.f3.f0 x.f3.f1 x.f3.f2)) rfl hok.2.2 e2' (by omega) hok.2.1 hfm;refine⟨W2,F2,?_,.plain n4 hok.1 (by rw[sW,sF];exact hR2)⟩;rw[aF];simp only[bp.tree,Tr.ag,Tr.an,Tr.aj,Tr.ak,qb,bB q',hr,and_self,↓reduceIte,decide_eq_true n1,cb.told,jO x.f3.f0 x.f3.f1 x.f3.f2 W F,ai,nb,tE W x.f1 hv,w];exact er
       ·by_cases n2:x.f0=2
        ·have hv:=pP hok.1 (Or.inr n2);have sW:ib x W=mP W x.f1:=by unfold ib;rw[if_pos (by omega)]
         have sF:ir x W F=F:=by unfold ir;rw[if_neg (by omega)]
         have nb:(0:Int)≤x.f1∧x.f1<((L8 W).length:Int):=by rw[lW];omega
         obtain⟨W2,F2,er,hR2⟩:=ih m.length (by rw[←hN,List.length_cons];omega) m _ (i+1) (mP W x.f1) F rfl hok.2.2 e2' (by omega) hok.2.1 hfm;refine⟨W2,F2,?_,.plain n4 hok.1 (by rw[sW,sF];exact hR2)⟩;rw[aF];simp only[bp.tree,Tr.ag,Tr.an,Tr.aj,Tr.ak,qb,bB q',hr,and_self,↓reduceIte,decide_eq_false n1,decide_eq_true n2,Bool.false_eq_true,ai,nb,tE W x.f1 hv,w];exact er
        ·by_cases n3:x.f0=3
         ·have sW:ib x W=W:=by unfold ib;rw[if_neg (by omega)]
          have sF:ir x W F=note W F (l6 x.f3.f0 x.f3.f1 x.f3.f2):=by unfold ir;rw[if_pos (by omega)]
          obtain⟨W2,F2,er,hR2⟩:=ih m.length (by rw[←hN,List.length_cons];omega) m _ (i+1) W (note W F (l6 x.f3.f0 x.f3.f1 x.f3.f2)) rfl hok.2.2 e2' (by omega) hok.2.1 hfm;refine⟨W2,F2,?_,.plain n4 hok.1 (by rw[sW,sF];exact hR2)⟩;rw[aF];simp only[bp.tree,Tr.ag,Tr.an,Tr.aj,Tr.ak,qb,bB q',hr,and_self,↓reduceIte,decide_eq_false n1,decide_eq_false n2,decide_eq_true n3,Bool.false_eq_true,cb.told,jO x.f3.f0 x.f3.f1 x.f3.f2 W F,ai,w];exact er
         ·have sW:ib x W=W:=by unfold ib;rw[if_neg (by omega)]
          have sF:ir x W F=F:=by unfold ir;rw[if_neg (by omega)]
          obtain⟨W2,F2,er,hR2⟩:=ih m.length (by rw[←hN,List.length_cons];omega) m _ (i+1) W F rfl hok.2.2 e2' (by omega) hok.2.1 hfm;refine⟨W2,F2,?_,.plain n4 hok.1 (by rw[sW,sF];exact hR2)⟩;rw[aF];simp only[bp.tree,Tr.ag,Tr.an,Tr.aj,Tr.ak,qb,bB q',hr,and_self,↓reduceIte,decide_eq_false n1,decide_eq_false n2,decide_eq_false n3,decide_eq_false n4,decide_eq_false n5,Bool.false_eq_true,ai,w];exact er
 exact key m.length m 0 i W F rfl (Int.le_refl _) hd hib hp hf
theorem tJ (l:List aq) (W F:Nat→Bool) (hl:l.length≤1048576) (hb:okB l.length l 0=true):∃W1 F1,bp.f l 0 (l.length:Int) (L8 W) (L8 F)=some (L8 W1,L8 F1)∧jA 3 l W F W1 F1:=by
 have h0:=mK (Self.iter bp.step 4) 0 (by omega) (fun n' h=>absurd h (by omega));have h1:=mK (Self.iter bp.step 5) 1 (by omega) (fun n' h=>by cases h;exact h0);have h2:=mK (Self.iter bp.step 6) 2 (by omega) (fun n' h=>by cases h;exact h1);have h3:=mK (Self.iter bp.step 7) 3 (by omega) (fun n' h=>by cases h;exact h2);obtain⟨c1,c2,_⟩:=jU _ _ _ hb;exact h3 l 0 l.length W F l hl (by simp) (by omega) (Nat.le_refl _) c1 c2
theorem xj (l:List aq) (a b c:Int) (hl:l.length≤1048576) (hb:okB l.length l 0=true) (hx:pA a b c=true):∃mi ms,dK.f l a b c=some mi∧dc.f l a b c=some ms∧mi.length≤1048576∧ms.length≤1048576∧∀x,x∈mi↔x∈ms:=by
 obtain⟨b1,b2,b3⟩:=jU _ _ _ hb;obtain⟨W1,F1,ep,hR⟩:=tJ l (fun _=>false) (fun _=>false) hl hb;obtain⟨mi,ei,hil,him⟩:=rG l a b c hl hb hx hR;have en:=jO a b c W1 F1;generalize note W1 F1 (l6 a b c)=Y at him en;obtain⟨r1,e1,h1,m1⟩:=kT Y;obtain⟨r2,e2,h2,m2⟩:=o8 l hl hb;obtain⟨r3,e3,h3,m3⟩:=pE l hl hb;have eb:=jY l hl;rw[hb]at eb;have n0:(0:Int)≤8∧(8:Int)≤8∧(8:Int)*(1:Nat)≤room:=⟨by omega,by omega,by unfold room;omega⟩
 have e4:cD.f l a b c=some r1:=by
  simp only[cD.f,cD.begin,Tr.an,Tr.aj,Tr.ag,Tr.al,n0,and_self,↓reduceIte,bt.told,eb,cf.told,g9,hx,ai,xt,bp.told,ep,cb.told,en,bP.told,e1]
 obtain⟨ms,es,hsl,hsm⟩:=upto r3.length (fun i (s:List Int)=>s.length≤i∧∀x,x∈s↔x∈r3.take i∧(x∈r1∨¬x∈r2)) (fun i s=>lp dc.tree (.c8 s r3 r2 r1 (i:Int))) (fun r=>r.length≤8∧∀x,x∈r↔x∈r3∧(x∈r1∨¬x∈r2)) (fun i hi s hs=>by
  obtain⟨hs,hm⟩:=hs;rw[aF]
  by_cases q:i<r3.length
  ·have v1:=km r1 r3[i] (by omega);have v2:=km r2 r3[i] (by omega);have fit:=gp s r3[i] 1048576 (by omega) (by omega) 8 (by omega);have tk:∀x,x∈r3.take (i+1)↔x∈r3.take i∨r3[i]=x:=fun x=>by rw[im q,iW]
   by_cases h1:r3[i]∈r1
   ·refine Or.inr ⟨q,s++[r3[i]],?_,by rw[List.length_append,List.length_singleton];omega,fun x=> ?_⟩
    ·simp only[dc.tree,Tr.ag,Tr.an,Tr.aj,Tr.ak,bk q,bB q,aX q,and_self,decide_true,↓reduceIte,cw.told,v1,ai,decide_eq_true h1,fit,aN (show i<4611686018427387904 by omega)]
    ·rw[iW,hm,tk];exact⟨fun h=>h.elim (fun h=>⟨Or.inl h.1,h.2⟩) fun h=>⟨Or.inr h,Or.inl (by rw[←h];exact h1)⟩,fun⟨h,h'⟩=>h.elim (fun h=>Or.inl ⟨h,h'⟩) Or.inr⟩
   ·by_cases h2:r3[i]∈r2
    ·refine Or.inr ⟨q,s,?_,by omega,fun x=> ?_⟩
     ·simp only[dc.tree,Tr.ag,Tr.an,Tr.aj,Tr.ak,bk q,bB q,aX q,and_self,decide_true,↓reduceIte,cw.told,v1,v2,ai,decide_eq_false h1,decide_eq_true h2,Bool.not_true,Bool.false_eq_true,aN (show i<4611686018427387904 by omega)]
     ·rw[hm,tk];refine⟨fun h=>⟨Or.inl h.1,h.2⟩,fun⟨h,h'⟩=>h.elim (fun h=>⟨h,h'⟩) fun h=> ?_⟩;rw[←h]at h';exact absurd h2 (h'.elim (fun h=>absurd h h1) id)
    ·refine Or.inr ⟨q,s++[r3[i]],?_,by rw[List.length_append,List.length_singleton];omega,fun x=> ?_⟩
     ·simp only[dc.tree,Tr.ag,Tr.an,Tr.aj,Tr.ak,bk q,bB q,aX q,and_self,decide_true,↓reduceIte,cw.told,v1,v2,ai,decide_eq_false h1,decide_eq_false h2,Bool.not_false,Bool.false_eq_true,fit,aN (show i<4611686018427387904 by omega)]
     ·rw[iW,hm,tk];exact⟨fun h=>h.elim (fun h=>⟨Or.inl h.1,h.2⟩) fun h=>⟨Or.inr h,Or.inr (by rw[←h];exact h2)⟩,fun⟨h,h'⟩=>h.elim (fun h=>Or.inl ⟨h,h'⟩) Or.inr⟩
  ·obtain rfl:i=r3.length:=by omega
   rw[List.take_length]at hm;refine Or.inl ⟨s,?_,by omega,hm⟩;simp only[dc.tree,Tr.ag,Tr.al,cP,Bool.false_eq_true,↓reduceIte]) 0 (by omega) [] ⟨by simp,by simp⟩
 refine⟨mi,ms,ei,?_,by omega,by omega,fun x=> ?_⟩
 ·simp only[dc.f,dc.begin,Tr.aj,Tr.ag,Tr.ak,gI.told,gI.f,gI.begin,Tr.al,bt.told,eb,cf.told,g9,hx,ai,Bool.not_true,Bool.false_eq_true,↓reduceIte,cW.told,e3,cm.told,e2,cD.told,e4];exact es
 ·rw[him,hsm,m3,m1,m2];rfl
theorem kX (c:Int) (vs se u li rd:List Int) (at_:Int) (lv:Bool) (o:List aM) (ms lg:List Int) (t tl:Int) (ho:o.length≤1000000):dV.f c vs se u li rd at_ lv o ms lg t tl=some (vs,se,u,li,rd,at_,lv,o++[(⟨c,-1,0⟩:aM)],ms,lg,t,tl):=by
 simp only[dV.f,dV.begin,Tr.an,Tr.al,gp o _ 1048576 (by omega) (by omega) 24 (by omega),↓reduceIte]
theorem iq (a v:Int) (vs se u li rd:List Int) (at_:Int) (lv:Bool) (o:List aM) (ms lg:List Int) (t tl:Int) (ho:o.length≤1000000):bR.f a v vs se u li rd at_ lv o ms lg t tl=some (vs,se,u,li,rd,at_,lv,o++[(⟨3,a,v⟩:aM)],ms,lg,t,tl):=by
 simp only[bR.f,bR.begin,Tr.an,Tr.al,gp o _ 1048576 (by omega) (by omega) 24 (by omega),↓reduceIte]
def Sy (mi ms lg:List Int) (f:List Bool):Prop:=(∀x,x∈mi↔x∈ms)∧∀k:Nat,k<8→(k:Int)∈mi→(f[k]? =some true↔(k:Int)∈lg)
set_option maxHeartbeats 4000000 in
theorem tS (mi:List Int) (k v:Int) (o:List aM) (u:List Int) (t tl sn:Int) (lg:List Int) (f0 f1 f2 f3 f4 f5 f6 f7:Bool) (vs:List Int) (hk:0≤k∧k≤7) (hm:mi.length≤1048576):
 aL.f mi k v o u t tl sn lg f0 f1 f2 f3 f4 f5 f6 f7 vs=if k∈mi∧([f0,f1,f2,f3,f4,f5,f6,f7]:List Bool)[k.toNat]? =some false then lp aL.tree (.c1 k v o u t tl sn lg f0 f1 f2 f3 f4 f5 f6 f7 vs)else lp aL.tree (.c6 k v o u t tl sn lg f0 f1 f2 f3 f4 f5 f6 f7 vs):=by
 have eh:=lI mi k hm
 by_cases h:k∈mi
 ·rw[decide_eq_true h]at eh;simp only[aL.f,aL.begin,Tr.aj,Tr.ag,Tr.ak,ez.told,eh,ai,↓reduceIte];rcases(show k=0∨k=1∨k=2∨k=3∨k=4∨k=5∨k=6∨k=7 by omega)with rfl | rfl | rfl | rfl | rfl | rfl | rfl | rfl
  ·simp only[decide_true,↓reduceIte,Int.reduceEq,decide_false,Bool.false_eq_true];cases f0 with
   | false=>exact(if_pos ⟨h,rfl⟩).symm
   | true=>exact(if_neg (fun h'=>by cases h'.2)).symm
  ·simp only[decide_true,↓reduceIte,Int.reduceEq,decide_false,Bool.false_eq_true];cases f1 with
   | false=>exact(if_pos ⟨h,rfl⟩).symm
   | true=>exact(if_neg (fun h'=>by cases h'.2)).symm
  ·simp only[decide_true,↓reduceIte,Int.reduceEq,decide_false,Bool.false_eq_true];cases f2 with
   | false=>exact(if_pos ⟨h,rfl⟩).symm
   | true=>exact(if_neg (fun h'=>by cases h'.2)).symm
  ·simp only[decide_true,↓reduceIte,Int.reduceEq,decide_false,Bool.false_eq_true];cases f3 with
   | false=>exact(if_pos ⟨h,rfl⟩).symm
   | true=>exact(if_neg (fun h'=>by cases h'.2)).symm
  ·simp only[decide_true,↓reduceIte,Int.reduceEq,decide_false,Bool.false_eq_true];cases f4 with
   | false=>exact(if_pos ⟨h,rfl⟩).symm
   | true=>exact(if_neg (fun h'=>by cases h'.2)).symm
  ·simp only[decide_true,↓reduceIte,Int.reduceEq,decide_false,Bool.false_eq_true];cases f5 with
   | false=>exact(if_pos ⟨h,rfl⟩).symm
   | true=>exact(if_neg (fun h'=>by cases h'.2)).symm
  ·simp only[decide_true,↓reduceIte,Int.reduceEq,decide_false,Bool.false_eq_true];cases f6 with
   | false=>exact(if_pos ⟨h,rfl⟩).symm
   | true=>exact(if_neg (fun h'=>by cases h'.2)).symm
  ·simp only[decide_true,↓reduceIte,Int.reduceEq,decide_false,Bool.false_eq_true];cases f7 with
   | false=>exact(if_pos ⟨h,rfl⟩).symm
   | true=>exact(if_neg (fun h'=>by cases h'.2)).symm
 ·rw[decide_eq_false h]at eh;rw[if_neg (fun h'=>h h'.1)];simp only[aL.f,aL.begin,Tr.aj,Tr.ag,Tr.ak,ez.told,eh,ai,Bool.false_eq_true,↓reduceIte]
theorem rX {n:Nat} {M:List Int} {B:Nat} (k v:Int) (o:List aM) (u:List Int) (t tl sn:Int) (lg:List Int) (f0 f1 f2 f3 f4 f5 f6 f7:Bool) (vs:List Int) (b:ns n t tl M) (hB:B≤900000) (h:TI n t tl M B o u sn lg (([f0,f1,f2,f3,f4,f5,f6,f7]:List Bool).set k.toNat true) vs) (hk:0≤k∧k≤7) (hv:isVal v=true):
 ∃g0 g1 g2 g3 g4 g5 g6 g7,[g0,g1,g2,g3,g4,g5,g6,g7]=([f0,f1,f2,f3,f4,f5,f6,f7]:List Bool).set k.toNat true∧lp aL.tree (.c6 k v o u t tl sn lg f0 f1 f2 f3 f4 f5 f6 f7 vs)=some (o++[(⟨3,k,v⟩:aM)],u,t,tl,sn,lg,g0,g1,g2,g3,g4,g5,g6,g7,vs.set k.toNat v)∧TI n t tl M (B+1) (o++[(⟨3,k,v⟩:aM)]) u sn lg [g0,g1,g2,g3,g4,g5,g6,g7] (vs.set k.toNat v):=by
 obtain⟨g0,g1,g2,g3,g4,g5,g6,g7,e,e'⟩:=Af k v o u t tl sn lg f0 f1 f2 f3 f4 f5 f6 f7 vs hk;rw[←e]at h;have hvl:=(mF.mp h.zL).2;have n1:(0:Int)≤k∧k<(vs.length:Int):=by omega
 have hw:=gA k v o u t tl sn lg g0 g1 g2 g3 g4 g5 g6 g7 (vs.set k.toNat v) (by have:=h.ma;omega);refine⟨g0,g1,g2,g3,g4,g5,g6,g7,e,?_,h.push b _ ⟨by show(0:Int)≤3∧(3:Int)≤5;omega,by show -1≤k∧k<49;omega⟩ ?_ (by have:=h.Ap;omega) h.Bp (BQ h.zL hv)⟩
 ·rw[e',aF];simp only[aL.tree,Tr.an,Tr.aj,Tr.al,n1,and_self,↓reduceIte,aZ.told,hw,ai]
 ·rw[mU _ _ _ _ hk.1];exact h.run.set (by omega) (by omega) (fun _=>hv) (Or.inl (by omega)) (Or.inl (by omega))
theorem nL (k v:Int) (vs se u li rd:List Int) (at_:Int) (lv:Bool) (o:List aM) (ms lg:List Int) (t tl:Int) (hk:0≤k∧k≤7) (hvl:vs.length=8) (ho:o.length≤1000000):
 lp bI.tree (.c6 k v vs se u li rd at_ lv o ms lg t tl)=some (vs.set k.toNat v,se,u,li,rd,at_,lv,o++[(⟨3,k,v⟩:aM)],ms,lg,t,tl):=by
 have n1:(0:Int)≤k∧k<(vs.length:Int):=by omega
 rw[aF];simp only[bI.tree,Tr.an,Tr.aj,Tr.al,n1,and_self,↓reduceIte,bR.told,iq k v (vs.set k.toNat v) se u li rd at_ lv o ms lg t tl ho,ai]
theorem pD {f:List Bool} {j:Nat} (h:j<f.length):f[j]? =some true∨f[j]? =some false:=by
 rw[List.getElem?_eq_getElem h];cases f[j]with
 | true=>exact Or.inl rfl
 | false=>exact Or.inr rfl
set_option maxHeartbeats 4000000 in
theorem sh {n:Nat} {M:List Int} {B:Nat} (mi ms:List Int) (k v:Int) (o:List aM) (u:List Int) (t tl sn:Int) (lg:List Int) (f0 f1 f2 f3 f4 f5 f6 f7:Bool) (vs:List Int) (se rd:List Int) (at_:Int) (b:ns n t tl M) (hB:B≤800000) (h:TI n t tl M B o u sn lg [f0,f1,f2,f3,f4,f5,f6,f7] vs) (hk:0≤k∧k≤7) (hv:isVal v=true) (hm:mi.length≤1048576) (hms:ms.length≤1048576) (hS:Sy mi ms lg [f0,f1,f2,f3,f4,f5,f6,f7]):
 ∃o' lg' g0 g1 g2 g3 g4 g5 g6 g7,aL.f mi k v o u t tl sn lg f0 f1 f2 f3 f4 f5 f6 f7 vs=some (o',u,t,tl,sn,lg',g0,g1,g2,g3,g4,g5,g6,g7,vs.set k.toNat v)∧TI n t tl M (B+4) o' u sn lg' [g0,g1,g2,g3,g4,g5,g6,g7] (vs.set k.toNat v)∧
  bI.f k v vs se u [] rd at_ true o ms lg t tl=some (vs.set k.toNat v,se,u,[],rd,at_,true,o',ms,lg',t,tl)∧Sy mi ms lg' [g0,g1,g2,g3,g4,g5,g6,g7]:=by
 have hb8:k.toNat<([f0,f1,f2,f3,f4,f5,f6,f7]:List Bool).length:=by simp;omega
 have hk8:=hS.2 k.toNat (by omega);rw[show((k.toNat:Nat):Int)=k by omega]at hk8;have hvl:=(mF.mp h.zL).2;have ho:=h.ma;have hlgl:=h.Bp;have hc8':=v8 ([f0,f1,f2,f3,f4,f5,f6,f7]:List Bool);simp only[List.length_cons,List.length_nil]at hc8';have eI:=tS mi k v o u t tl sn lg f0 f1 f2 f3 f4 f5 f6 f7 vs hk hm;have e1:=km ms k hms;have e2:=km lg k (by omega)
 by_cases hc:k∈mi∧([f0,f1,f2,f3,f4,f5,f6,f7]:List Bool)[k.toNat]? =some false
 ·rw[if_pos hc]at eI;have hf:([f0,f1,f2,f3,f4,f5,f6,f7]:List Bool).getD k.toNat true=false:=by rw[List.getD_eq_getElem?_getD,hc.2];rfl
  have hnl:¬k∈lg:=fun hl=>by
   have:=(hk8 hc.1).mpr hl;rw[hc.2]at this;cases this
  rw[decide_eq_true ((hS.1 k).mp hc.1)]at e1;rw[decide_eq_false hnl]at e2;obtain⟨hva,_⟩:=mF.mp h.zL;have n1:(0:Int)≤k∧k<(vs.length:Int):=by omega
  have hcn:=vc ([f0,f1,f2,f3,f4,f5,f6,f7]:List Bool) k.toNat hb8 hf;have hc8:=v8 (([f0,f1,f2,f3,f4,f5,f6,f7]:List Bool).set k.toNat true);rw[List.length_set]at hc8;have hlg7:lg.length≤7:=by simp only[List.length_cons,List.length_nil]at hc8;omega
  have w1:wr (2*(lg.length:Int))=2*(lg.length:Int):=b6 (by omega);have w2:wr (9+2*(lg.length:Int))=9+2*(lg.length:Int):=b6 (by omega);have w3:wr (9+2*(lg.length:Int)+1)=9+2*(lg.length:Int)+1:=b6 (by omega);have w4':wr ((lg.length:Int)+1)=(lg.length:Int)+1:=b6 (by omega);have w4:wr ((lg.length:Int)+1)=((lg++[k]).length:Int):=w4'.trans (by rw[List.length_append,List.length_singleton];rfl);have hw1:=gA (9+2*(lg.length:Int)) k o u t tl sn lg f0 f1 f2 f3 f4 f5 f6 f7 vs (by omega);have hw2:=gA (9+2*(lg.length:Int)+1) (eG vs k) (o++[(⟨3,9+2*(lg.length:Int),k⟩:aM)]) u t tl sn lg f0 f1 f2 f3 f4 f5 f6 f7 vs (by rw[List.length_append,List.length_singleton];omega);have hw3:=gA 8 (pack t ((lg++[k]).length:Int) tl) ((o++[(⟨3,9+2*(lg.length:Int),k⟩:aM)])++[(⟨3,9+2*(lg.length:Int)+1,eG vs k⟩:aM)]) u t tl sn (lg++[k]) f0 f1 f2 f3 f4 f5 f6 f7 vs (by rw[List.length_append,List.length_append,List.length_singleton,List.length_singleton];omega);have hx1:=iq (9+2*(lg.length:Int)) k vs se u [] rd at_ true o ms lg t tl (by omega);have hx2:=iq (9+2*(lg.length:Int)+1) (eG vs k) vs se u [] rd at_ true (o++[(⟨3,9+2*(lg.length:Int),k⟩:aM)]) ms lg t tl (by rw[List.length_append,List.length_singleton];omega)
  have hx3:=iq 8 (pack t ((lg++[k]).length:Int) tl) vs se u [] rd at_ true ((o++[(⟨3,9+2*(lg.length:Int),k⟩:aM)])++[(⟨3,9+2*(lg.length:Int)+1,eG vs k⟩:aM)]) ms lg t tl (by rw[List.length_append,List.length_append,List.length_singleton,List.length_singleton];omega);have hx6:=nL k v vs se u [] rd at_ true (((o++[(⟨3,9+2*(lg.length:Int),k⟩:aM)])++[(⟨3,9+2*(lg.length:Int)+1,eG vs k⟩:aM)])++[(⟨3,8,pack t ((lg++[k]).length:Int) tl⟩:aM)]) ms (lg++[k]) t tl hk hvl (by rw[List.length_append,List.length_append,List.length_append,List.length_singleton,List.length_singleton,List.length_singleton];omega);have hkv:isVal k=true:=by unfold isVal;rw[ca];omega
  have hrv:isVal (eG vs k)=true:=zy hva k
  have r1:u5 t tl M lg.length sn (mw (cI M o) (⟨3,9+2*(lg.length:Int),k⟩:aM)):=by
   rw[mU _ _ _ _ (by omega)];exact h.run.set (by omega) (by omega) (fun _=>hkv) (Or.inr (by omega)) (Or.inl (by omega))
  have h1:=h.push b _ (vs':=vs) (lg':=lg) (f':=[f0,f1,f2,f3,f4,f5,f6,f7]) ⟨by show(0:Int)≤3∧(3:Int)≤5;omega,by show -1≤9+2*(lg.length:Int)∧9+2*(lg.length:Int)<49;omega⟩ r1 (by have:=h.Ap;omega) h.Bp h.zL
  have r2:u5 t tl M lg.length sn (mw (cI M (o++[(⟨3,9+2*(lg.length:Int),k⟩:aM)])) (⟨3,9+2*(lg.length:Int)+1,eG vs k⟩:aM)):=by
   rw[mU _ _ _ _ (by omega)];exact h1.run.set (by omega) (by omega) (fun _=>hrv) (Or.inr (by omega)) (Or.inl (by omega))
  have h2:=h1.push b _ (vs':=vs) (lg':=lg) (f':=[f0,f1,f2,f3,f4,f5,f6,f7]) ⟨by show(0:Int)≤3∧(3:Int)≤5;omega,by show -1≤9+2*(lg.length:Int)+1∧9+2*(lg.length:Int)+1<49;omega⟩ r2 (by have:=h.Ap;omega) h.Bp h.zL
  have hp:jc (cI M ((o++[(⟨3,9+2*(lg.length:Int),k⟩:aM)])++[(⟨3,9+2*(lg.length:Int)+1,eG vs k⟩:aM)])) lg.length=true:=by
   have l0:=h.run.len;rw[lq,iM,iM,mU _ _ _ _ (by omega),mU _ _ _ _ (by omega)];have l1:(List.set (cI M o) (9+2*(lg.length:Int)).toNat k).length=49:=by rw[List.length_set];exact l0
   rw[fJ (by omega),fJ (by omega),fJ (by omega),if_neg (by omega),if_pos (by omega),if_pos (by omega),hrv];rw[(ca (x:=k)).mpr hk];rfl
  have r3:u5 t tl M (lg++[k]).length sn (mw (cI M ((o++[(⟨3,9+2*(lg.length:Int),k⟩:aM)])++[(⟨3,9+2*(lg.length:Int)+1,eG vs k⟩:aM)])) (⟨3,8,pack t ((lg++[k]).length:Int) tl⟩:aM)):=by
   rw[mU _ _ _ _ (by omega),List.length_append,List.length_singleton];exact h2.run.Dp (by omega) hp
  have h3:=h2.push b _ (vs':=vs) (lg':=lg++[k]) (f':=([f0,f1,f2,f3,f4,f5,f6,f7]:List Bool).set k.toNat true) ⟨by show(0:Int)≤3∧(3:Int)≤5;omega,by show(-1:Int)≤8∧(8:Int)<49;omega⟩ r3 (by have:=h.Ap;omega) (by rw[List.length_append,List.length_singleton];omega) h.zL;obtain⟨g0,g1,g2,g3,g4,g5,g6,g7,eg,e7,t7⟩:=rX k v _ u t tl sn (lg++[k]) f0 f1 f2 f3 f4 f5 f6 f7 vs b (by omega) h3 hk hv;refine⟨_,lg++[k],g0,g1,g2,g3,g4,g5,g6,g7,?_,t7,?_,hS.1,fun j hj hjm=> ?_⟩
  ·rw[eI,aF];simp only[aL.tree,Tr.aj,Tr.an,Tr.bE,Tr.ak,aZ.told,bo.told,iO,w1,w2,w3,hw1,hw2,hw3,ai,n1,and_self,gp lg _ 1048576 (by omega) (by omega) 8 (by omega),↓reduceIte];exact e7
  ·simp only[bI.f,bI.begin,Tr.aj,Tr.ag,Tr.an,Tr.bE,Tr.ak,cw.told,e1,e2,ai,Bool.not_false,↓reduceIte,bR.told,bu.told,iP,w1,w2,w3,w4,hx1,hx2,hx3,n1,and_self,gp lg _ 1048576 (by omega) (by omega) 8 (by omega)];exact hx6
  ·rw[eg,List.getElem?_set,iW]
   by_cases q:k.toNat=j
   ·rw[if_pos q,if_pos hb8];exact⟨fun _=>Or.inr (by omega),fun _=>rfl⟩
   ·rw[if_neg q,hS.2 j hj hjm];exact⟨Or.inl,fun h=>h.elim id fun h=>by omega⟩
 ·rw[if_neg hc]at eI;have h':TI n t tl M B o u sn lg (([f0,f1,f2,f3,f4,f5,f6,f7]:List Bool).set k.toNat true) vs:={h with Bp:=Nat.le_trans h.Bp (wB _ _)};obtain⟨g0,g1,g2,g3,g4,g5,g6,g7,eg,e7,t7⟩:=rX k v _ u t tl sn lg f0 f1 f2 f3 f4 f5 f6 f7 vs b (by omega) h' hk hv;have hx6:=nL k v vs se u [] rd at_ true o ms lg t tl hk hvl (by omega);refine⟨_,lg,g0,g1,g2,g3,g4,g5,g6,g7,eI.trans e7,t7.mono (by omega),?_,hS.1,fun j hj hjm=> ?_⟩
  ·by_cases hms':k∈ms
   ·have hmi:=(hS.1 k).mpr hms';have hl:k∈lg:=(hk8 hmi).mp ((pD hb8).elim id fun hfalse=>absurd ⟨hmi,hfalse⟩ hc);rw[decide_eq_true hms']at e1;rw[decide_eq_true hl]at e2;simp only[bI.f,bI.begin,Tr.aj,Tr.ag,Tr.ak,cw.told,e1,e2,ai,Bool.not_true,Bool.false_eq_true,↓reduceIte];exact hx6
   ·rw[decide_eq_false hms']at e1;simp only[bI.f,bI.begin,Tr.aj,Tr.ag,Tr.ak,cw.told,e1,ai,Bool.false_eq_true,↓reduceIte];exact hx6
  ·rw[eg,List.getElem?_set]
   by_cases q:k.toNat=j
   ·rw[if_pos q,if_pos hb8];subst q;rw[show((k.toNat:Nat):Int)=k by omega]at hjm⊢;exact⟨fun _=>(hk8 hjm).mp ((pD hb8).elim id fun hfalse=>absurd ⟨hjm,hfalse⟩ hc),fun _=>rfl⟩
   ·rw[if_neg q,hS.2 j hj hjm]
theorem vV (s:aq) (h:wx s=true):∃c,eu.f s.f0 s.f1 s.f2 s.f3.f0 s.f3.f1 s.f3.f2=some c∧eT.f s.f0 s.f1 s.f2 s.f3.f0 s.f3.f1 s.f3.f2=some c∧0≤c∧c≤5:=by
 obtain⟨⟨h1,h2⟩,_⟩:=uN h;have n1:(0:Int)≤s.f0∧s.f0<((([0,2,5,4,1,1,0]:List Int).length:Nat):Int):=⟨by omega,by simp;omega⟩;have hs:nm s.f0 s.f1 s.f2 s.f3.f0 s.f3.f1 s.f3.f2=true:=h;simp only[eu.f,eu.begin,Tr.aj,Tr.ag,Tr.an,Tr.al,dx.told,oU,hs,ai,Bool.not_true,Bool.false_eq_true,↓reduceIte,n1,and_self];refine⟨_,rfl,?_⟩;simp only[eT.f,eT.begin,Tr.ag,Tr.al];rcases(show s.f0=1∨s.f0=2∨s.f0=3∨s.f0=4∨s.f0=5∨s.f0=6 by omega)with e | e | e | e | e | e<;>(rw[e];exact⟨rfl,by decide⟩)
theorem sC (rd:List Int) (s n:Int):∃v,bO.f rd s n=some v∧bD.f rd s n=some v∧isVal v=true:=by
 by_cases h0:(rd.length:Int)=0
 ·simp only[bO.f,bO.begin,bD.f,bD.begin,Tr.ag,Tr.al,decide_eq_true h0,↓reduceIte];exact⟨0,rfl,rfl,rfl⟩
 ·cases hs:gv s 0 3 with
  | false=>
    simp only[bO.f,bO.begin,bD.f,bD.begin,Tr.ag,Tr.aj,Tr.al,decide_eq_false h0,bS.told,bS.f,bS.begin,aK.told,dd,aH.told,du,hs,ai,Bool.not_false,Bool.false_eq_true,↓reduceIte];exact⟨0,rfl,rfl,rfl⟩
  | true=>
    by_cases hn:n<0
    ·simp only[bO.f,bO.begin,bD.f,bD.begin,Tr.ag,Tr.aj,Tr.al,decide_eq_false h0,decide_eq_true hn,bS.told,bS.f,bS.begin,aK.told,dd,aH.told,du,hs,ai,Bool.not_true,Bool.false_eq_true,↓reduceIte];exact⟨0,rfl,rfl,rfl⟩
    ·have h1:(0:Int)≤Int.tmod n (rd.length:Int)∧Int.tmod n (rd.length:Int)<(rd.length:Int):=by
      rw[Int.tmod_eq_emod_of_nonneg (by omega)];exact⟨Int.emod_nonneg _ h0,Int.emod_lt_of_pos _ (by omega)⟩
     simp only[bO.f,bO.begin,bD.f,bD.begin,Tr.ag,Tr.aj,Tr.an,Tr.al,decide_eq_false h0,decide_eq_false hn,bS.told,bS.f,bS.begin,aK.told,dd,aH.told,du,hs,ai,Bool.not_true,Bool.false_eq_true,↓reduceIte,ne_eq,h0,not_false_eq_true,h1,and_self,cY.told,mn,cZ.told,me];exact⟨_,rfl,rfl,AD _⟩
theorem pe (s:Int) (vs se u li rd:List Int) (at_:Int) (o:List aM) (ms lg:List Int) (t tl:Int) (hu:u.length≤1000000) {v:Int} (ev:bD.f rd s (wr (at_+(u.length:Int)))=some v):
 dX.f s vs se u li rd at_ true o ms lg t tl=some (v,vs,se,u++[v],li,rd,at_,true,o,ms,lg,t,tl):=by
 simp only[dX.f,dX.begin,Tr.ag,Tr.bE,Tr.aj,Tr.ak,↓reduceIte,bD.told,ev,ai];rw[aF];simp only[dX.tree,Tr.an,Tr.al,gp u v 1048576 (by omega) (by omega) 8 (by omega),↓reduceIte]
theorem oC {vs:List Int} (o a b:Int) (hv:zi vs=true) (hx:pA o a b=true):∃v,cj.f vs o a b=some v∧cn.f vs o a b=some v∧isVal v=true:=by
 obtain⟨_,ha,hb⟩:=ud hx;have hl:=(mF.mp hv).2;refine⟨Cc vs o a b,?_,uS vs o a b hl ha.1 hb.1,BD hv hx⟩;rw[sj vs o a b (by omega),if_pos hv,if_pos hx]
theorem xI {s:aq} (h:wx s=true) (hv:s.f0=1∨s.f0=3∨s.f0=4):pA s.f3.f0 s.f3.f1 s.f3.f2=true:=by
 unfold wx nm at h;rcases hv with e | e | e
 ·rw[if_pos e]at h;simp only[Bool.and_eq_true]at h;exact h.2.2
 ·rw[if_neg (by omega),if_neg (by omega),if_pos (Or.inl e)]at h;simp only[Bool.and_eq_true]at h;exact h.2.2
 ·rw[if_neg (by omega),if_neg (by omega),if_pos (Or.inr e)]at h;simp only[Bool.and_eq_true]at h;exact h.2.2
set_option maxHeartbeats 8000000 in
theorem Ah {n:Nat} {M:List Int} {B:Nat} (sS:Self ar.I ar.A ar.K) (L:List aq) (i e:Nat) (hi:i<L.length) (hie:i<e) (hLl:L.length≤1048576) (mi ms rd:List Int) (at_:Int) (o:List aM) (u:List Int) (t tl sn:Int) (lg:List Int) (f0 f1 f2 f3 f4 f5 f6 f7:Bool) (vs se:List Int) (b:ns n t tl M) (hB:B≤700000) (h:TI n t tl M B o u sn lg [f0,f1,f2,f3,f4,f5,f6,f7] vs) (hx:wx L[i]=true) (h6:L[i].f0≠6) (hop:¬(L[i].f0=4∨L[i].f0=5)) (hm:mi.length≤1048576) (hms:ms.length≤1048576) (hS:Sy mi ms lg [f0,f1,f2,f3,f4,f5,f6,f7]) (hse:(se.length:Int)=sn):
 ∃r o' u' sn' lg' g0 g1 g2 g3 g4 g5 g6 g7 vs' se',br.f L[i].f0 L[i].f1 L[i].f2 L[i].f3.f0 L[i].f3.f1 L[i].f3.f2 mi rd at_ o u t tl sn lg f0 f1 f2 f3 f4 f5 f6 f7 vs=some (r,mi,rd,at_,o',u',t,tl,sn',lg',g0,g1,g2,g3,g4,g5,g6,g7,vs')∧TI n t tl M (B+6) o' u' sn' lg' [g0,g1,g2,g3,g4,g5,g6,g7] vs'∧
  lp (ar.tree sS) (.c1 L (e:Int) (i:Int) vs se u [] rd at_ true o ms lg t tl)=lp (ar.tree sS) (.c1 L (e:Int) ((i+1:Nat):Int) vs' se' u' [] rd at_ true o' ms lg' t tl)∧Sy mi ms lg' [g0,g1,g2,g3,g4,g5,g6,g7]∧(se'.length:Int)=sn':=by
 have hr:ah L (i:Int)=L[i]:=aX hi;generalize L[i]=x at hx h6 hop hr;obtain⟨c,ec,es,c0,c5⟩:=vV x hx;obtain⟨⟨k1,k6⟩,_⟩:=uN hx;have hvar:=pP hx;have hexp:=xI hx;have ho:=h.ma;have hul:=h.tq;have ew:=jG c o u t tl sn lg f0 f1 f2 f3 f4 f5 f6 f7 vs (by omega);have eW:=kX c vs se u [] rd at_ true o ms lg t tl (by omega);have hW:=h.work b ⟨c0,c5⟩;have qi:decide ((i:Int)<(e:Int))=true:=decide_eq_true (by omega);have wi:wr ((i:Int)+1)=((i+1:Nat):Int):=aN (by omega)
 have c2:∀(vs se u:List Int) (o:List aM) (lg:List Int),lp (ar.tree sS) (.c2 L (e:Int) (i:Int) vs se u [] rd at_ true o ms lg t tl)=lp (ar.tree sS) (.c1 L (e:Int) ((i+1:Nat):Int) vs se u [] rd at_ true o ms lg t tl):=fun vs se u o lg=>by
  rw[aF];simp only[ar.tree,Tr.ak,wi]
 have h1:lp (ar.tree sS) (.c1 L (e:Int) (i:Int) vs se u [] rd at_ true o ms lg t tl)=lp (ar.tree sS) (.c6 L (e:Int) (i:Int) x.f0 x.f1 x.f2 x.f3.f0 x.f3.f1 x.f3.f2 vs se u [] rd at_ true (o++[(⟨c,-1,0⟩:aM)]) ms lg t tl):=by
  rw[aF];simp only[ar.tree,Tr.ag,Tr.an,Tr.aj,Tr.ak,qi,bB hi,hr,and_self,↓reduceIte,decide_eq_false h6,Bool.not_false,eT.told,es,ai,dV.told,eW]
 simp only[br.f,br.begin,Tr.bE,Tr.aj,Tr.ag,eu.told,ec,ai,b7.told,ew];have q4:¬x.f0=4:=by omega
 by_cases q1:x.f0=1
 ·obtain⟨v,ev,esv,hv⟩:=oC x.f3.f0 x.f3.f1 x.f3.f2 h.zL (hexp (Or.inl q1));obtain⟨o',lg',g0,g1,g2,g3,g4,g5,g6,g7,ea,ta,esa,hS'⟩:=sh mi ms x.f1 v _ u t tl sn lg f0 f1 f2 f3 f4 f5 f6 f7 vs se rd at_ b (by omega) hW (hvar (Or.inl q1)) hv hm hms hS;simp only[decide_eq_true q1,↓reduceIte,cj.told,ev,ai,aL.told,ea,Tr.ak];refine⟨true,o',u,sn,lg',g0,g1,g2,g3,g4,g5,g6,g7,vs.set x.f1.toNat v,se,?_,ta.mono (by omega),?_,hS',hse⟩
  ·rw[aF];simp only[br.tree,Tr.al]
  ·rw[←c2,h1,aF];simp only[ar.tree,Tr.ag,Tr.aj,Tr.bE,Tr.ak,↓reduceIte,ai,decide_eq_true q1,cn.told,esv,bI.told,esa]
 by_cases q2:x.f0=2
 ·obtain⟨v,ev,esv,hv⟩:=sC rd x.f2 (wr (at_+(u.length:Int)));obtain⟨o',lg',g0,g1,g2,g3,g4,g5,g6,g7,ea,ta,esa,hS'⟩:=sh mi ms x.f1 v _ (u++[v]) t tl sn lg f0 f1 f2 f3 f4 f5 f6 f7 vs se rd at_ b (by omega) (hW.CG hv) (hvar (Or.inr q2)) hv hm hms hS;simp only[decide_eq_false q1,decide_eq_true q2,Bool.false_eq_true,↓reduceIte,bO.told,ev,ai,Tr.iu,Tr.bE,Tr.an,fy,gp u v 1048576 (by have:=h.tq;omega) (by omega) 8 (by omega),Tr.ak];refine⟨true,o',u++[v],sn,lg',g0,g1,g2,g3,g4,g5,g6,g7,vs.set x.f1.toNat v,se,?_,ta.mono (by omega),?_,hS',hse⟩
  ·rw[aF];simp only[br.tree,Tr.aj,aL.told,ea,ai,Tr.ak];rw[aF];simp only[br.tree,Tr.al]
  ·rw[←c2,h1,aF];simp only[ar.tree,Tr.ag,Tr.an,Tr.aj,Tr.bE,Tr.iu,fy,Tr.ak,↓reduceIte,Bool.false_eq_true,ai,decide_eq_false q1,decide_eq_true q2,dX.told,pe x.f2 vs se u [] rd at_ (o++[(⟨c,-1,0⟩:aM)]) ms lg t tl (by omega) esv,bI.told,esa]
 have q3:x.f0=3:=by omega
 obtain⟨v,ev,esv,hv⟩:=oC x.f3.f0 x.f3.f1 x.f3.f2 h.zL (hexp (Or.inr (Or.inl q3)));simp only[decide_eq_false q1,decide_eq_false q2,decide_eq_true q3,Bool.false_eq_true,↓reduceIte,cj.told,ev,ai,Tr.bE,Tr.aj];have hs0:=h.run.s0;have hsB:=h.Ap;have htl:=b.C0;have w1:wr (tl+sn)=tl+sn:=b6 (by omega);have w2:wr (sn+1)=sn+1:=b6 (by omega);have hse':((se++[v]).length:Int)=sn+1:=by rw[List.length_append,List.length_singleton];omega
 have fit:=gp se v 1048576 (by omega) (by omega) 8 (by omega);rw[hse]at fit
 by_cases q:tl+sn<24
 ·have w3:wr (25+(tl+sn))=25+(tl+sn):=b6 (by omega);have hw:=gA (25+(tl+sn)) v (o++[(⟨c,-1,0⟩:aM)]) u t tl sn lg f0 f1 f2 f3 f4 f5 f6 f7 vs (by rw[List.length_append,List.length_singleton];omega);have hx:=iq (25+(tl+sn)) v vs (se++[v]) u [] rd at_ true (o++[(⟨c,-1,0⟩:aM)]) ms lg t tl (by rw[List.length_append,List.length_singleton];omega);refine⟨true,_,u,sn+1,lg,f0,f1,f2,f3,f4,f5,f6,f7,vs,se++[v],?_,(hW.push b (⟨3,25+(tl+sn),v⟩:aM) (sn':=sn+1) (lg':=lg) (f':=[f0,f1,f2,f3,f4,f5,f6,f7]) (vs':=vs) ⟨by show(0:Int)≤3∧(3:Int)≤5;omega,by show -1≤25+(tl+sn)∧25+(tl+sn)<49;omega⟩ ?_ (by omega) h.Bp h.zL).mono (by omega),?_,hS,hse'⟩
  ·simp only[cr.told,cr.f,cr.begin,Tr.ag,Tr.aj,Tr.al,w1,w2,w3,decide_eq_true q,aZ.told,hw,ai,↓reduceIte,Tr.ak];rw[aF];simp only[br.tree,Tr.al]
  ·rw[mU _ _ _ _ (by omega)];have:=hW.run.box (j:=(tl+sn).toNat) htl.1 (by omega) (by omega) hv;rw[show 25+(tl+sn).toNat=(25+(tl+sn)).toNat by omega]at this;exact this
  ·rw[←c2,h1,aF];simp only[ar.tree,Tr.ag,Tr.an,Tr.aj,Tr.bE,Tr.ak,↓reduceIte,Bool.false_eq_true,ai,decide_eq_false q1,decide_eq_false q2,decide_eq_true q3,cn.told,esv,fit,hse,w1,w3,decide_eq_true q,bR.told,hx]
 ·refine⟨true,o++[(⟨c,-1,0⟩:aM)],u,sn+1,lg,f0,f1,f2,f3,f4,f5,f6,f7,vs,se++[v],?_,{hW.mono (show B+1≤B+6 by omega)with run:=hW.run.Dn (by omega),Ap:=by omega},?_,hS,hse'⟩
  ·simp only[cr.told,cr.f,cr.begin,Tr.ag,Tr.al,w1,w2,decide_eq_false q,Bool.false_eq_true,↓reduceIte,ai,Tr.ak];rw[aF];simp only[br.tree,Tr.al]
  ·rw[←c2,h1,aF];simp only[ar.tree,Tr.ag,Tr.an,Tr.aj,Tr.bE,Tr.ak,↓reduceIte,Bool.false_eq_true,ai,decide_eq_false q1,decide_eq_false q2,decide_eq_true q3,cn.told,esv,fit,hse,w1,decide_eq_false q]
set_option maxHeartbeats 8000000 in
theorem Ay {n:Nat} {M:List Int} {B:Nat} (sS:Self ar.I ar.A ar.K) (L:List aq) (i e z:Nat) (hi:i<L.length) (hie:i<e) (hLl:L.length≤1048576) (hz:cd.f L (i:Int)=some (z:Int)) (mi ms rd:List Int) (at_:Int) (o:List aM) (u:List Int) (t tl sn:Int) (lg:List Int) (f0 f1 f2 f3 f4 f5 f6 f7:Bool) (vs se:List Int) (b:ns n t tl M) (hB:B≤700000) (h:TI n t tl M B o u sn lg [f0,f1,f2,f3,f4,f5,f6,f7] vs) (hx:wx L[i]=true) (hop:L[i].f0=4∨L[i].f0=5):
 ∃r o' times,br.f L[i].f0 L[i].f1 L[i].f2 L[i].f3.f0 L[i].f3.f1 L[i].f3.f2 mi rd at_ o u t tl sn lg f0 f1 f2 f3 f4 f5 f6 f7 vs=some (r,mi,rd,at_,o',u,t,tl,sn,lg,f0,f1,f2,f3,f4,f5,f6,f7,vs)∧TI n t tl M (B+6) o' u sn lg [f0,f1,f2,f3,f4,f5,f6,f7] vs∧
  (if L[i].f0=4 then gQ.f r else some L[i].f2)=some ((times:Nat):Int)∧times≤5∧
  lp (ar.tree sS) (.c1 L (e:Int) (i:Int) vs se u [] rd at_ true o ms lg t tl)=lp (ar.tree sS) (.BZ L (e:Int) (i:Int) (z:Int) (times:Int) 0 vs se u [] rd at_ true o' ms lg t tl):=by
 have hr:ah L (i:Int)=L[i]:=aX hi;generalize L[i]=x at hx hop hr;obtain⟨c,ec,es,c0,c5⟩:=vV x hx;obtain⟨⟨k1,k6⟩,k5⟩:=uN hx;have hexp:=xI hx;have ho:=h.ma;have ew:=jG c o u t tl sn lg f0 f1 f2 f3 f4 f5 f6 f7 vs (by omega);have eW:=kX c vs se u [] rd at_ true o ms lg t tl (by omega);have hW:=h.work b ⟨c0,c5⟩;have qi:decide ((i:Int)<(e:Int))=true:=decide_eq_true (by omega);have h6:¬x.f0=6:=by omega
 have h1:lp (ar.tree sS) (.c1 L (e:Int) (i:Int) vs se u [] rd at_ true o ms lg t tl)=lp (ar.tree sS) (.c6 L (e:Int) (i:Int) x.f0 x.f1 x.f2 x.f3.f0 x.f3.f1 x.f3.f2 vs se u [] rd at_ true (o++[(⟨c,-1,0⟩:aM)]) ms lg t tl):=by
  rw[aF];simp only[ar.tree,Tr.ag,Tr.an,Tr.aj,Tr.ak,qi,bB hi,hr,and_self,↓reduceIte,decide_eq_false h6,Bool.not_false,eT.told,es,ai,dV.told,eW]
 have q1:¬x.f0=1:=by omega
 have q2:¬x.f0=2:=by omega
 have q3:¬x.f0=3:=by omega
 simp only[br.f,br.begin,Tr.bE,Tr.aj,Tr.ag,eu.told,ec,ai,b7.told,ew,decide_eq_false q1,decide_eq_false q2,decide_eq_false q3,Bool.false_eq_true,↓reduceIte]
 by_cases q4:x.f0=4
 ·obtain⟨v,ev,esv,hv⟩:=oC x.f3.f0 x.f3.f1 x.f3.f2 h.zL (hexp (Or.inr (Or.inr q4)))
  have hbt:∃times:Nat,AE (!decide (v=0))=(times:Int)∧times≤5:=by
   cases(!decide (v=0))
   ·exact⟨0,rfl,by omega⟩
   ·exact⟨1,rfl,by omega⟩
  obtain⟨times,ht,ht5⟩:=hbt;refine⟨!decide (v=0),_,times,?_,hW.mono (by omega),?_,ht5,?_⟩
  ·simp only[decide_eq_true q4,↓reduceIte,cj.told,ev,ai,Tr.al,Tr.bE,Tr.aj]
  ·rw[if_pos q4,uR,ht]
  ·rw[h1,aF];simp only[ar.tree,Tr.ag,Tr.aj,Tr.bE,Tr.ak,↓reduceIte,Bool.false_eq_true,ai,decide_eq_false q1,decide_eq_false q2,decide_eq_false q3,decide_eq_true q4,cd.told,hz,cn.told,esv,fA.told,oP,ht]
 ·have q5:x.f0=5:=by omega
  have hN:=k5 q5;refine⟨true,_,x.f2.toNat,?_,hW.mono (by omega),?_,by omega,?_⟩
  ·simp only[decide_eq_false q4,Bool.false_eq_true,↓reduceIte,Tr.ak,Tr.bE];rw[aF];simp only[br.tree,Tr.al]
  ·rw[if_neg q4,show((x.f2.toNat:Nat):Int)=x.f2 by omega]
  ·rw[h1,aF];simp only[ar.tree,Tr.ag,Tr.aj,Tr.bE,Tr.ak,↓reduceIte,Bool.false_eq_true,ai,decide_eq_false q1,decide_eq_false q2,decide_eq_false q3,decide_eq_false q4,decide_eq_true q5,cd.told,hz,show((x.f2.toNat:Nat):Int)=x.f2 by omega]
def Bh (n:Nat) (M:List Int) (t tl:Int) (sI:Self bU.I bU.A bU.K) (sS:Self ar.I ar.A ar.K) (k:Nat):Prop:=
 ∀(L:List aq) (i0 e0:Nat) (l:List aq) (mi ms rd:List Int) (at_:Int) (o:List aM) (u:List Int) (sn:Int) (lg:List Int) (f0 f1 f2 f3 f4 f5 f6 f7:Bool) (vs se:List Int) (B:Nat),L.length≤1048576→L.drop i0=l++L.drop e0→i0+l.length=e0→e0≤L.length→lk (k:Int) l 0→mi.length≤1048576→ms.length≤1048576→B+W5 k*l.length≤600000→TI n t tl M B o u sn lg [f0,f1,f2,f3,f4,f5,f6,f7] vs→Sy mi ms lg [f0,f1,f2,f3,f4,f5,f6,f7]→(se.length:Int)=sn→
  ∃o' u' sn' lg' g0 g1 g2 g3 g4 g5 g6 g7 vs' se',sI.f (l,mi,rd,at_,o,u,t,tl,sn,lg,f0,f1,f2,f3,f4,f5,f6,f7,vs)=some (mi,rd,at_,o',u',t,tl,sn',lg',g0,g1,g2,g3,g4,g5,g6,g7,vs')∧TI n t tl M (B+W5 k*l.length) o' u' sn' lg' [g0,g1,g2,g3,g4,g5,g6,g7] vs'∧
   sS.f (L,(i0:Int),(e0:Int),vs,se,u,[],rd,at_,true,o,ms,lg,t,tl)=some (vs',se',u',[],rd,at_,true,o',ms,lg',t,tl)∧Sy mi ms lg' [g0,g1,g2,g3,g4,g5,g6,g7]∧(se'.length:Int)=sn'
set_option maxHeartbeats 4000000 in
theorem yp {n:Nat} {M:List Int} {t tl:Int} (sI:Self bU.I bU.A bU.K) (sS:Self ar.I ar.A ar.K) (k:Nat) (hs:Bh n M t tl sI sS k) (L:List aq) (i0 e0:Nat) (l:List aq) (hLl:L.length≤1048576) (hd:L.drop i0=l++L.drop e0) (hle:i0+l.length=e0) (he0:e0≤L.length) (mi ms rd:List Int) (at_:Int) (i e times:Nat) (hie:i<e) (hel:e<l.length) (hF:lk (k:Int) ((l.take e).drop (i+1)) 0) (hm:mi.length≤1048576) (hms:ms.length≤1048576) (ht:times≤5):
 ∀(m j:Nat),j+m=times→∀(o:List aM) (u:List Int) (sn:Int) (lg:List Int) (f0 f1 f2 f3 f4 f5 f6 f7:Bool) (vs se:List Int) (B:Nat),TI n t tl M B o u sn lg [f0,f1,f2,f3,f4,f5,f6,f7] vs→Sy mi ms lg [f0,f1,f2,f3,f4,f5,f6,f7]→(se.length:Int)=sn→B+m*(W5 k*((l.take e).drop (i+1)).length)≤600000→
 ∃o' u' sn' lg' g0 g1 g2 g3 g4 g5 g6 g7 vs' se',lp (bU.tree sI) (.rY l (i:Int) (e:Int) (times:Int) (j:Int) mi rd at_ o u t tl sn lg f0 f1 f2 f3 f4 f5 f6 f7 vs)=lp (bU.tree sI) (.c1 l ((e+1:Nat):Int) mi rd at_ o' u' t tl sn' lg' g0 g1 g2 g3 g4 g5 g6 g7 vs')∧TI n t tl M (B+m*(W5 k*((l.take e).drop (i+1)).length)) o' u' sn' lg' [g0,g1,g2,g3,g4,g5,g6,g7] vs'∧
  lp (ar.tree sS) (.BZ L (e0:Int) ((i0+i:Nat):Int) ((i0+e:Nat):Int) (times:Int) (j:Int) vs se u [] rd at_ true o ms lg t tl)=lp (ar.tree sS) (.c1 L (e0:Int) ((i0+e+1:Nat):Int) vs' se' u' [] rd at_ true o' ms lg' t tl)∧Sy mi ms lg' [g0,g1,g2,g3,g4,g5,g6,g7]∧(se'.length:Int)=sn':=by
 intro m;have hll:l.length≤1048576:=by omega
 have we:wr ((e:Int)+1)=((e+1:Nat):Int):=aN (by omega);have wi:wr ((i:Int)+1)=((i+1:Nat):Int):=aN (by omega);have we0:wr (((i0+e:Nat):Int)+1)=((i0+e+1:Nat):Int):=aN (by omega);have wi0:wr (((i0+i:Nat):Int)+1)=((i0+i+1:Nat):Int):=aN (by omega);have hn1:(0:Int)≤((i+1:Nat):Int)∧((i+1:Nat):Int)≤(e:Int)∧(e:Int)≤(l.length:Int):=by omega
 have hA:((l.take e).drop (i+1)).length=e-(i+1):=by rw[List.length_drop,List.length_take];omega
 have hdA:L.drop (i0+i+1)=(l.take e).drop (i+1)++L.drop (i0+e):=by
  have h1:L.drop (i0+e)=l.drop e++L.drop e0:=by rw[←List.drop_drop,hd,List.drop_append_of_le_length (by omega)]
  rw[h1,show i0+i+1=i0+(i+1) by omega,←List.drop_drop,hd,List.drop_append_of_le_length (by omega),←List.append_assoc];congr 1
  conv=>lhs;rw[←List.take_append_drop e l]
  rw[List.drop_append_of_le_length (by rw[List.length_take];omega)]
 induction m with
 | zero=>
   intro j hj o u sn lg f0 f1 f2 f3 f4 f5 f6 f7 vs se B hT hS hse hB;obtain rfl:j=times:=by omega
   refine⟨o,u,sn,lg,f0,f1,f2,f3,f4,f5,f6,f7,vs,se,?_,hT.mono (by omega),?_,hS,hse⟩
   ·rw[aF];simp only[bU.tree,Tr.ag,Tr.ak,cP,Bool.false_eq_true,↓reduceIte,we]
   ·rw[aF];simp only[ar.tree,Tr.ag,Tr.ak,cP,Bool.false_eq_true,↓reduceIte];rw[aF];simp only[ar.tree,Tr.ak,we0]
 | succ m ih=>
   intro j hj o u sn lg f0 f1 f2 f3 f4 f5 f6 f7 vs se B hT hS hse hB;rw[Nat.succ_mul]at hB;obtain⟨o',u',sn',lg',g0,g1,g2,g3,g4,g5,g6,g7,vs',se',e1,t1,s1,hS1,hse1⟩:=hs L (i0+i+1) (i0+e) ((l.take e).drop (i+1)) mi ms rd at_ o u sn lg f0 f1 f2 f3 f4 f5 f6 f7 vs se B hLl hdA (by rw[hA];omega) (by omega) hF hm hms (by omega) hT hS hse;obtain⟨o2,u2,sn2,lg2,y0,y1,y2,y3,y4,y5,y6,y7,vs2,se2,e2,t2,s2,hS2,hse2⟩:=ih (j+1) (by omega) o' u' sn' lg' g0 g1 g2 g3 g4 g5 g6 g7 vs' se' _ t1 hS1 hse1 (by omega);have q:j<times:=by omega
   refine⟨o2,u2,sn2,lg2,y0,y1,y2,y3,y4,y5,y6,y7,vs2,se2,?_,t2.mono (by rw[Nat.succ_mul];omega),?_,hS2,hse2⟩
   ·rw[aF];simp only[bU.tree,Tr.ag,Tr.an,Tr.aj,Tr.ak,bk q,↓reduceIte,wi,hn1,and_self,Int.toNat_natCast,Self.told,e1,ai,aN (show j<4611686018427387904 by omega)];exact e2
   ·rw[aF];simp only[ar.tree,Tr.ag,Tr.aj,Tr.ak,bk q,↓reduceIte,wi0,Self.told,s1,ai,aN (show j<4611686018427387904 by omega)];exact s2
set_option maxHeartbeats 4000000 in
theorem mC {n:Nat} {M:List Int} {t tl:Int} (b:ns n t tl M) (sI:Self bU.I bU.A bU.K) (sS:Self ar.I ar.A ar.K) (k:Nat) (hk:k≤6) (hs:∀k',k=k'+1→Bh n M t tl sI sS k'):Bh n M t tl (bU.step sI) (ar.step sS) k:=by
 intro L i0 e0 l mi ms rd at_ o u sn lg f0 f1 f2 f3 f4 f5 f6 f7 vs se B hLl hd hle he0 hF hm hms hB hT hS hse;have hl:l.length≤1048576:=by omega
 have hget:∀(i:Nat) (q:i<l.length) (q':i0+i<L.length),L[i0+i]=l[i]:=fun i q q'=>by
  have:(L.drop i0)[i]? =some l[i]:=by rw[hd,List.getElem?_append_left q,List.getElem?_eq_getElem q]
  rw[List.getElem?_drop,List.getElem?_eq_getElem q']at this;exact Option.some.inj this
 have key:∀(r i:Nat),i+r=l.length→lk (k:Int) l i→∀(o:List aM) (u:List Int) (sn:Int) (lg:List Int) (f0 f1 f2 f3 f4 f5 f6 f7:Bool) (vs se:List Int) (B':Nat),TI n t tl M B' o u sn lg [f0,f1,f2,f3,f4,f5,f6,f7] vs→Sy mi ms lg [f0,f1,f2,f3,f4,f5,f6,f7]→(se.length:Int)=sn→B'+W5 k*r≤600000→
  ∃o' u' sn' lg' g0 g1 g2 g3 g4 g5 g6 g7 vs' se',lp (bU.tree sI) (.c1 l (i:Int) mi rd at_ o u t tl sn lg f0 f1 f2 f3 f4 f5 f6 f7 vs)=some (mi,rd,at_,o',u',t,tl,sn',lg',g0,g1,g2,g3,g4,g5,g6,g7,vs')∧TI n t tl M (B'+W5 k*r) o' u' sn' lg' [g0,g1,g2,g3,g4,g5,g6,g7] vs'∧
   lp (ar.tree sS) (.c1 L (e0:Int) ((i0+i:Nat):Int) vs se u [] rd at_ true o ms lg t tl)=some (vs',se',u',[],rd,at_,true,o',ms,lg',t,tl)∧Sy mi ms lg' [g0,g1,g2,g3,g4,g5,g6,g7]∧(se'.length:Int)=sn':=by
  intro r
  induction r using Nat.strongRecOn with
  | _ r ih=>
    intro i hi hF o u sn lg f0 f1 f2 f3 f4 f5 f6 f7 vs se B' hT hS hse hB'
    by_cases q:i<l.length
    ·obtain⟨hok,hF'⟩:=hF.next q;have qL:i0+i<L.length:=by omega
     have hgL:=hget i q qL;have w:wr ((i:Int)+1)=((i+1:Nat):Int):=aN (by omega);have w0:wr (((i0+i:Nat):Int)+1)=((i0+(i+1):Nat):Int):=aN (by omega);have hW:=Cj k;obtain⟨r',rfl⟩:∃r',r=r'+1:=⟨r-1,by omega⟩;have hr':W5 k*(r'+1)=W5 k*r'+W5 k:=Nat.mul_succ _ _
     by_cases h6:l[i].f0=6
     ·obtain⟨o2,u2,sn2,lg2,y0,y1,y2,y3,y4,y5,y6,y7,vs2,se2,e2,t2,s2,hS2,hse2⟩:=ih r' (by omega) (i+1) (by omega) hF' o u sn lg f0 f1 f2 f3 f4 f5 f6 f7 vs se B' hT hS hse (by omega);refine⟨o2,u2,sn2,lg2,y0,y1,y2,y3,y4,y5,y6,y7,vs2,se2,?_,t2.mono (by omega),?_,hS2,hse2⟩
      ·rw[aF];simp only[bU.tree,Tr.ag,Tr.an,Tr.ak,bk q,bB q,aX q,and_self,decide_eq_true h6,decide_true,↓reduceIte,w];exact e2
      ·have hrL:ah L ((i0+i:Nat):Int)=l[i]:=(aX qL).trans hgL;have qi:decide (((i0+i:Nat):Int)<(e0:Int))=true:=decide_eq_true (by omega);have n1:¬l[i].f0=1:=by omega
       have n2:¬l[i].f0=2:=by omega
       have n3:¬l[i].f0=3:=by omega
       have n4:¬l[i].f0=4:=by omega
       have n5:¬l[i].f0=5:=by omega
       rw[aF];simp only[ar.tree,Tr.ag,Tr.an,Tr.ak,qi,bB qL,hrL,and_self,↓reduceIte,decide_eq_true h6,Bool.not_true,Bool.false_eq_true];rw[aF];simp only[ar.tree,Tr.ag,Tr.ak,↓reduceIte,Bool.false_eq_true,decide_eq_false n1,decide_eq_false n2,decide_eq_false n3,decide_eq_false n4,decide_eq_false n5];rw[aF];simp only[ar.tree,Tr.ak,w0];exact s2
     ·by_cases hop:l[i].f0=4∨l[i].f0=5
      ·obtain⟨a,s,rr,ed,e6,k1,hbal,p1,p2,p3,hia,hdr,hFe⟩:=hF.zO q (by omega) hop;have hE:Ends l i (i+1+a.length):=⟨l[i],a,s,rr,ed,hop,e6,p1,p2,rfl⟩;have hEL:Ends L (i0+i) (i0+(i+1+a.length)):=⟨l[i],a,s,rr++L.drop e0,by rw[←List.drop_drop,hd,List.drop_append_of_le_length (by omega),ed];simp,hop,e6,p1,p2,by omega⟩;have hend:=hE.yF hl;have hz:=hEL.xr hLl;obtain⟨k',rfl⟩:∃k',k=k'+1:=⟨k-1,by omega⟩;rw[show((k'+1:Nat):Int)-1=(k':Int) by omega]at hbal;generalize he:i+1+a.length=e at hend hz p3 hia hdr hFe;have hFi:lk (k':Int) ((l.take e).drop (i+1)) 0:=by rw[hia];exact⟨0,by omega,hbal.1,hbal.2⟩
       obtain⟨rb,o1,times,e1,t1,htm,ht5,s1⟩:=Ay (B:=B') sS L (i0+i) e0 (i0+e) qL (by omega) hLl hz mi ms rd at_ o u t tl sn lg f0 f1 f2 f3 f4 f5 f6 f7 vs se b (by omega) hT (by rw[hgL];exact hok) (by rw[hgL];exact hop);rw[hgL]at e1 htm;have hAl:((l.take e).drop (i+1)).length=a.length:=by rw[hia]
       have hmul:times*(W5 k'*a.length)≤W5 (k'+1)*a.length:=by
        rw[BP,Nat.mul_assoc];exact Nat.mul_le_mul_right _ ht5
       have hsplit:W5 (k'+1)*(r'+1)=W5 (k'+1)*a.length+W5 (k'+1)*2+W5 (k'+1)*(l.length-(e+1)):=by
        rw[←Nat.mul_add,←Nat.mul_add];congr 1;omega
       obtain⟨o2,u2,sn2,lg2,y0,y1,y2,y3,y4,y5,y6,y7,vs2,se2,e2,t2,s2,hS2,hse2⟩:=yp sI sS k' (hs k' rfl) L i0 e0 l hLl hd hle he0 mi ms rd at_ i e times (by omega) p3 hFi hm hms ht5 times 0 (by omega) o1 u sn lg f0 f1 f2 f3 f4 f5 f6 f7 vs se _ t1 hS hse (by rw[hAl];omega);rw[hAl]at t2;obtain⟨o3,u3,sn3,lg3,p0,p1,p2,p3,p4,p5,p6,p7,vs3,se3,e3,t3,s3,hS3,hse3⟩:=ih (l.length-(e+1)) (by omega) (e+1) (by omega) hFe o2 u2 sn2 lg2 y0 y1 y2 y3 y4 y5 y6 y7 vs2 se2 _ t2 hS2 hse2 (by omega);refine⟨o3,u3,sn3,lg3,p0,p1,p2,p3,p4,p5,p6,p7,vs3,se3,?_,t3.mono (by omega),s1.trans (s2.trans s3),hS3,hse3⟩;rw[aF]
       by_cases h4:l[i].f0=4
       ·rw[if_pos h4]at htm;simp only[bU.tree,Tr.ag,Tr.an,Tr.aj,Tr.ak,bk q,bB q,aX q,and_self,decide_eq_false h6,decide_eq_true hop,decide_eq_true h4,decide_true,Bool.not_true,Bool.false_eq_true,↓reduceIte,br.told,e1,bJ.told,jt,cM.told,hend,gQ.told,htm,ai];exact e2.trans e3
       ·rw[if_neg h4]at htm;have htm':l[i].f2=(times:Int):=Option.some.inj htm;rw[htm']at e1;simp only[bU.tree,Tr.ag,Tr.an,Tr.aj,Tr.ak,bk q,bB q,aX q,and_self,decide_eq_false h6,decide_eq_true hop,decide_eq_false h4,decide_true,Bool.not_true,Bool.false_eq_true,↓reduceIte,br.told,e1,bJ.told,jt,cM.told,hend,htm',ai];exact e2.trans e3
      ·obtain⟨rb,o1,u1,sn1,lg1,g0,g1,g2,g3,g4,g5,g6,g7,vs1,se1,e1,t1,s1,hS1,hse1⟩:=Ah (B:=B') sS L (i0+i) e0 qL (by omega) hLl mi ms rd at_ o u t tl sn lg f0 f1 f2 f3 f4 f5 f6 f7 vs se b (by omega) hT (by rw[hgL];exact hok) (by rw[hgL];exact h6) (by rw[hgL];exact hop) hm hms hS hse;rw[hgL]at e1;obtain⟨o2,u2,sn2,lg2,y0,y1,y2,y3,y4,y5,y6,y7,vs2,se2,e2,t2,s2,hS2,hse2⟩:=ih r' (by omega) (i+1) (by omega) hF' o1 u1 sn1 lg1 g0 g1 g2 g3 g4 g5 g6 g7 vs1 se1 _ t1 hS1 hse1 (by omega);refine⟨o2,u2,sn2,lg2,y0,y1,y2,y3,y4,y5,y6,y7,vs2,se2,?_,t2.mono (by omega),s1.trans s2,hS2,hse2⟩;rw[aF];simp only[bU.tree,Tr.ag,Tr.an,Tr.aj,Tr.ak,bk q,bB q,aX q,and_self,decide_eq_false h6,decide_eq_false hop,decide_true,Bool.not_false,Bool.false_eq_true,↓reduceIte,br.told,e1,bJ.told,jt,ai,w];exact e2
    ·obtain rfl:i=l.length:=by omega
     refine⟨o,u,sn,lg,f0,f1,f2,f3,f4,f5,f6,f7,vs,se,?_,hT.mono (by omega),?_,hS,hse⟩
     ·rw[aF];simp only[bU.tree,Tr.ag,Tr.al,cP,Bool.false_eq_true,↓reduceIte]
     ·rw[aF,hle];simp only[ar.tree,Tr.ag,Tr.al,cP,Bool.false_eq_true,↓reduceIte]
 exact key l.length 0 (by omega) hF o u sn lg f0 f1 f2 f3 f4 f5 f6 f7 vs se B hT hS hse hB
theorem AB {n:Nat} {M:List Int} {t tl:Int} (b:ns n t tl M) (l:List aq) (mi ms rd:List Int) (at_:Int) (o:List aM) (u:List Int) (sn:Int) (lg:List Int) (f0 f1 f2 f3 f4 f5 f6 f7:Bool) (vs se:List Int) (hb:okB l.length l 0=true) (hm:mi.length≤1048576) (hms:ms.length≤1048576) (hT:TI n t tl M 0 o u sn lg [f0,f1,f2,f3,f4,f5,f6,f7] vs) (hS:Sy mi ms lg [f0,f1,f2,f3,f4,f5,f6,f7]) (hse:(se.length:Int)=sn):
 ∃o' u' sn' lg' g0 g1 g2 g3 g4 g5 g6 g7 vs' se',bU.f l mi rd at_ o u t tl sn lg f0 f1 f2 f3 f4 f5 f6 f7 vs=some (mi,rd,at_,o',u',t,tl,sn',lg',g0,g1,g2,g3,g4,g5,g6,g7,vs')∧TI n t tl M 18000 o' u' sn' lg' [g0,g1,g2,g3,g4,g5,g6,g7] vs'∧
  ar.f l 0 (l.length:Int) vs se u [] rd at_ true o ms lg t tl=some (vs',se',u',[],rd,at_,true,o',ms,lg',t,tl)∧(se'.length:Int)=sn':=by
 have h0:=mC b (Self.iter bU.step 4) (Self.iter ar.step 4) 0 (by omega) (fun k' h=>absurd h (by omega));have h1:=mC b (Self.iter bU.step 5) (Self.iter ar.step 5) 1 (by omega) (fun k' h=>by cases h;exact h0);have h2:=mC b (Self.iter bU.step 6) (Self.iter ar.step 6) 2 (by omega) (fun k' h=>by cases h;exact h1);have h3:=mC b (Self.iter bU.step 7) (Self.iter ar.step 7) 3 (by omega) (fun k' h=>by cases h;exact h2);obtain⟨c1,c2,c3⟩:=jU _ _ _ hb;have hW:W5 3=750:=rfl;obtain⟨o',u',sn',lg',g0,g1,g2,g3,g4,g5,g6,g7,vs',se',e,t',s',_,hse'⟩:=h3 l 0 l.length l mi ms rd at_ o u sn lg f0 f1 f2 f3 f4 f5 f6 f7 vs se 0 (by omega) (by simp) (by omega) (Nat.le_refl _) ⟨0,by omega,c1,c2⟩ hm hms (by rw[hW];omega) hT hS hse;exact⟨o',u',sn',lg',g0,g1,g2,g3,g4,g5,g6,g7,vs',se',e,t'.mono (by rw[hW];omega),s',hse'⟩
theorem xU {p:List az} (hp:vt p=true) {t:Int} (ht:0≤t∧t<(p.length:Int)):pA (aV p t).f1.f0 (aV p t).f1.f1 (aV p t).f1.f2=true:=by
 obtain⟨i,rfl⟩:∃i:Nat,t=i:=⟨t.toNat,by omega⟩;have hi:i<p.length:=by omega
 have e:aV p (i:Int)=p[i]:=aX hi;unfold vt at hp;rw[Bool.and_eq_true,List.all_eq_true]at hp;have:=hp.1 _ (List.getElem_mem hi);unfold BT at this;rw[Bool.and_eq_true]at this;rw[e];exact this.2
theorem vO {p:List az} {vs:List Int} {t:Int} (hp:vt p=true) (hl:p.length≤1048576) (hs:∀t∈p,t.f0.length≤1048576) (hv:zi vs=true) (ht:0≤t∧t<(p.length:Int)):∃v,dy.f p vs t=some v∧dO.f p vs t=some v∧0≤v∧v<(p.length:Int):=by
 obtain⟨v1,v2⟩:=mF.mp hv;obtain⟨e,ee,es,he⟩:=oC (vs:=vs) (aV p t).f1.f0 (aV p t).f1.f1 (aV p t).f1.f2 hv (xU hp ht);have w1:wr ((p.length:Int)-1)=(p.length:Int)-1:=b6 (by omega);have n0:¬(p.length:Int)=0:=by omega
 have hb:gv t 0 ((p.length:Int)-1)=true:=by rw[ca];omega
 have hvv:(vs.all isVal&&decide ((vs.length:Int)=8))=true:=by rw[v1,decide_eq_true (by omega)];rfl
 have r1: -(p.length:Int)<Int.tmod e (p.length:Int)∧Int.tmod e (p.length:Int)<(p.length:Int):=by
  refine⟨?_,Int.tmod_lt_of_pos _ (by omega)⟩;have:=Int.tmod_lt_of_pos (-e) (show 0<(p.length:Int) by omega);rw[Int.neg_tmod]at this;omega
 have w2:wr (Int.tmod e (p.length:Int)+(p.length:Int))=Int.tmod e (p.length:Int)+(p.length:Int):=b6 (by omega);generalize hr:Int.tmod e (p.length:Int)=r at r1 w2
 have hv2:Int.tmod (r+(p.length:Int)) (p.length:Int)=if r<0 then r+(p.length:Int)else r:=by
  rw[Int.tmod_eq_emod_of_nonneg (by omega)];split
  ·exact Int.emod_eq_of_lt (by omega) (by omega)
  ·rw[Int.add_emod_right];exact Int.emod_eq_of_lt (by omega) (by omega)
 have hv3:0≤(if r<0 then r+(p.length:Int)else r)∧(if r<0 then r+(p.length:Int)else r)<(p.length:Int):=by
  by_cases q:r<0
  ·rw[if_pos q];omega
  ·rw[if_neg q];omega
 refine⟨if r<0 then r+(p.length:Int)else r,?_,?_,hv3⟩
 ·simp only[dy.f,dy.begin,Tr.aj,Tr.ag,Tr.an,Tr.gT,Tr.al,fI.told,fI.f,fI.begin,da.told,mo p hl hs,hp,ai,aK.told,dd,w1,hb,fh.told,oT vs (by omega),hvv,Bool.not_true,Bool.false_eq_true,↓reduceIte,ht,and_self,cj.told,ee,ne_eq,n0,not_false_eq_true,hr,w2,hv2]
 ·by_cases q:r<0
  ·simp only[dO.f,dO.begin,Tr.an,Tr.bE,Tr.aj,Tr.ag,Tr.al,ht,and_self,↓reduceIte,cn.told,es,ai,ne_eq,n0,not_false_eq_true,hr,w2,q,decide_true,↓reduceIte]
  ·simp only[dO.f,dO.begin,Tr.an,Tr.bE,Tr.aj,Tr.ag,Tr.al,ht,and_self,↓reduceIte,cn.told,es,ai,ne_eq,n0,not_false_eq_true,hr,q,decide_false,Bool.false_eq_true,↓reduceIte]
set_option maxHeartbeats 4000000 in
theorem tP {p:List az} {m:List Int} (rd:List Int) (at_:Int) (hp:vt p=true) (hl:p.length≤6) (hs:∀t∈p,t.f0.length≤1048576) (hm:Clean p.length m):∃o u,dt.f p m rd at_=some (o,u)∧B5 p.length m o u∧dW.f p m rd at_=some (o,u):=by
 obtain⟨t,tl,hu,hb,hr⟩:=hm.base;have htn:(0:Int)≤t∧t<(p.length:Int):=⟨hb.t0.1,hb.t0.2.1⟩;obtain⟨c1,c2⟩:=Bf hp htn;obtain⟨mi,ms,em,ems,hmi,hms,hmm⟩:=xj (aV p t).f0 (aV p t).f1.f0 (aV p t).f1.f1 (aV p t).f1.f2 (by omega) c1 (xU hp htn);obtain⟨_,_,_,_,_,_,_,_,_,h8,_⟩:=j8 hm.1;have hm49:=hb.len;have hmv:eZ.f m=some (m.take 8):=by rw[uJ,if_pos hm49]
 have hsv:eY.f m=some (m.take 8):=by rw[uX,if_pos hm49]
 have hT:TI p.length t tl m 0 [] [] 0 [] [false,false,false,false,false,false,false,false] (m.take 8):=⟨⟨by simp,fun k=>by rw[List.take_nil];exact hr.gR hb⟩,hr,by simp,by simp,by simp,by omega,by simp,mF.mpr ⟨h8,by rw[List.length_take];omega⟩⟩
 have hS0:Sy mi ms [] [false,false,false,false,false,false,false,false]:=⟨hmm,fun k hk _=>⟨fun h=>(by
  rcases(show k=0∨k=1∨k=2∨k=3∨k=4∨k=5∨k=6∨k=7 by omega)with rfl | rfl | rfl | rfl | rfl | rfl | rfl | rfl<;>cases h),fun h=>(by simp at h)⟩⟩
 obtain⟨o1,u1,sn1,lg1,f0,f1,f2,f3,f4,f5,f6,f7,vs1,se1,e1,t1,s1,hse⟩:=AB hb (aV p t).f0 mi ms rd at_ [] [] 0 [] false false false false false false false false (m.take 8) [] c1 hmi hms hT hS0 rfl;have e2:=jG 1 o1 u1 t tl sn1 lg1 f0 f1 f2 f3 f4 f5 f6 f7 vs1 (by have:=t1.ma;omega);have s2:=kX 1 vs1 se1 u1 [] rd at_ true o1 ms lg1 t tl (by have:=t1.ma;omega);have t2:=t1.work hb (c:=1) (by omega);obtain⟨nt,e3,s3,nt0,nt1⟩:=vO hp (by omega) hs t1.zL htn;have hsn:=t1.run.s0;have hsB:=t1.Ap;have htl:=hb.C0;have w1:wr (tl+sn1)=tl+sn1:=b6 (by omega);have e4:=gA 8 (pack nt 0 (if tl+sn1<24 then tl+sn1 else 24)) (o1++[(⟨1,-1,0⟩:aM)]) u1 t tl sn1 lg1 f0 f1 f2 f3 f4 f5 f6 f7 vs1 (by have:=t2.ma;omega);have s4:=iq 8 (pack nt 0 (if tl+sn1<24 then tl+sn1 else 24)) vs1 se1 u1 [] rd at_ true (o1++[(⟨1,-1,0⟩:aM)]) ms lg1 t tl (by have:=t2.ma;omega);have n1:(0:Int)≤8∧(8:Int)<(m.length:Int):=by omega
 obtain⟨hG,hU⟩:=t2.run.last hb hl ⟨nt0,nt1⟩ (tl':=if tl+sn1<24 then tl+sn1 else 24) rfl
 have hap:cI m ((o1++[(⟨1,-1,0⟩:aM)])++[(⟨3,8,pack nt 0 (if tl+sn1<24 then tl+sn1 else 24)⟩:aM)])=(cI m (o1++[(⟨1,-1,0⟩:aM)])).set 8 (pack nt 0 (if tl+sn1<24 then tl+sn1 else 24)):=by
  rw[iM,mU _ _ _ _ (by omega)];rfl
 have ho:=t2.ma;have hul:=t1.tq;refine⟨(o1++[(⟨1,-1,0⟩:aM)])++[(⟨3,8,pack nt 0 (if tl+sn1<24 then tl+sn1 else 24)⟩:aM)],u1,?_,⟨t2.safe.snoc ⟨by show(0:Int)≤3∧(3:Int)≤5;omega,by show(-1:Int)≤8∧(8:Int)<49;omega⟩ ?_,?_,t1.used,by omega,?_⟩,?_⟩
 ·simp only[dt.f,dt.begin,Tr.an,Tr.aj,Tr.iu,Tr.bE,Tr.gT,Tr.ak,n1,and_self,↓reduceIte,bj.told,iA,hu,ai,eZ.told,hmv,htn,dK.told,em,bU.told,e1,b7.told,e2,dy.told,e3,bo.told,iO,w1,aZ.told,e4,fy];rw[aF];simp only[dt.tree,Tr.al]
 ·have:=hG;rw[mU _ _ _ _ (by omega)];exact this
 ·rw[List.length_append,List.length_singleton];omega
 ·rw[hap];exact⟨hG.1,by rw[hU]⟩
 ·have fit:((List.length ([]:List Int):Int)+(u1.length:Int))*(8:Nat)≤room:=by unfold room;simp;omega
  simp only[dW.f,dW.begin,Tr.an,Tr.aj,Tr.iu,Tr.bE,Tr.gT,Tr.ak,n1,and_self,↓reduceIte,bg.told,iy,hu,ai,eY.told,hsv,htn,dc.told,ems,ar.told,s1,dV.told,s2,dO.told,s3,bu.told,iP,hse,w1,bR.told,s4,fy];rw[aF];simp only[dW.tree,Tr.iu,Tr.bE,Tr.an,Tr.al,fit,↓reduceIte,List.nil_append,fy]
theorem Am {p:List az} (h:vt p=true):p.length≤6∧1≤p.length∧∀t∈p,t.f0.length≤1048576:=by
 have h':=h;unfold vt at h';rw[Bool.and_eq_true,List.all_eq_true,ca]at h';refine⟨by omega,by omega,fun t ht=> ?_⟩;have:=h'.1 t ht;unfold BT at this;rw[Bool.and_eq_true]at this;have:=(jU _ _ _ this.1).2.2;omega
theorem gM (c:Int) (m:List Int) (a:Int) (us:List (List Int)) (left:Int) (hc:0≤c) (hl:0≤left) (hb:left≤9223372036854775807):aY.f c m a us left=some (if left<c then(false,m,a,us,left)else(true,m,a,us,left-c)):=by
 by_cases q:left<c
 ·simp only[aY.f,aY.begin,Tr.ag,Tr.al,decide_eq_true q,q,decide_true,↓reduceIte]
 ·have w:wr (left-c)=left-c:=b6 (by omega);simp only[aY.f,aY.begin,Tr.ag,Tr.al,decide_eq_false q,q,w,decide_false,Bool.false_eq_true,↓reduceIte]
theorem qU (m:List Int):∀(i:Nat) (acc:List fY),(∀j,j<i→jc m j=true)→(∀w∈acc,(0≤w.f0∧w.f0≤7)∧isVal w.f1=true)→∃l,qw m i acc=some l∧∀w∈l,(0≤w.f0∧w.f0≤7)∧isVal w.f1=true
 | 0,acc,_,ha=>⟨acc,rfl,ha⟩
 | i+1,acc,h,ha=>by
   have hp:=h i (by omega);unfold jc at hp;rw[Bool.and_eq_true]at hp
   obtain⟨l,e,hl⟩:=qU m i (acc++[(⟨eG m (9+2*(i:Int)),eG m (9+2*(i:Int)+1)⟩:fY)]) (fun j hj=>h j (by omega)) (fun w hw=>by
    rcases List.mem_append.mp hw with hw | hw
    ·exact ha w hw
    ·rw[List.mem_singleton]at hw;rw[hw];exact⟨ca.mp hp.1,hp.2⟩)
   refine⟨l,?_,hl⟩;unfold qw;rw[if_pos hp.1];exact e
structure wJ (M m:List Int):Prop where
 len:m.length=49
 rest:∀i:Nat,8≤i→m.getD i 0=M.getD i 0
 var:∀i:Nat,i<8→isVal (m.getD i 0)=true
theorem wo {m:List Int} (hm:m.length=49) (h:∀i:Nat,i<8→isVal (m.getD i 0)=true):(m.take 8).all isVal=true:=by
 rw[List.all_eq_true];intro x hx;obtain⟨i,hi,rfl⟩:=List.mem_iff_getElem.mp hx;rw[List.length_take]at hi;have:=h i (by omega);rw[List.getD_eq_getElem?_getD,List.getElem?_eq_getElem (by omega)]at this;rw[List.getElem_take];exact this
theorem wJ.gR {n:Nat} {M m:List Int} (hM:jz n M=true) (h:wJ M m):jn n M m:=by
 obtain⟨t,c,tl,hu,hc,hm,ht,hcc,htl,h8,hs,hl,hw⟩:=j8 hM
 have e8:eG m 8=eG M 8:=by
  have:=h.rest 8 (by omega);rw[show(8:Int)=((8:Nat):Int)from rfl,nB,nB];exact this
 have hu':unpack (eG m 8)=(t,c,tl):=by rw[e8,hu]
 refine⟨pN h.len hu' ⟨ht.1,ht.2.1⟩ (wo h.len h.var) ?_ ?_,?_⟩
 ·rw[l8 (tl:=tl) (by rw[hu']) htl.1];exact sZ (fun i hi=>by rw[h.rest _ (by omega)];exact hs i hi)
 ·rw[List.all_eq_true];intro i hi;rw[List.mem_range]at hi;have:=hl i (by omega);rw[lq]at this⊢;rw[h.rest _ (by omega),h.rest _ (by omega)];exact this
 ·rw[kt h.len hu' htl.1,hw,xn h.len hm (fun i _=>h.rest _ (by omega))];exact List.prefix_rfl
theorem wJ.set {M m:List Int} (h:wJ M m) {j:Nat} {v:Int} (hj:j<8) (hv:isVal v=true):wJ M (m.set j v) where
 len:=by rw[List.length_set];exact h.len
 rest:=fun i hi=>by have:=h.len;rw[fJ (by omega),if_neg (by omega)];exact h.rest i hi
 var:=fun i hi=>by
  have:=h.len;rw[fJ (by omega)];split
  ·exact hv
  ·exact h.var i hi
theorem wJ.last {n:Nat} {M m:List Int} (hM:jz n M=true) (h:wJ M m) {t c tl:Int} (hu:unpack (eG M 8)=(t,c,tl)):jn n M (m.set 8 (pack t 0 tl))∧Clean n (m.set 8 (pack t 0 tl)):=by
 obtain⟨t',c',tl',hu',hc,hm,ht,hcc,htl,h8,hs,hl,hw⟩:=j8 hM;rw[hu]at hu';obtain⟨rfl,rfl,rfl⟩:t=t'∧c=c'∧tl=tl':=⟨congrArg Prod.fst hu',congrArg (fun x=>x.2.1) hu',congrArg (fun x=>x.2.2) hu'⟩;have hlen:=h.len;have hg:∀i:Nat,i≠8→(m.set 8 (pack t 0 tl)).getD i 0=m.getD i 0:=fun i hi=>by rw[fJ (by omega),if_neg hi]
 have hl':(m.set 8 (pack t 0 tl)).length=49:=by rw[List.length_set];exact hlen
 have hu2:unpack (eG (m.set 8 (pack t 0 tl)) 8)=(t,0,tl):=by rw[show eG (m.set 8 (pack t 0 tl)) 8=pack t 0 tl from xd (by omega) rfl];exact nq (by omega) (by omega) (by omega)
 have ho:jz n (m.set 8 (pack t 0 tl))=true:=by
  refine pN hl' hu2 ⟨ht.1,ht.2.1⟩ (wo hl' (fun i hi=>by rw[hg i (by omega)];exact h.var i hi)) ?_ rfl;rw[l8 (tl:=tl) (by rw[hu2]) htl.1];exact sZ (fun i hi=>by rw[hg _ (by omega),h.rest _ (by omega)];exact hs i hi)
 refine⟨⟨ho,?_⟩,ho,by rw[hu2]⟩;rw[kt hl' hu2 htl.1,hw,xn hl' hm (fun i _=>by rw[hg _ (by omega)];exact h.rest _ (by omega))];exact List.prefix_rfl
theorem nA {n:Nat} {m:List Int} (hm:jz n m=true) (a:Int) (us:List (List Int)) (left:Int) (h0:0≤left) (hb:left≤1000000000):
 ∃b m' left',aO.f m a us left=some (b,m',a,us,left')∧jn n m m'∧(0≤left'∧left'≤left)∧(b=true→Clean n m'):=by
 obtain⟨t,c,tl,hu,hc,h49,ht,hcc,htl,h8,hs,hl,hw⟩:=j8 hm;have hI:wJ m m:=⟨h49,fun _ _=>rfl,fun i hi=>uE h49 h8 i hi⟩;simp only[aO.f,aO.begin,Tr.aj,Tr.ak,bm.told,j5,ai];have hrec:kG m=if c<1 then[]else qP m (qw m c.toNat []):=by unfold kG;rw[if_pos h49,hu]
 by_cases q1:c<1
 ·rw[hrec,if_pos q1,aF];simp only[aO.tree,Tr.ag,Tr.al,List.length_nil,cP,show decide ((0:Int)<((0:Nat):Int))=false from rfl,Bool.false_eq_true,↓reduceIte];exact⟨_,_,_,rfl,hI.gR hm,by omega,fun _=>⟨hm,by rw[hu];show c=0;omega⟩⟩
 ·obtain⟨l,el,hlv⟩:=qU m c.toNat [] (fun j hj=>hl j (by omega)) (by simp);have hrl:kG m=l++[(⟨8,pack t 0 tl⟩:fY)]:=by rw[hrec,if_neg q1,el,qP,hu]
  have hlen:=uO m;generalize kG m=W at hrl hlen;have hWl:W.length=l.length+1:=by rw[hrl,List.length_append,List.length_singleton]
  have key:=upto W.length (fun j (s:List Int×Int)=>(j≤l.length→wJ m s.1)∧(j=l.length+1→Clean n s.1)∧jn n m s.1∧0≤s.2∧s.2≤left) (fun j s=>lp aO.tree (.c2 W (W.length:Int) (j:Int) s.1 a us s.2)) (fun r=>∃b m' left',r=(b,m',a,us,left')∧jn n m m'∧(0≤left'∧left'≤left)∧(b=true→Clean n m')) (fun j hj s hs=>by
   obtain⟨s1,s2⟩:=s;obtain⟨hR,hC,hG,hl0,hl1⟩:=hs;simp only at hR hC hG hl0 hl1;rw[aF]
   by_cases q:j<W.length
   ·have hRj:=hR (by omega);have esp:=gM 3 s1 a us s2 (by omega) hl0 (by omega)
    by_cases q3:s2<3
    ·rw[if_pos q3]at esp;refine Or.inl ⟨(false,s1,a,us,s2),?_,_,_,_,rfl,hG,⟨hl0,hl1⟩,fun h=>by cases h⟩;simp only[aO.tree,Tr.ag,Tr.an,Tr.aj,Tr.al,bk q,bB q,and_self,decide_true,↓reduceIte,aY.told,esp,ai,Bool.not_false]
    ·rw[if_neg q3]at esp
     have hjj:(0:Int)≤W[j].f0∧W[j].f0<(s1.length:Int)∧(j<l.length→W[j].f0≤7∧isVal W[j].f1=true)∧(j=l.length→W[j]=(⟨8,pack t 0 tl⟩:fY)):=by
      have:=hRj.len
      by_cases qj:j<l.length
      ·have e:W[j]=l[j]:=by
        have:W[j]? =some l[j]:=by rw[hrl,List.getElem?_append_left qj,List.getElem?_eq_getElem qj]
        rw[List.getElem?_eq_getElem q]at this;exact Option.some.inj this
       have hv:=hlv l[j] (List.getElem_mem qj);rw[e];exact⟨hv.1.1,by omega,fun _=>⟨hv.1.2,hv.2⟩,fun h=>absurd h (by omega)⟩
      ·have e:W[j]=(⟨8,pack t 0 tl⟩:fY):=by
        have:W[j]? =some (⟨8,pack t 0 tl⟩:fY):=by rw[hrl,List.getElem?_append_right (by omega),show j-l.length=0 by omega];rfl
        rw[List.getElem?_eq_getElem q]at this;exact Option.some.inj this
       rw[e];exact⟨by show(0:Int)≤8;omega,by show(8:Int)<_;omega,fun h=>absurd h (by omega),fun _=>rfl⟩
     obtain⟨p0,p1,p2,p3⟩:=hjj;refine Or.inr ⟨q,(s1.set W[j].f0.toNat W[j].f1,s2-3),?_,?_,?_,?_,by show 0≤s2-3;omega,by show s2-3≤left;omega⟩
     ·simp only[aO.tree,Tr.ag,Tr.an,Tr.aj,Tr.bE,Tr.ak,bk q,bB q,aX q,and_self,decide_true,↓reduceIte,aY.told,esp,ai,Bool.not_true,Bool.false_eq_true,p0,p1,aN (show j<4611686018427387904 by omega)]
     ·intro hj1;have:=p2 (by omega);exact hRj.set (by omega) this.2
     ·intro hj1;have e:=p3 (by omega);simp only[e];exact(hRj.last hm hu).2
     ·by_cases qj:j<l.length
      ·exact(hRj.set (by have:=(p2 qj).1;omega) (p2 qj).2).gR hm
      ·have e:=p3 (by omega);simp only[e];exact(hRj.last hm hu).1
   ·refine Or.inl ⟨(true,s1,a,us,s2),?_,_,_,_,rfl,hG,⟨hl0,hl1⟩,fun _=>hC (by omega)⟩;obtain rfl:j=W.length:=by omega
    simp only[aO.tree,Tr.ag,Tr.al,cP,Bool.false_eq_true,↓reduceIte]) 0 (by omega) (m,left) ⟨fun _=>hI,fun h=>absurd h (by omega),hI.gR hm,h0,Int.le_refl _⟩
  obtain⟨r,e,b,m',left',rfl,h⟩:=key;exact⟨b,m',left',e,h⟩
theorem jn.trans {n:Nat} {a b c:List Int} (h:jn n a b) (g:jn n b c):jn n a c:=⟨g.1,h.2.trans g.2⟩
theorem pK {p:List az} {m:List Int} (rd:List Int) (a:Int) (us:List (List Int)) (left:Int) (hp:vt p=true) (hl:p.length≤6) (hs:∀t∈p,t.f0.length≤1048576) (hm:Clean p.length m)
 (ha:0≤a∧a≤1000000000) (hu:us.length≤10000) (h0:0≤left∧left≤1000000000):
 ∃b m' a' us' left',ba.f p rd m a us left=some (b,m',a',us',left')∧jn p.length m m'∧(0≤left'∧left'≤left)∧(a≤a'∧a'-a≤left-left')∧(b=false→us'=us)∧
  (b=true→Clean p.length m'∧∃u,us'=us++[u]∧u.length≤20000∧∀x∈u,isVal x=true):=by
 obtain⟨o,u,eo,ho,_⟩:=tP (m:=m) rd a hp hl hs hm;have holen:=ho.ma;have hm49:∀k,(cI m (o.take k)).length=49:=fun k=>(gX (ho.safe.2 k).1).1
 have key:=upto o.length (fun j (s:Int×Int)=>(a≤s.1∧s.1-a≤left-s.2)∧(0≤s.2∧s.2≤left)) (fun j s=>lp ba.tree (.c3 o u (o.length:Int) (j:Int) (cI m (o.take j)) s.1 us s.2)) (fun r=>∃b m' a' us' left',r=(b,m',a',us',left')∧jn p.length m m'∧(0≤left'∧left'≤left)∧(a≤a'∧a'-a≤left-left')∧(b=false→us'=us)∧(b=true→Clean p.length m'∧∃u,us'=us++[u]∧u.length≤20000∧∀x∈u,isVal x=true)) (fun j hj s hs=>by
  obtain⟨s1,s2⟩:=s;obtain⟨hA,hL⟩:=hs;simp only at hA hL;rw[aF]
  by_cases q:j<o.length
  ·obtain⟨⟨k0,k1⟩,k2,k3⟩:=ho.safe.1 o[j] (List.getElem_mem q);have esp:=gM o[j].f0 (cI m (o.take j)) s1 us s2 k0 hL.1 (by omega)
   by_cases q3:s2<o[j].f0
   ·rw[if_pos q3]at esp;refine Or.inl ⟨(false,cI m (o.take j),s1,us,s2),?_,_,_,_,_,_,rfl,ho.safe.2 j,hL,hA,fun _=>rfl,fun h=>by cases h⟩;simp only[ba.tree,Tr.ag,Tr.an,Tr.aj,Tr.al,bk q,bB q,aX q,and_self,decide_true,↓reduceIte,aY.told,esp,ai,Bool.not_false]
   ·rw[if_neg q3]at esp;have e49:=hm49 j;have hnext:cI m (o.take (j+1))=mw (cI m (o.take j)) o[j]:=by rw[List.take_add_one,List.getElem?_eq_getElem q];exact iM m _ _
    have w1:wr (s1+1)=s1+1:=b6 (by omega);have wj:=aN (show j<4611686018427387904 by omega)
    by_cases qn:o[j].f1= -1
    ·have hmw:cI m (o.take (j+1))=cI m (o.take j):=by rw[hnext];unfold mw;rw[if_pos qn]
     by_cases q5:o[j].f0=5
     ·refine Or.inr ⟨q,(s1+1,s2-o[j].f0),?_,by show _∧s1+1-a≤left-(s2-o[j].f0);omega,by show 0≤s2-o[j].f0∧s2-o[j].f0≤left;omega⟩;simp only[hmw,ba.tree,Tr.ag,Tr.an,Tr.aj,Tr.bE,Tr.ak,Tr.al,bk q,bB q,aX q,and_self,decide_true,↓reduceIte,aY.told,esp,ai,Bool.not_true,Bool.false_eq_true,aP.told,aP.f,aP.begin,decide_eq_true qn,decide_eq_true q5,w1,wj]
     ·refine Or.inr ⟨q,(s1,s2-o[j].f0),?_,by show _∧s1-a≤left-(s2-o[j].f0);omega,by show 0≤s2-o[j].f0∧s2-o[j].f0≤left;omega⟩;simp only[hmw,ba.tree,Tr.ag,Tr.an,Tr.aj,Tr.bE,Tr.ak,Tr.al,bk q,bB q,aX q,and_self,decide_true,↓reduceIte,aY.told,esp,ai,Bool.not_true,Bool.false_eq_true,aP.told,aP.f,aP.begin,decide_eq_true qn,decide_eq_false q5,w1,wj]
    ·have hmw:cI m (o.take (j+1))=(cI m (o.take j)).set o[j].f1.toNat o[j].f2:=by rw[hnext];unfold mw;rw[if_neg qn]
     have n1:(0:Int)≤o[j].f1∧o[j].f1<((cI m (o.take j)).length:Int):=by omega
     refine Or.inr ⟨q,(s1,s2-o[j].f0),?_,by show _∧s1-a≤left-(s2-o[j].f0);omega,by show 0≤s2-o[j].f0∧s2-o[j].f0≤left;omega⟩;simp only[hmw,ba.tree,Tr.ag,Tr.an,Tr.aj,Tr.bE,Tr.ak,Tr.al,bk q,bB q,aX q,and_self,decide_true,↓reduceIte,aY.told,esp,ai,Bool.not_true,Bool.not_false,Bool.false_eq_true,aP.told,aP.f,aP.begin,decide_eq_false qn,n1,w1,wj]
  ·obtain rfl:j=o.length:=by omega
   refine Or.inl ⟨(true,cI m (o.take o.length),s1,us++[u],s2),?_,_,_,_,_,_,rfl,ho.safe.2 _,hL,hA,(fun h=>by cases h),fun _=>⟨by rw[List.take_length];exact ho.clean,u,rfl,ho.tq,ho.used⟩⟩;simp only[ba.tree,Tr.ag,Tr.iu,Tr.bE,Tr.an,Tr.al,cP,Bool.false_eq_true,↓reduceIte,gp us u 1048576 (by omega) (by omega) 24 (by omega),fy]) 0 (by omega) (a,left) ⟨by show a≤a∧a-a≤left-left;omega,by show 0≤left∧left≤left;omega⟩
 obtain⟨r,e,b,m',a',us',left',rfl,h⟩:=key;refine⟨b,m',a',us',left',?_,h⟩;simp only[ba.f,ba.begin,Tr.iu,Tr.aj,Tr.bE,Tr.ak,dt.told,eo,ai,fy];exact e
def yV (us:List (List Int)):Prop:=us.length≤10∧∀u∈us,u.length≤20000∧∀x∈u,isVal x=true
theorem AN {a b:List Int} (h:a<+:b):qo a b=true:=by
 unfold qo;rw[decide_eq_true h.length_le,decide_eq_true (List.prefix_iff_eq_take.mp h)];rfl
theorem tu (x b:Int) (hb:0≤b):∃c:Int,cN.f x 0 b=some c∧0≤c∧c≤b∧(c≤x∨c=0):=by
 simp only[cN.f,cN.begin,Tr.ag,Tr.al,decide_eq_true_eq];rw[if_neg (by omega)];refine⟨_,rfl,?_⟩
 by_cases h1:(0:Int)>x
 ·simp only[h1,↓reduceIte]
  by_cases h2:b<0
  ·omega
  ·simp only[h2,↓reduceIte];exact⟨Int.le_refl 0,hb,Or.inr trivial⟩
 ·simp only[h1,↓reduceIte]
  by_cases h2:b<x
  ·simp only[h2,↓reduceIte];omega
  ·simp only[h2,↓reduceIte];omega
theorem Aj {a b:List Int}:qo a b=true↔a<+:b:=by
 refine⟨fun h=> ?_,AN⟩;unfold qo at h;rw[Bool.and_eq_true,decide_eq_true_eq,decide_eq_true_eq]at h;rw[List.prefix_iff_eq_take];exact h.2
theorem r9 {p:List az} {m r:List Int} {a3 a4 a5 a6 a7 a8 a9 a10:Int} {h:List Int} {a12:Int}:lh p m r a3 a4 a5 a6 a7 a8 a9 a10 h a12=true↔
 vt p=true∧jz p.length m=true∧iH a4 a5 a6 a7=true∧r.all isVal=true∧(0≤a3∧a3≤400000)∧jH a8 a9=true∧((0≤a10∧a10≤(h.length:Int))∧h<+:iF m)∧(0≤a12∧a12≤100000):=by
 unfold lh ou;simp only[Bool.and_eq_true,ca,Aj];exact⟨fun⟨⟨q1,q2⟩,q3,q4,q5,q6,q7,q8⟩=>⟨q1,q2,q3,q4,q5,q6,q7,q8⟩,fun⟨q1,q2,q3,q4,q5,q6,q7,q8⟩=>⟨⟨q1,q2⟩,q3,q4,q5,q6,q7,q8⟩⟩
theorem mV {a b c d:Int}:iH a b c d=true↔(1≤b∧b≤5000)∧(0≤a∧a≤b)∧(1≤c∧c≤b)∧(0≤d∧d≤100):=by
 unfold iH;simp only[Bool.and_eq_true,ca]
theorem nv {a b:Int}:jH a b=true↔0≤a∧a≤b∧b≤1000000:=by
 unfold jH;simp only[Bool.and_eq_true,decide_eq_true_eq,ge_iff_le]
def fB (a:Int):Int:=if a+1<1000000 then a+1 else 1000000
theorem vA (a b:Int) (h:jH a b=true):fz.f a b 1=some (fB a,fB b):=by
 obtain⟨h0,h1,h2⟩:=nv.mp h;have w1:wr (a+1)=a+1:=b6 (by omega);have w2:wr (b+1)=b+1:=b6 (by omega);have h11:jH 1 1=true:=rfl;simp only[fz.f,fz.begin,fG.told,fG.f,fG.begin,Tr.aj,Tr.ag,Tr.al,eR.told,oK,h,h11,ai,Bool.not_true,Bool.false_eq_true,↓reduceIte,w1,w2,fB]
theorem u6 {a b:Int} (h:jH a b=true):jH (fB a) (fB b)=true:=by
 rw[nv]at h⊢;unfold fB;split<;>split<;>omega
structure Dk (p:List az) (m:List Int) (a3 a4 a5 a6 a7 a8 a9 a12:Int) (m':List Int) (b3 b4 b8 b9 b12:Int):Prop where
 gR:jn p.length m m'
 at_:a3≤b3∧b3≤a3+5000
 store:iH b4 a5 a6 a7=true
 low:b8=fB a8
 high:b9=fB a9
 done:a12≤b12∧b12≤a12+10
def ob:List aM→Int→Nat
 | [],_=>0
 | x::o,left=>if left<x.f0 then 0 else ob o (left-x.f0)+1
def eE (o:List aM):Int:=(o.map fun x=>x.f0).sum
def gh (o:List aM):Int:=((o.filter fun x=>decide (x.f1= -1)&&decide (x.f0=5)).length:Int)
theorem ka (o:List aM) (x:aM):eE (o++[x])=eE o+x.f0:=by unfold eE;simp
theorem rQ (o:List aM) (x:aM):gh (o++[x])=gh o+(if x.f1= -1∧x.f0=5 then 1 else 0):=by
 unfold gh;rw[List.filter_append,List.length_append]
 by_cases h1:x.f1= -1
 ·by_cases h2:x.f0=5
  ·simp[h1,h2]
  ·simp[h1,h2]
 ·simp[h1]
theorem xu:∀(o:List aM) (left:Int),ob o left≤o.length
 | [],_=>Nat.le_refl _
 | x::o,left=>by
   unfold ob;split
   ·omega
   ·have:=xu o (left-x.f0);simp only[List.length_cons];omega
theorem pQ:∀(o:List aM) (left:Int) (j:Nat),j<ob o left→∃h:j<o.length,eE (o.take j)+o[j].f0≤left
 | [],left,j,h=>absurd (show j<0 from h) (by omega)
 | x::o,left,j,h=>by
   unfold ob at h;split at h
   ·omega
   ·rename_i q;cases j with
    | zero=>exact⟨by simp,by show eE []+x.f0≤left;unfold eE;simp;omega⟩
    | succ j=>
      obtain⟨h1,h2⟩:=pQ o (left-x.f0) j (by omega);refine⟨by simp;omega,?_⟩;show eE (x::o.take j)+o[j].f0≤left;have:eE (x::o.take j)=x.f0+eE (o.take j):=by unfold eE;simp
      omega
theorem um:∀(o:List aM) (left:Int) (h:ob o left<o.length),left<eE (o.take (ob o left))+o[ob o left].f0
 | [],left,h=>absurd h (by simp)
 | x::o,left,h=>by
   by_cases q:left<x.f0
   ·have e:ob (x::o) left=0:=by unfold ob;rw[if_pos q]
    simp only[e,List.take_zero,List.getElem_cons_zero];unfold eE;simp;omega
   ·have e:ob (x::o) left=ob o (left-x.f0)+1:=by rw[ob,if_neg q]
    have h':ob o (left-x.f0)<o.length:=by rw[e]at h;simpa using h
    have:=um o (left-x.f0) h';simp only[e,List.take_succ_cons,List.getElem_cons_succ];have:eE (x::o.take (ob o (left-x.f0)))=x.f0+eE (o.take (ob o (left-x.f0))):=by unfold eE;simp
    omega
theorem mj {o:List aM} (h:∀x∈o,ow x) (j:Nat):0≤eE (o.take j):=by
 induction j with
 | zero=>unfold eE;simp
 | succ j ih=>
   by_cases q:j<o.length
   ·rw[im q,ka];have:=(h o[j] (List.getElem_mem q)).1.1;omega
   ·rw[List.take_of_length_le (by omega)];rw[List.take_of_length_le (by omega)]at ih;exact ih
theorem pd (o:List aM):0≤gh o∧gh o≤o.length:=by
 unfold gh;have:=List.length_filter_le (fun x:aM=>decide (x.f1= -1)&&decide (x.f0=5)) o;omega
def nj (m:List Int) (left:Int):Nat:=min (kG m).length (left / 3).toNat
theorem Bz {n:Nat} {m:List Int} (hm:jz n m=true):∀w∈kG m,0≤w.f0∧w.f0<49:=by
 obtain⟨t,c,tl,hu,hc,h49,ht,hcc,htl,h8,hs,hl,hw⟩:=j8 hm;have hrec:kG m=if c<1 then[]else qP m (qw m c.toNat []):=by unfold kG;rw[if_pos h49,hu]
 by_cases q1:c<1
 ·rw[hrec,if_pos q1];simp
 ·obtain⟨l,el,hlv⟩:=qU m c.toNat [] (fun j hj=>hl j (by omega)) (by simp);have hrl:kG m=l++[(⟨8,pack t 0 tl⟩:fY)]:=by rw[hrec,if_neg q1,el,qP,hu]
  intro w hw;rw[hrl]at hw;rcases List.mem_append.mp hw with hw | hw
  ·have:=(hlv w hw).1;omega
  ·rw[List.mem_singleton]at hw;rw[hw];show(0:Int)≤8∧(8:Int)<49;omega
theorem oE {n:Nat} {m:List Int} (hm:jz n m=true) (a:Int) (us:List (List Int)) (left:Int) (h0:0≤left) (hb:left≤1000000000):
 aO.f m a us left=some (decide (nj m left=(kG m).length),jV m ((kG m).take (nj m left)),a,us,left-3*(nj m left:Int)):=by
 have h49:=(gX hm).1;have hin:=Bz hm;have hlen:=uO m;have hK:nj m left=min (kG m).length (left / 3).toNat:=rfl;generalize nj m left=k at hK;simp only[aO.f,aO.begin,Tr.aj,Tr.ak,bm.told,j5,ai];generalize kG m=W at hin hlen hK
 have key:∀(n j:Nat),j+n=k→lp aO.tree (.c2 W (W.length:Int) (j:Int) (jV m (W.take j)) a us (left-3*(j:Int)))=some (decide (k=W.length),jV m (W.take k),a,us,left-3*(k:Int)):=by
  intro n
  induction n with
  | zero=>
    intro j hj;obtain rfl:j=k:=by omega
    rw[aF]
    by_cases q:j<W.length
    ·have esp:=gM 3 (jV m (W.take j)) a us (left-3*(j:Int)) (by omega) (by omega) (by omega);rw[if_pos (by omega)]at esp;simp only[aO.tree,Tr.ag,Tr.an,Tr.aj,Tr.al,bk q,bB q,and_self,decide_true,↓reduceIte,aY.told,esp,ai,Bool.not_false,decide_eq_false (show¬j=W.length by omega)]
    ·have e:j=W.length:=by omega
     simp only[aO.tree,Tr.ag,Tr.al,e,cP,decide_true,Bool.false_eq_true,↓reduceIte]
  | succ n ih=>
    intro j hj;have q:j<W.length:=by omega
    rw[←ih (j+1) (by omega),aF];have esp:=gM 3 (jV m (W.take j)) a us (left-3*(j:Int)) (by omega) (by omega) (by omega);rw[if_neg (by omega)]at esp;have hw:=hin W[j] (List.getElem_mem q);have hl:(jV m (W.take j)).length=49:=by rw[tF,h49]
    have n1:(0:Int)≤W[j].f0∧W[j].f0<((jV m (W.take j)).length:Int):=by omega
    have hnext:jV m (W.take (j+1))=(jV m (W.take j)).set W[j].f0.toNat W[j].f1:=by
     rw[im q];unfold jV;rw[List.foldl_append];show BU (jV m (W.take j)) W[j]=_;unfold BU;rw[if_pos (ca.mpr (by omega))];rfl
    have hl3:left-3*(j:Int)-3=left-3*((j+1:Nat):Int):=by omega
    simp only[aO.tree,Tr.ag,Tr.an,Tr.aj,Tr.bE,Tr.ak,bk q,bB q,aX q,and_self,decide_true,↓reduceIte,aY.told,esp,ai,Bool.not_true,Bool.false_eq_true,n1,aN (show j<4611686018427387904 by omega),hnext,hl3]
 have:=key k 0 (by omega);simp only[List.take_zero,Int.natCast_zero,Int.mul_zero,Int.sub_zero]at this;exact this
theorem ra {p:List az} {m:List Int} (rd:List Int) (a:Int) (us:List (List Int)) (left:Int) {o:List aM} {u:List Int} (eo:dt.f p m rd a=some (o,u)) (ho:B5 p.length m o u)
 (ha:0≤a∧a≤1000000000) (hu:us.length≤10000) (h0:0≤left∧left≤1000000000):
 ba.f p rd m a us left=some (decide (ob o left=o.length),cI m (o.take (ob o left)),a+gh (o.take (ob o left)),if ob o left=o.length then us++[u]else us,left-eE (o.take (ob o left))):=by
 have holen:=ho.ma;have hm49:∀k,(cI m (o.take k)).length=49:=fun k=>(gX (ho.safe.2 k).1).1;simp only[ba.f,ba.begin,Tr.iu,Tr.aj,Tr.bE,Tr.ak,dt.told,eo,ai,fy];have hcb:=pQ o left;have hcs:=um o left;have hcl:=xu o left;generalize ob o left=k at hcb hcs hcl
 have key:∀(n j:Nat),j+n=k→lp ba.tree (.c3 o u (o.length:Int) (j:Int) (cI m (o.take j)) (a+gh (o.take j)) us (left-eE (o.take j)))=some (decide (k=o.length),cI m (o.take k),a+gh (o.take k),if k=o.length then us++[u]else us,left-eE (o.take k)):=by
  intro n
  induction n with
  | zero=>
    intro j hj;obtain rfl:j=k:=by omega
    rw[aF]
    by_cases q:j<o.length
    ·have hc0:=mj ho.safe.1 j
     have hc1:eE (o.take j)≤left:=by
      cases j with
      | zero=>unfold eE;simp;omega
      | succ j'=>
        obtain⟨h1,h2⟩:=hcb j' (by omega);rw[im h1,ka];exact h2
     have esp:=gM o[j].f0 (cI m (o.take j)) (a+gh (o.take j)) us (left-eE (o.take j)) (ho.safe.1 o[j] (List.getElem_mem q)).1.1 (by omega) (by omega);have:=hcs q;rw[if_pos (by omega)]at esp;simp only[ba.tree,Tr.ag,Tr.an,Tr.aj,Tr.al,bk q,bB q,aX q,and_self,decide_true,↓reduceIte,aY.told,esp,ai,Bool.not_false,decide_eq_false (show¬j=o.length by omega),if_neg (show¬j=o.length by omega)]
    ·have e:j=o.length:=by omega
     simp only[ba.tree,Tr.ag,Tr.iu,Tr.bE,Tr.an,Tr.al,e,cP,Bool.false_eq_true,↓reduceIte,gp us u 1048576 (by omega) (by omega) 24 (by omega),fy,decide_true]
  | succ n ih=>
    intro j hj;obtain⟨q,hbear⟩:=hcb j (by omega);rw[←ih (j+1) (by omega),aF];obtain⟨⟨k0,k1⟩,k2,k3⟩:=ho.safe.1 o[j] (List.getElem_mem q);have hc0:=mj ho.safe.1 j;have hse:=pd (o.take j);rw[List.length_take]at hse;have esp:=gM o[j].f0 (cI m (o.take j)) (a+gh (o.take j)) us (left-eE (o.take j)) k0 (by omega) (by omega);rw[if_neg (by omega)]at esp;have e49:=hm49 j;have hnext:cI m (o.take (j+1))=mw (cI m (o.take j)) o[j]:=by rw[im q];exact iM m _ _
    have hcn:eE (o.take (j+1))=eE (o.take j)+o[j].f0:=by rw[im q,ka]
    have hsn:gh (o.take (j+1))=gh (o.take j)+(if o[j].f1= -1∧o[j].f0=5 then 1 else 0):=by rw[im q,rQ]
    have w1:wr (a+gh (o.take j)+1)=a+gh (o.take j)+1:=b6 (by omega);have wj:=aN (show j<4611686018427387904 by omega);have hcc:left-eE (o.take j)-o[j].f0=left-eE (o.take (j+1)):=by omega
    rw[hcc]at esp
    by_cases qn:o[j].f1= -1
    ·have hmw:cI m (o.take (j+1))=cI m (o.take j):=by rw[hnext];unfold mw;rw[if_pos qn]
     by_cases q5:o[j].f0=5
     ·have hs1:a+gh (o.take j)+1=a+gh (o.take (j+1)):=by rw[hsn,if_pos ⟨qn,q5⟩];omega
      rw[hmw,←hs1];simp only[ba.tree,Tr.ag,Tr.an,Tr.aj,Tr.bE,Tr.ak,Tr.al,bk q,bB q,aX q,and_self,decide_true,↓reduceIte,aY.told,esp,ai,Bool.not_true,Bool.false_eq_true,aP.told,aP.f,aP.begin,decide_eq_true qn,decide_eq_true q5,w1,wj]
     ·have hs1:gh (o.take (j+1))=gh (o.take j):=by rw[hsn,if_neg (by omega)];omega
      rw[hmw,hs1];simp only[ba.tree,Tr.ag,Tr.an,Tr.aj,Tr.bE,Tr.ak,Tr.al,bk q,bB q,aX q,and_self,decide_true,↓reduceIte,aY.told,esp,ai,Bool.not_true,Bool.false_eq_true,aP.told,aP.f,aP.begin,decide_eq_true qn,decide_eq_false q5,w1,wj]
    ·have hmw:cI m (o.take (j+1))=(cI m (o.take j)).set o[j].f1.toNat o[j].f2:=by rw[hnext];unfold mw;rw[if_neg qn]
     have n1:(0:Int)≤o[j].f1∧o[j].f1<((cI m (o.take j)).length:Int):=by omega
     have hs1:gh (o.take (j+1))=gh (o.take j):=by rw[hsn,if_neg (by omega)];omega
     rw[hmw,hs1];simp only[ba.tree,Tr.ag,Tr.an,Tr.aj,Tr.bE,Tr.ak,Tr.al,bk q,bB q,aX q,and_self,decide_true,↓reduceIte,aY.told,esp,ai,Bool.not_true,Bool.not_false,Bool.false_eq_true,aP.told,aP.f,aP.begin,decide_eq_false qn,n1,w1,wj]
 have:=key k 0 (by omega);have hz1:gh ([]:List aM)=0:=rfl;have hz2:eE ([]:List aM)=0:=rfl;have hz3:cI m []=m:=rfl;simp only[List.take_zero,hz1,hz2,hz3,Int.add_zero,Int.sub_zero]at this;exact this
theorem tr (x:Int) (h0:0≤x) (h1:x<4294967296):o4 .i64 x 4294967295=x:=by
 unfold o4
 have h:(BitVec.ofInt (IntKind.bits .i64) x&&& BitVec.ofInt (IntKind.bits .i64) 4294967295).toNat=x.toNat:=by
  rw[BitVec.toNat_and]
  have e1:(BitVec.ofInt (IntKind.bits .i64) x).toNat=x.toNat:=by
   rw[BitVec.toNat_ofInt,Int.emod_eq_of_lt h0];exact Int.lt_trans h1 (by decide)
  have e2:(BitVec.ofInt (IntKind.bits .i64) 4294967295).toNat=2 ^ 32-1:=by decide
  rw[e1,e2,Nat.and_two_pow_sub_one_eq_mod];exact Nat.mod_eq_of_lt (by omega)
 rw[h,b6 (by omega)];omega
theorem tc (x:Int) (h0:0≤x) (h1:x<4294967296):shiftDown .i64 x 32=0:=by
 unfold shiftDown;have e:(2:Int) ^ (min (Int.toNat 32) (IntKind.bits .i64))=4294967296:=by decide
 rw[e,Int.fdiv_eq_ediv_of_nonneg x (by omega)];exact Int.ediv_eq_zero_of_lt h0 h1
theorem tf {o:List aM} (h:∀x∈o,ow x):∀(j:Nat),eE (o.take j)≤5*(j:Int)
 | 0=>by unfold eE;simp
 | j+1=>by
   have ih:=tf h j
   by_cases q:j<o.length
   ·rw[im q,ka];have:=(h o[j] (List.getElem_mem q)).1.2;omega
   ·rw[List.take_of_length_le (by omega)];rw[List.take_of_length_le (by omega)]at ih;omega
theorem pR (o:List aM) (u:List Int) (left:Int) (ho:∀x∈o,ow x) (hol:o.length≤20000) (h0:0≤left∧left≤1000000000):cc.f o u left=some (ob o left:Int):=by
 simp only[cc.f,cc.begin,Tr.ak];have hcb:=pQ o left;have hcs:=um o left;have hcl:=xu o left;generalize ob o left=k at hcb hcs hcl;have q0:decide (left≥0)=true:=decide_eq_true h0.1;have n32:(0:Int)≤32:=by omega
 have zz:wr ((0:Int)+0)=0:=b6 (by omega);have hl32:=tr left h0.1 (by omega);have hd32:=tc left h0.1 (by omega)
 have key:∀(n j:Nat),j+n=k→lp cc.tree (.c4 left o u (j:Int) (eE (o.take j)) 0)=some (k:Int):=by
  intro n
  induction n with
  | zero=>
    intro j hj;obtain rfl:j=k:=by omega
    rw[aF]
    by_cases q:j<o.length
    ·have hc0:=mj ho j;have hc5:=tf ho j;have hx:=(ho o[j] (List.getElem_mem q)).1;have hs:=hcs q;have w1:wr (eE (o.take j)+o[j].f0)=eE (o.take j)+o[j].f0:=b6 (by omega);have b1:=tr o[j].f0 hx.1 (by omega);have d1:=tc o[j].f0 hx.1 (by omega);have b2:=tr (eE (o.take j)+o[j].f0) (by omega) (by omega);have d2:=tc (eE (o.take j)+o[j].f0) (by omega) (by omega);have v3:decide ((0:Int)>0)=false:=rfl;have v4:decide ((0:Int)=0)=true:=rfl;have v5:decide (eE (o.take j)+o[j].f0>left)=true:=decide_eq_true hs;simp only[cc.tree,Tr.ag,Tr.an,Tr.gT,Tr.al,bk q,bB q,aX q,q0,n32,and_self,decide_true,↓reduceIte,b1,d1,w1,b2,d2,zz,hl32,hd32,v3,v4,v5,Bool.false_eq_true]
    ·have e:j=o.length:=by omega
     simp only[cc.tree,Tr.ag,Tr.al,e,cP,Bool.false_eq_true,↓reduceIte]
  | succ n ih=>
    intro j hj;obtain⟨q,hbear⟩:=hcb j (by omega);have hc0:=mj ho j;have hc5:=tf ho j;have hx:=(ho o[j] (List.getElem_mem q)).1;have w1:wr (eE (o.take j)+o[j].f0)=eE (o.take j)+o[j].f0:=b6 (by omega);have b1:=tr o[j].f0 hx.1 (by omega);have d1:=tc o[j].f0 hx.1 (by omega);have b2:=tr (eE (o.take j)+o[j].f0) (by omega) (by omega);have d2:=tc (eE (o.take j)+o[j].f0) (by omega) (by omega);have v3:decide ((0:Int)>0)=false:=rfl;have v4:decide ((0:Int)=0)=true:=rfl;have v5:decide (eE (o.take j)+o[j].f0>left)=false:=decide_eq_false (by omega);rw[←ih (j+1) (by omega),aF,show eE (o.take (j+1))=eE (o.take j)+o[j].f0 by rw[im q,ka]];simp only[cc.tree,Tr.ag,Tr.an,Tr.gT,Tr.ak,bk q,bB q,aX q,q0,n32,and_self,decide_true,↓reduceIte,b1,d1,w1,b2,d2,zz,hl32,hd32,v3,v4,v5,Bool.false_eq_true,aN (show j<4611686018427387904 by omega)]
 have:=key k 0 (by omega);have hz:eE ([]:List aM)=0:=rfl;simp only[List.take_zero,hz]at this;exact this
theorem qX (o:List aM) (u:List Int) (k:Nat) (hk:k≤o.length) (hol:o.length≤20000):cq.f o u (k:Int)=some (gh (o.take k)):=by
 simp only[cq.f,cq.begin,Tr.ak]
 have key:∀(n j:Nat),j+n=k→lp cq.tree (.c3 (k:Int) o u (gh (o.take j)) (j:Int))=some (gh (o.take k)):=by
  intro n
  induction n with
  | zero=>
    intro j hj;obtain rfl:j=k:=by omega
    rw[aF];simp only[cq.tree,Tr.ag,Tr.al,cP,Bool.false_eq_true,↓reduceIte]
  | succ n ih=>
    intro j hj;have q:j<o.length:=by omega
    have qk:j<k:=by omega
    have hse:=pd (o.take j);rw[List.length_take]at hse;have w1:wr (gh (o.take j)+1)=gh (o.take j)+1:=b6 (by omega);rw[←ih (j+1) (by omega),aF,show gh (o.take (j+1))=gh (o.take j)+(if o[j].f1= -1∧o[j].f0=5 then 1 else 0) by rw[im q,rQ]]
    by_cases qn:o[j].f1= -1
    ·by_cases q5:o[j].f0=5
     ·rw[if_pos ⟨qn,q5⟩];simp only[cq.tree,Tr.ag,Tr.an,Tr.ak,bk qk,bB q,aX q,and_self,decide_true,↓reduceIte,decide_eq_true qn,decide_eq_true q5,w1,aN (show j<4611686018427387904 by omega)]
     ·rw[if_neg (by omega),Int.add_zero];simp only[cq.tree,Tr.ag,Tr.an,Tr.ak,bk qk,bB q,aX q,and_self,decide_true,↓reduceIte,decide_eq_true qn,decide_eq_false q5,Bool.false_eq_true,aN (show j<4611686018427387904 by omega)]
    ·rw[if_neg (by omega),Int.add_zero];simp only[cq.tree,Tr.ag,Tr.an,Tr.ak,bk qk,bB q,aX q,and_self,decide_true,↓reduceIte,decide_eq_false qn,Bool.false_eq_true,aN (show j<4611686018427387904 by omega)]
 have:=key k 0 (by omega);have hz:gh ([]:List aM)=0:=rfl;simp only[List.take_zero,hz]at this;exact this
theorem tT {p:List az} {m:List Int} (rd:List Int) (a:Int) (us:List (List Int)) (left:Int) {o:List aM} {u:List Int} (ho:B5 p.length m o u) (h0:0≤left∧left≤1000000000):
 lp bA.tree (.rY rd p [] 0 [] 0 m a us left (ob o left:Int) o u 0)=lp bA.tree (.rY rd p [] 0 [] 0 (cI m (o.take (ob o left))) a us (left-eE (o.take (ob o left))) (ob o left:Int) o u (ob o left:Int)):=by
 have holen:=ho.ma;have hm49:∀k,(cI m (o.take k)).length=49:=fun k=>(gX (ho.safe.2 k).1).1;have hcb:=pQ o left;generalize ob o left=k at hcb
 have key:∀(n j:Nat),j+n=k→lp bA.tree (.rY rd p [] 0 [] 0 (cI m (o.take j)) a us (left-eE (o.take j)) (k:Int) o u (j:Int))=lp bA.tree (.rY rd p [] 0 [] 0 (cI m (o.take k)) a us (left-eE (o.take k)) (k:Int) o u (k:Int)):=by
  intro n
  induction n with
  | zero=>
    intro j hj;obtain rfl:j=k:=by omega
    rfl
  | succ n ih=>
    intro j hj;obtain⟨q,hbear⟩:=hcb j (by omega);have qk:j<k:=by omega
    obtain⟨⟨k0,k1⟩,k2,k3⟩:=ho.safe.1 o[j] (List.getElem_mem q);have hc0:=mj ho.safe.1 j;have e49:=hm49 j;have hnext:cI m (o.take (j+1))=mw (cI m (o.take j)) o[j]:=by rw[im q];exact iM m _ _
    have hcn:eE (o.take (j+1))=eE (o.take j)+o[j].f0:=by rw[im q,ka]
    have wl:wr (left-eE (o.take j)-o[j].f0)=left-eE (o.take (j+1)):=by
     have:wr (left-eE (o.take j)-o[j].f0)=left-eE (o.take j)-o[j].f0:=b6 (by omega);rw[this];omega
    have wj:=aN (show j<4611686018427387904 by omega);rw[←ih (j+1) (by omega),aF]
    by_cases qn:o[j].f1= -1
    ·have hmw:cI m (o.take (j+1))=cI m (o.take j):=by rw[hnext];unfold mw;rw[if_pos qn]
     rw[hmw];simp only[bA.tree,Tr.ag,Tr.an,Tr.bE,Tr.ak,bk qk,bB q,aX q,and_self,decide_true,↓reduceIte,decide_eq_true qn,Bool.not_true,Bool.false_eq_true,wl,wj]
    ·have hmw:cI m (o.take (j+1))=(cI m (o.take j)).set o[j].f1.toNat o[j].f2:=by rw[hnext];unfold mw;rw[if_neg qn]
     have n1:(0:Int)≤o[j].f1∧o[j].f1<((cI m (o.take j)).length:Int):=by omega
     rw[hmw];simp only[bA.tree,Tr.ag,Tr.an,Tr.bE,Tr.ak,bk qk,bB q,aX q,and_self,decide_true,↓reduceIte,decide_eq_false qn,Bool.not_false,n1,wl,wj]
 have:=key k 0 (by omega);have hz2:eE ([]:List aM)=0:=rfl;have hz3:cI m []=m:=rfl;simp only[List.take_zero,hz2,hz3,Int.sub_zero]at this;exact this
theorem Ac {p:List az} {m:List Int} (rd:List Int) (a left:Int) (hp:vt p=true) (hl:p.length≤6) (hs:∀t∈p,t.f0.length≤1048576) (hm:jz p.length m=true) (ha:0≤a∧a≤900000000) (h0:0≤left∧left≤10000000):
 ∃m' a' us left',fw.f p m rd a left=some (m',a',us,left')∧jn p.length m m'∧(0≤left'∧left'≤left)∧(a≤a'∧a'-a≤left-left')∧yV us∧bA.f p m rd a left=some (m',a',us,left'):=by
 have h49:=(gX hm).1;obtain⟨b,m1,left1,e1,g1,l1,c1⟩:=nA hm a [] left h0.1 (by omega);have e1':=e1.symm.trans (oE hm a [] left h0.1 (by omega));simp only[Option.some.injEq,Prod.mk.injEq]at e1';obtain⟨hb,hm1,_,_,hl1⟩:=e1';have hW9:=uO m
 have hK:(if left / 3<((kG m).length:Int)then left / 3 else((kG m).length:Int))=(nj m left:Int):=by
  unfold nj;split<;>omega
 have htd:wr (Int.tdiv left 3)=left / 3:=by rw[Int.tdiv_eq_ediv_of_nonneg h0.1];exact b6 (by omega)
 have w3:wr ((nj m left:Int)*3)=(nj m left:Int)*3:=b6 (by unfold nj;omega)
 have wl:wr (left-(nj m left:Int)*3)=left1:=by
  have:wr (left-(nj m left:Int)*3)=left-(nj m left:Int)*3:=b6 (by unfold nj;omega);rw[this,hl1];omega
 have ea:=o5 m (kG m) (nj m left) (by omega) (by omega);rw[←hm1]at ea;have n3:(3:Int)≠0:=by omega
 cases b with
 | false=>
   have hlt:(nj m left:Int)<((kG m).length:Int):=by
    have:=of_decide_eq_false hb.symm;unfold nj at this⊢;omega
   refine⟨m1,a,[],left1,?_,g1,l1,by omega,⟨by simp,by simp⟩,?_⟩
   ·simp only[fw.f,fw.begin,Tr.aj,Tr.ag,Tr.al,bc.told,gi m (by omega),aO.told,e1,ai,Bool.not_false,↓reduceIte]
   ·simp only[bA.f,bA.begin,Tr.aj,Tr.ag,Tr.an,Tr.gT,Tr.al,bd.told,j4,ai,n3,ne_eq,not_false_eq_true,↓reduceIte,htd,hK,bF.told,ea,decide_eq_true hlt,w3,wl]
 | true=>
   have hge:¬(nj m left:Int)<((kG m).length:Int):=by
    have:=of_decide_eq_true hb.symm;omega
   have key:∀(n:Nat) (s1:List Int) (s2:Int) (s3:List (List Int)) (s4:Int),s3.length+n=10→yV s3→Clean p.length s1→jn p.length m s1→(a≤s2∧s2-a≤left-s4)→(0≤s4∧s4≤left)→
    ∃m' a' us left',lp fw.tree (.c4 rd p [] 0 [] 0 s1 s2 s3 s4)=some (m',a',us,left')∧jn p.length m m'∧(0≤left'∧left'≤left)∧(a≤a'∧a'-a≤left-left')∧yV us∧lp bA.tree (.c8 rd p [] 0 [] 0 s1 s2 s3 s4)=some (m',a',us,left'):=by
    intro n
    induction n with
    | zero=>
      intro s1 s2 s3 s4 hn hU hC hG hA hL;have q':decide ((s3.length:Int)<10)=false:=decide_eq_false (by omega);refine⟨s1,s2,s3,s4,?_,hG,hL,hA,hU,?_⟩
      ·rw[aF];simp only[fw.tree,Tr.ag,Tr.al,q',Bool.false_eq_true,↓reduceIte]
      ·rw[aF];simp only[bA.tree,Tr.ag,Tr.al,q',Bool.false_eq_true,↓reduceIte]
    | succ n ih=>
      intro s1 s2 s3 s4 hn hU hC hG hA hL;have q':decide ((s3.length:Int)<10)=true:=decide_eq_true (by omega);obtain⟨o,u,eo,ho,es⟩:=tP rd s2 hp hl hs hC;obtain⟨b2,m2,a2,us2,left2,e2,g2,l2,A2,hf,ht⟩:=pK rd s2 s3 s4 hp hl hs hC (by omega) (by omega) (by omega);have e2':=e2.symm.trans (ra rd s2 s3 s4 eo ho (by omega) (by omega) (by omega));simp only[Option.some.injEq,Prod.mk.injEq]at e2';obtain⟨hb2,hm2,ha2,hus2,hl2⟩:=e2';have hol:=ho.ma;have hcl:=xu o s4;have ec:=pR o u s4 ho.safe.1 hol ⟨hL.1,by omega⟩;have eb:=tT rd s2 s3 s4 ho ⟨hL.1,by omega⟩;have esn:=qX o u (ob o s4) hcl hol
      have wa:wr (s2+gh (o.take (ob o s4)))=a2:=by
       rw[ha2];have:=pd (o.take (ob o s4));rw[List.length_take]at this;exact b6 (by omega)
      have espec:lp bA.tree (.c8 rd p [] 0 [] 0 s1 s2 s3 s4)=if(ob o s4:Int)<(o.length:Int)then some (m2,a2,s3,left2)else lp bA.tree (.c8 rd p [] 0 [] 0 m2 a2 (s3++[u]) left2):=by
       rw[aF];simp only[bA.tree,Tr.ag,Tr.aj,Tr.ak,q',↓reduceIte,dW.told,es,cc.told,ec,ai];rw[eb,←hm2,←hl2,aF];simp only[bA.tree,Tr.ag,Tr.bE,Tr.aj,Tr.an,Tr.al,Tr.ak,cP,Bool.false_eq_true,↓reduceIte,cq.told,esn,ai,wa,gp s3 u 1048576 (by omega) (by omega) 24 (by omega),decide_eq_true_eq]
      cases b2 with
      | false=>
        have hlt:(ob o s4:Int)<(o.length:Int):=by
         have:=of_decide_eq_false hb2.symm;omega
        refine⟨m2,a2,us2,left2,?_,hG.trans g2,by omega,by omega,by rw[hf rfl];exact hU,?_⟩
        ·rw[aF];simp only[fw.tree,Tr.ag,Tr.aj,Tr.al,q',↓reduceIte,ba.told,e2,ai,Bool.false_eq_true]
        ·rw[espec,if_pos hlt,hf rfl]
      | true=>
        have heq:=of_decide_eq_true hb2.symm;rw[if_pos heq]at hus2;obtain⟨hC2,u',hus,hul,huv⟩:=ht rfl
        obtain⟨m',a',us',left',r1,r2,r3,r4,r5,r6⟩:=ih m2 a2 us2 left2 (by rw[hus2,List.length_append,List.length_singleton];omega) ⟨by rw[hus2,List.length_append,List.length_singleton];omega,fun v hv=>by
         rw[hus]at hv;rcases List.mem_append.mp hv with hv | hv
         ·exact hU.2 v hv
         ·rw[List.mem_singleton]at hv;rw[hv];exact⟨hul,huv⟩⟩ hC2 (hG.trans g2) (by omega) (by omega)
        refine⟨m',a',us',left',?_,r2,r3,r4,r5,?_⟩
        ·rw[aF];simp only[fw.tree,Tr.ag,Tr.aj,Tr.ak,q',↓reduceIte,ba.told,e2,ai];exact r1
        ·rw[espec,if_neg (by omega),←hus2];exact r6
   obtain⟨m',a',us',left',r1,r2,r3,r4,r5,r6⟩:=key 10 m1 a [] left1 rfl ⟨by simp,by simp⟩ (c1 rfl) g1 (by omega) l1;refine⟨m',a',us',left',?_,r2,r3,r4,r5,?_⟩
   ·simp only[fw.f,fw.begin,Tr.aj,Tr.ag,Tr.ak,bc.told,gi m (by omega),aO.told,e1,ai,Bool.not_true,Bool.false_eq_true,↓reduceIte];exact r1
   ·simp only[bA.f,bA.begin,Tr.aj,Tr.ag,Tr.an,Tr.gT,Tr.ak,bd.told,j4,ai,n3,ne_eq,not_false_eq_true,↓reduceIte,htd,hK,bF.told,ea,decide_eq_false hge,Bool.false_eq_true,w3,wl];exact r6
theorem yL (x b:Int) (hb:0≤b):∃c:Int,cN.f x 0 b=some c∧dq.f x 0 b=some c∧0≤c∧c≤b∧(c≤x∨c=0):=by
 obtain⟨c,e,h0,h1,h2⟩:=tu x b hb;refine⟨c,e,?_,h0,h1,h2⟩;have hb0:¬b<0:=by omega
 rw[←e]
 by_cases q1:x<0
 ·by_cases q2:b<0
  ·omega
  ·simp only[dq.f,dq.begin,cN.f,cN.begin,Tr.ag,Tr.al,decide_eq_true_eq,q1,q2,gt_iff_lt,↓reduceIte]
 ·by_cases q2:b<x
  ·simp only[dq.f,dq.begin,cN.f,cN.begin,Tr.ag,Tr.al,decide_eq_true_eq,q1,q2,hb0,gt_iff_lt,↓reduceIte]
  ·simp only[dq.f,dq.begin,cN.f,cN.begin,Tr.ag,Tr.al,decide_eq_true_eq,q1,q2,hb0,gt_iff_lt,↓reduceIte]
theorem vo (a b:Int) (h:jH a b=true):fD.f a b 1=some (fB a,fB b):=by
 obtain⟨h0,h1,h2⟩:=nv.mp h;have w1:wr (a+1)=a+1:=b6 (by omega);have w2:wr (b+1)=b+1:=b6 (by omega);have h11:gv 1 0 1000000=true:=rfl;simp only[fD.f,fD.begin,gn.told,gn.f,gn.begin,Tr.aj,Tr.ag,Tr.al,ff.told,oR,aH.told,du,h,h11,ai,Bool.not_true,Bool.false_eq_true,↓reduceIte,w1,w2,fB]
theorem Az {p:List az} {m r:List Int} {a3 a4 a5 a6 a7 a8 a9 a10:Int} {h:List Int} {a12:Int} (x:Int) (hn:lh p m r a3 a4 a5 a6 a7 a8 a9 a10 h a12=true) (hrr:r.length≤1048576) (hx:0≤x∧x≤1000):
 ∃m' b3 b4 b12,Dk p m a3 a4 a5 a6 a7 a8 a9 a12 m' b3 b4 (fB a8) (fB a9) b12∧(b12=a12∨a6≤a4+x)∧
  lh p m' r b3 b4 a5 a6 a7 (fB a8) (fB a9) a10 h b12=(gv b3 0 400000&&gv b12 0 100000)∧
  bM.f p m r a3 a4 a5 a6 a7 a8 a9 a10 h a12 x=some (if(gv b3 0 400000&&gv b12 0 100000)=true then(p,m',r,b3,b4,a5,a6,a7,fB a8,fB a9,a10,h,b12,true)else(p,m,r,a3,a4,a5,a6,a7,a8,a9,a10,h,a12,false))∧
  cz.f p m r a3 a4 a5 a6 a7 a8 a9 a10 h a12 x=some (if(gv b3 0 400000&&gv b12 0 100000)=true then(p,m',r,b3,b4,a5,a6,a7,fB a8,fB a9,a10,h,b12,true)else(p,m,r,a3,a4,a5,a6,a7,a8,a9,a10,h,a12,false)):=by
 obtain⟨hp,hm,hst,hr,ha3,hsp,hlk,ha12⟩:=r9.mp hn;obtain⟨p6,p1,hs⟩:=Am hp;obtain⟨s1,s2,s3,s4⟩:=mV.mp hst;have hm49:=(gX hm).1;have hml:m.length≤1048576:=by omega
 have hhl:h.length≤1048576:=Nat.le_trans hlk.2.length_le (pk m _ hml);have w1:wr (a4+x)=a4+x:=b6 (by omega);have w2:wr (a4+x-a7)=a4+x-a7:=b6 (by omega);obtain⟨c,ec,esc,c0,c1,c2⟩:=yL (a4+x-a7) a5 (by omega);have hxx:gv x 0 1000=true:=by rw[ca];omega
 have hi:cl.f x=some true:=by
  simp only[cl.f,cl.begin,Tr.aj,Tr.al,aK.told,dd,hxx,ai]
 have hnode:∀(m':List Int) (b3 b4 b12:Int),jn p.length m m'→(a3≤b3)→iH b4 a5 a6 a7=true→a12≤b12→lh p m' r b3 b4 a5 a6 a7 (fB a8) (fB a9) a10 h b12=(gv b3 0 400000&&gv b12 0 100000):=by
  intro m' b3 b4 b12 hG h3 hst' h12;rw[Bool.eq_iff_iff,r9,Bool.and_eq_true,ca,ca];exact⟨fun⟨_,_,_,_,q5,_,_,q8⟩=>⟨q5,q8⟩,fun⟨q5,q8⟩=>⟨hp,hG.1,hst',hr,q5,u6 hsp,⟨hlk.1,hlk.2.trans hG.2⟩,q8⟩⟩
 have e1:=ng p m r a3 a4 a5 a6 a7 a8 a9 a10 h a12 (by omega) hs hml hrr hhl;have s1':=nw p m r a3 a4 a5 a6 a7 a8 a9 a10 h a12 (by omega) hs hml hrr hhl;have e2:=lS p m r a3 a4 a5 a6 a7 a8 a9 a10 h a12 (by omega) hs hml hrr hhl;have s2':=l3 p m r a3 a4 a5 a6 a7 a8 a9 a10 h a12 (by omega) hs hml hrr hhl;rw[hn]at e2 s2'
 have fin':∀(m':List Int) (b3 b4 b12:Int) (y0:List az) (y1 y2:List Int) (y3 y4 y5 y6 y7 y8 y9 y10:Int) (y11:List Int) (y12:Int),jn p.length m m'→(a3≤b3)→iH b4 a5 a6 a7=true→a12≤b12→
  lp bM.tree (.c9 p m r a3 a4 a5 a6 a7 a8 a9 a10 h a12 y0 y1 y2 y3 y4 y5 y6 y7 y8 y9 y10 y11 y12 p m' r b3 b4 a5 a6 a7 (fB a8) (fB a9) a10 h b12)=some (if(gv b3 0 400000&&gv b12 0 100000)=true then(p,m',r,b3,b4,a5,a6,a7,fB a8,fB a9,a10,h,b12,true)else(p,m,r,a3,a4,a5,a6,a7,a8,a9,a10,h,a12,false)):=by
  intro m' b3 b4 b12 y0 y1 y2 y3 y4 y5 y6 y7 y8 y9 y10 y11 y12 hG h3 hst' h12;have e3:=lS p m' r b3 b4 a5 a6 a7 (fB a8) (fB a9) a10 h b12 (by omega) hs (by have:=(gX hG.1).1;omega) hrr hhl;rw[hnode m' b3 b4 b12 hG h3 hst' h12]at e3;rw[aF];simp only[bM.tree,Tr.aj,Tr.ag,Tr.al,dS.told,e3,ai,cE.told,e1];cases(gv b3 0 400000&&gv b12 0 100000)<;>rfl
 have fins:∀(m':List Int) (b3 b4 b12:Int),jn p.length m m'→(a3≤b3)→iH b4 a5 a6 a7=true→a12≤b12→eB.f p m r a3 a4 a5 a6 a7 a8 a9 a10 h a12 x=some (p,m',r,b3,b4,a5,a6,a7,fB a8,fB a9,a10,h,b12)→
  cz.f p m r a3 a4 a5 a6 a7 a8 a9 a10 h a12 x=some (if(gv b3 0 400000&&gv b12 0 100000)=true then(p,m',r,b3,b4,a5,a6,a7,fB a8,fB a9,a10,h,b12,true)else(p,m,r,a3,a4,a5,a6,a7,a8,a9,a10,h,a12,false)):=by
  intro m' b3 b4 b12 hG h3 hst' h12 ht;have e3:=l3 p m' r b3 b4 a5 a6 a7 (fB a8) (fB a9) a10 h b12 (by omega) hs (by have:=(gX hG.1).1;omega) hrr hhl;rw[hnode m' b3 b4 b12 hG h3 hst' h12]at e3;simp only[cz.f,cz.begin,Tr.aj,Tr.ag,Tr.al,eP.told,s2',aH.told,du,hxx,ai,Bool.not_true,Bool.false_eq_true,↓reduceIte,eB.told,ht,e3,cG.told,s1'];cases(gv b3 0 400000&&gv b12 0 100000)<;>rfl
 have est:cX.f x p m r a3 a4 a5 a6 a7 a8 a9 a10 h a12=some (p,m,r,a3,c,a5,a6,a7,a8,a9,a10,h,a12):=by
  simp only[cX.f,cX.begin,Tr.bE,Tr.aj,Tr.al,w1,w2,cN.told,ec,ai]
 have est':eX.f a4 a5 a6 a7 x=some (c,a5,a6,a7):=by
  simp only[eX.f,eX.begin,Tr.aj,Tr.al,w1,w2,dq.told,esc,ai]
 have epn:=vA a8 a9 hsp;have spn:=vo a8 a9 hsp
 by_cases hc:c≥a6
 ·obtain⟨m',b3,us,left',eb,gb,lb,ab,ub,sb⟩:=Ac (m:=m) r a3 c hp (by omega) hs hm (by omega) (by omega);have hst':iH 0 a5 a6 a7=true:=mV.mpr ⟨s1,by omega,s3,s4⟩;have hul:=ub.1;have w3:wr (a12+(us.length:Int))=a12+(us.length:Int):=b6 (by omega);refine⟨m',b3,0,a12+(us.length:Int),⟨gb,by omega,hst',rfl,rfl,by omega⟩,Or.inr (by omega),hnode _ _ _ _ gb (by omega) hst' (by omega),?_,fins m' b3 0 _ gb (by omega) hst' (by omega) ?_⟩
  ·simp only[bM.f,bM.begin,Tr.aj,Tr.ag,Tr.iu,Tr.bE,Tr.ak,Tr.al,cE.told,e1,dS.told,e2,cl.told,hi,cX.told,est,fz.told,epn,ai,Bool.not_true,Bool.false_eq_true,↓reduceIte,decide_eq_true hc,fw.told,eb,w3,fy,decide_true];exact fin' m' b3 0 (a12+(us.length:Int)) _ _ _ _ _ _ _ _ _ _ _ _ _ gb (by omega) hst' (by omega)
  ·simp only[eB.f,eB.begin,Tr.aj,Tr.ag,Tr.al,cG.told,s1',eX.told,est',fD.told,spn,ai,decide_eq_true hc,↓reduceIte,bA.told,sb,w3]
 ·have hst':iH c a5 a6 a7=true:=mV.mpr ⟨s1,by omega,s3,s4⟩;have g0:jn p.length m m:=⟨hm,List.prefix_rfl⟩;refine⟨m,a3,c,a12,⟨g0,by omega,hst',rfl,rfl,by omega⟩,Or.inl rfl,hnode _ _ _ _ g0 (by omega) hst' (by omega),?_,fins m a3 c a12 g0 (by omega) hst' (by omega) ?_⟩
  ·simp only[bM.f,bM.begin,Tr.aj,Tr.ag,Tr.iu,Tr.bE,Tr.ak,Tr.al,cE.told,e1,dS.told,e2,cl.told,hi,cX.told,est,fz.told,epn,ai,Bool.not_true,Bool.false_eq_true,↓reduceIte,decide_eq_false hc];exact fin' m a3 c a12 _ _ _ _ _ _ _ _ _ _ _ _ _ g0 (by omega) hst' (by omega)
  ·simp only[eB.f,eB.begin,Tr.aj,Tr.ag,Tr.al,cG.told,s1',eX.told,est',fD.told,spn,ai,decide_eq_false hc,Bool.false_eq_true,↓reduceIte]
theorem wK (p:List az) (m r:List Int) (a3 a4 a5 a6 a7 a8 a9 a10:Int) (h:List Int) (a12 x:Int) (hp:p.length≤1048576) (hs:∀t∈p,t.f0.length≤1048576) (hm:m.length≤1048576) (hr:r.length≤1048576) (hh:h.length≤1048576):
 ∃m' b3 b4 b8 b9 b12 ok,bM.f p m r a3 a4 a5 a6 a7 a8 a9 a10 h a12 x=some (p,m',r,b3,b4,a5,a6,a7,b8,b9,a10,h,b12,ok)∧cz.f p m r a3 a4 a5 a6 a7 a8 a9 a10 h a12 x=some (p,m',r,b3,b4,a5,a6,a7,b8,b9,a10,h,b12,ok)∧m'.length≤1048576∧(ok=true→lh p m' r b3 b4 a5 a6 a7 b8 b9 a10 h b12=true)∧(ok=false→(m',b3,b4,b8,b9,b12)=(m,a3,a4,a8,a9,a12)):=by
 have e1:=ng p m r a3 a4 a5 a6 a7 a8 a9 a10 h a12 hp hs hm hr hh;have s1:=nw p m r a3 a4 a5 a6 a7 a8 a9 a10 h a12 hp hs hm hr hh;have e2:=lS p m r a3 a4 a5 a6 a7 a8 a9 a10 h a12 hp hs hm hr hh;have s2:=l3 p m r a3 a4 a5 a6 a7 a8 a9 a10 h a12 hp hs hm hr hh;cases hn:lh p m r a3 a4 a5 a6 a7 a8 a9 a10 h a12 with
 | false=>
   rw[hn]at e2 s2;refine⟨m,a3,a4,a8,a9,a12,false,?_,?_,hm,(fun h=>by cases h),fun _=>rfl⟩
   ·simp only[bM.f,bM.begin,Tr.aj,Tr.ag,Tr.al,cE.told,e1,dS.told,e2,ai,Bool.not_false,↓reduceIte]
   ·simp only[cz.f,cz.begin,Tr.aj,Tr.ag,Tr.al,eP.told,s2,ai,Bool.not_false,↓reduceIte,cG.told,s1]
 | true=>
   cases hx:gv x 0 1000 with
   | false=>
     rw[hn]at e2 s2
     have hi:cl.f x=some false:=by
      simp only[cl.f,cl.begin,Tr.aj,Tr.al,aK.told,dd,hx,ai]
     refine⟨m,a3,a4,a8,a9,a12,false,?_,?_,hm,(fun h=>by cases h),fun _=>rfl⟩
     ·simp only[bM.f,bM.begin,Tr.aj,Tr.ag,Tr.al,cE.told,e1,dS.told,e2,cl.told,hi,ai,Bool.not_true,Bool.not_false,Bool.false_eq_true,↓reduceIte]
     ·simp only[cz.f,cz.begin,Tr.aj,Tr.ag,Tr.al,eP.told,s2,aH.told,du,hx,ai,Bool.not_true,Bool.not_false,Bool.false_eq_true,↓reduceIte,cG.told,s1]
   | true=>
     obtain⟨m',b3,b4,b12,hT,_,hN,ei,es⟩:=Az x hn hr (ca.mp hx);have h49:=(gX hT.gR.1).1;cases hok:(gv b3 0 400000&&gv b12 0 100000)with
     | true=>
       rw[hok]at hN ei es;exact⟨m',b3,b4,fB a8,fB a9,b12,true,ei,es,by omega,fun _=>hN,fun h=>by cases h⟩
     | false=>
       rw[hok]at ei es;exact⟨m,a3,a4,a8,a9,a12,false,ei,es,hm,(fun h=>by cases h),fun _=>rfl⟩
theorem FnExactTickNode:bC.Pure:=by
 intro p m r a3 a4 a5 a6 a7 a8 a9 a10 h a12 x hg _;have hp0:p.length≤9223372036854775807:=hg.1.1;have hs0:∀t∈p,t.f0.length≤9223372036854775807:=fun t ht=>(hg.1.2 t ht).1.1;have hm0:m.length≤9223372036854775807:=hg.2.1.1;have hr0:r.length≤9223372036854775807:=hg.2.2.1.1;have hh0:h.length≤9223372036854775807:=hg.2.2.2.2.2.2.1.2.1;simp only[bC.f,bC.begin,Tr.ag,Tr.aj,Tr.al,Tr.bE,fS.told,vQ p m r a3 a4 a5 a6 a7 a8 a9 a10 h a12 1048576 hp0 hs0 hm0 hr0 hh0 (by omega) (by omega),ai,decide_eq_true_eq]
 by_cases q4:¬(jv p m r h:Int)≤1048576
 ·simp only[q4,↓reduceIte];rfl
 have q3:(jv p m r h:Int)≤1048576:=by omega
 have q3':¬((1048576:Int)-(jv p m r h:Int)<0):=by omega
 obtain⟨b1,b2,b3,b4,b5,p1,p2,p3⟩:=zh p m r h (by omega);have e1:=vJ p m r a3 a4 a5 a6 a7 a8 a9 a10 h a12 b1 b2 b3 b4 b5;obtain⟨w1,w3,w4,w8,w9,w12,ok,e2,e3,s4,_,_⟩:=wK (p.map np) m r a3 a4 a5 a6 a7 a8 a9 a10 h a12 x p1 p2 b3 b4 b5;have e4:=oV (p.map np) m r a3 a4 a5 a6 a7 a8 a9 a10 h a12 p1 p2 b3 b4 b5;have e5:=ni a3 a4 a5 a6 a7 a8 a9 a10 a12 (p.map np) m r h p1 p3 b3 b4 b5;have m7:¬(1+(wt (p.map np):Int)+m.length+r.length+h.length<0):=by omega
 have e9:=oV (p.map np) w1 r w3 w4 a5 a6 a7 w8 w9 a10 h w12 p1 p2 s4 b4 b5;have m5:=ni w3 w4 a5 a6 a7 w8 w9 a10 w12 (p.map np) w1 r h p1 p3 s4 b4 b5;have m6:=sG w3 w4 a5 a6 a7 w8 w9 a10 w12 (p.map np) w1 r h p1 p3 s4 b4 b5;have m8:¬(1+(wt (p.map np):Int)+w1.length+r.length+h.length<0):=by omega
 have hb:(ok !=ok)=false:=by cases ok<;>rfl
 simp only[q3,q3',↓reduceIte,eQ.told,e1,cz.told,e3,bM.told,e2,eO.told,e9,e4,ef.told,e5,m5,ek.told,m6,ai,m7,m8,hb,Bool.not_true,Bool.false_eq_true,decide_true]
end Go.Proofs.YtmapddgocpkgeaaGreat.Pure
