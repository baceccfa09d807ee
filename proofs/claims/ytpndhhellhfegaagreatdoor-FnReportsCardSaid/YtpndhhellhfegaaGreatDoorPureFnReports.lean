/- The plain law of FnReports. No conditions. -/
import Derived.Test.YtpndhhellhfegaaGreatDoorEvLFnReports
import Derived.Test.YtpndhhellhfegaaGreatDoorLibP
import Derived.Lib.ItoaLen
import Derived.Test.YtpndhhellhfegaaGreatDoorGhost
namespace Go.Proofs.YtpndhhellhfegaaGreatDoor.Pure
open Go.RowKit Go.Proofs.YtpndhhellhfegaaGreatDoor.aa Go.Proofs.YtpndhhellhfegaaGreatDoor.Ev
set_option linter.unusedVariables false
set_option linter.unusedSimpArgs false
set_option maxRecDepth 20000
def fF (x a b:Int):Bool:=decide (x≥a)&&decide (x≤b)
theorem dk (x a b:Int):aC.f x a b=some (fF x a b):=by
 simp only[aC.f,aC.begin,Tr.af,Tr.ak,fF];cases decide (x≥a)<;>simp
theorem cV (x a b:Int):aG.f x a b=some (fF x a b):=by
 simp only[aG.f,aG.begin,Tr.af,Tr.ak,fF];cases decide (x≥a)<;>simp
def pM (a b c:Int):Bool:=fF a 1 7&&(fF b (-8) 999&&fF c (-8) 999)
theorem gO (a b c:Int):cb.f a b c=some (pM a b c):=by
 simp only[cb.f,cb.begin,Tr.ag,Tr.af,Tr.ak,aC.told,dk,dw.told,dw.f,dw.begin,ae,pM];cases fF a 1 7<;>cases fF b (-8) 999<;>rfl
theorem iD (a b c:Int):cH.f a b c=some (pM a b c):=by
 simp only[cH.f,cH.begin,Tr.ag,Tr.af,Tr.ak,aG.told,cV,dz.told,dz.f,dz.begin,ae,pM];cases fF a 1 7<;>cases fF b (-8) 999<;>rfl
def jO (x0 x1 x2 x3 x4 x5:Int):Bool:=
 if x0=1 then decide (x2=0)&&(fF x1 0 7&&pM x3 x4 x5)
 else if x0=2 then(decide (x3=0)&&(decide (x4=0)&&decide (x5=0)))&&(fF x1 0 7&&fF x2 0 3)
 else if x0=3∨x0=4 then decide (x1=0)&&(decide (x2=0)&&pM x3 x4 x5)
 else if x0=5 then decide (x1=0)&&((decide (x3=0)&&(decide (x4=0)&&decide (x5=0)))&&fF x2 1 5)
 else if x0=6 then decide (x1=0)&&(decide (x2=0)&&(decide (x3=0)&&(decide (x4=0)&&decide (x5=0))))
 else false
theorem CZ (a b c d e f g h i j k l:Int):lp dW.tree (.Da a b c d e f g h i j k l)=some (g,h,i,j,k,l):=by
 rw[aA];rfl
theorem wK (x0 x1 x2 x3 x4 x5:Int):fD.f x0 x1 x2 x3 x4 x5=some (jO x0 x1 x2 x3 x4 x5):=by
 unfold jO;simp only[fD.f,fD.begin,dW.told,dW.f,dW.begin,Tr.ag,Tr.af,Tr.ak,Tr.aZ,Tr.fZ,Tr.ai,CZ,aC.told,dk,cb.told,gO,ae,decide_eq_true_eq]
 by_cases h1:x0=1
 ·simp only[h1,↓reduceIte,ae]
  by_cases h2:x2=0<;>cases fF x1 0 7<;>simp[h2]
 by_cases h2:x0=2
 ·simp only[h2,↓reduceIte,ae]
  by_cases g3:x3=0<;>by_cases g4:x4=0<;>by_cases g5:x5=0<;>cases fF x1 0 7<;>simp[g3,g4,g5]
 by_cases h3:x0=3
 ·simp only[h3,↓reduceIte,ae]
  by_cases g1:x1=0<;>by_cases g2:x2=0<;>simp[g1,g2]
 by_cases h4:x0=4
 ·simp only[h4,↓reduceIte,ae]
  by_cases g1:x1=0<;>by_cases g2:x2=0<;>simp[g1,g2]
 by_cases h5:x0=5
 ·simp only[h5,↓reduceIte,ae]
  by_cases g1:x1=0<;>by_cases g3:x3=0<;>by_cases g4:x4=0<;>by_cases g5:x5=0<;>simp[g1,g3,g4,g5]
 simp only[h1,h2,h3,h4,h5,↓reduceIte,ae,or_self]
 by_cases g1:x1=0<;>by_cases g2:x2=0<;>by_cases g3:x3=0<;>by_cases g4:x4=0<;>by_cases g5:x5=0<;>by_cases h6:x0=6<;>simp[g1,g2,g3,g4,g5,h6]
theorem wh (x0 x1 x2 x3 x4 x5:Int):lp dm.tree (.c5 x0 x1 x2 x3 x4 x5)=some (if x0=2 then fF x2 0 3 else if x0=5 then fF x2 1 5 else decide (x2=0)):=by
 rw[aA];simp only[dm.tree,Tr.ag,Tr.af,Tr.ak,bT.told,bT.f,bT.begin,aG.told,cV,ae,decide_eq_true_eq];split
 ·rfl
 ·split<;>rfl
theorem vI (x0 x1 x2 x3 x4 x5:Int):lp dm.tree (.c3 x0 x1 x2 x3 x4 x5)=some (if x0=1∨x0=3∨x0=4 then pM x3 x4 x5&&decide (x2=0)else(decide (x3=0)&&(decide (x4=0)&&decide (x5=0)))&&(if x0=2 then fF x2 0 3 else if x0=5 then fF x2 1 5 else decide (x2=0))):=by
 rw[aA];simp only[dm.tree,Tr.ag,Tr.af,Tr.ak,Tr.fZ,Tr.ai,cK.told,cK.f,cK.begin,cH.told,iD,wh,ae,decide_eq_true_eq]
 by_cases h1:x0=1
 ·cases hx:pM x3 x4 x5<;>simp[h1]
 by_cases h3:x0=3
 ·cases hx:pM x3 x4 x5<;>simp[h3]
 by_cases h4:x0=4
 ·cases hx:pM x3 x4 x5<;>simp[h4]
 by_cases g3:x3=0<;>by_cases g4:x4=0<;>by_cases g5:x5=0<;>simp[h1,h3,h4,g3,g4,g5]
theorem qh (x0 x1 x2 x3 x4 x5:Int):dm.f x0 x1 x2 x3 x4 x5=some (jO x0 x1 x2 x3 x4 x5):=by
 unfold jO;simp only[dm.f,dm.begin,Tr.ag,Tr.af,Tr.ak,Tr.fZ,Tr.ai,bU.told,bU.f,bU.begin,dG.told,dG.f,dG.begin,aG.told,cV,vI,ae,decide_eq_true_eq]
 by_cases h1:x0=1
 ·subst h1;rw[show fF 1 1 6=true from rfl];cases fF x1 0 7<;>cases pM x3 x4 x5<;>simp
 by_cases h2:x0=2
 ·subst h2;rw[show fF 2 1 6=true from rfl];cases fF x1 0 7<;>simp
 by_cases h3:x0=3
 ·subst h3;rw[show fF 3 1 6=true from rfl]
  by_cases g1:x1=0<;>cases pM x3 x4 x5<;>simp[g1]
 by_cases h4:x0=4
 ·subst h4;rw[show fF 4 1 6=true from rfl]
  by_cases g1:x1=0<;>cases pM x3 x4 x5<;>simp[g1]
 by_cases h5:x0=5
 ·subst h5;rw[show fF 5 1 6=true from rfl]
  by_cases g1:x1=0<;>simp[g1]
 by_cases h6:x0=6
 ·subst h6;rw[show fF 6 1 6=true from rfl]
  by_cases g1:x1=0<;>by_cases g2:x2=0<;>simp[g1,g2]
 ·have hb:fF x0 1 6=false:=by
   unfold fF
   by_cases q:x0≥1
   ·rw[decide_eq_true q,decide_eq_false (by omega)];rfl
   ·rw[decide_eq_false q,Bool.false_and]
  simp[hb,h1,h2,h3,h4,h5,h6]
def dep (x0 d:Int):Int:=if x0=4∨x0=5 then d+1 else if x0=6 then d-1 else d
def okB (n:Nat):List aw→Int→Bool
 | [],d=>decide (d=0)&&decide ((n:Int)≤24)
 | s::l,d=>jO s.f0 s.f1 s.f2 s.f3.f0 s.f3.f1 s.f3.f2&&(fF (dep s.f0 d) 0 3&&okB n l (dep s.f0 d))
def xh (d:Int) (s:aw):Int ⊕ Bool:=if jO s.f0 s.f1 s.f2 s.f3.f0 s.f3.f1 s.f3.f2=true then(if fF (dep s.f0 d) 0 3=true then .inl (dep s.f0 d)else .inr false)else .inr false
theorem vT (n:Nat):∀(l:List aw) (d:Int),scan xh (fun d=>decide (d=0)&&decide ((n:Int)≤24)) l d=okB n l d
 | [],d=>rfl
 | s::l,d=>by
   unfold scan xh okB;cases jO s.f0 s.f1 s.f2 s.f3.f0 s.f3.f1 s.f3.f2
   ·rfl
   ·cases fF (dep s.f0 d) 0 3
    ·rfl
    ·exact vT n l _
theorem Co {x d:Int} (h0:0≤d) (h1:d≤3):wr (d+1)=d+1∧wr (d-1)=d-1∧wr (d+1-1)=d+1-1:=⟨bZ (by omega),bZ (by omega),bZ (by omega)⟩
theorem ba {x a b:Int}:fF x a b=true↔a≤x∧x≤b:=by simp[fF]
theorem ko (l:List aw) (hl:l.length≤1048576):bm.f l=some (okB l.length l 0):=by
 simp only[bm.f,bm.begin,Tr.ai];rw[←vT];refine xm l xh _ (fun _ d=>0≤d∧d≤3) (fun i d=>lp bm.tree (.c3 l d (i:Int))) 0 ⟨by omega,by omega⟩ (fun i h d hd=> ?_) (fun d hd=> ?_)
 ·obtain⟨w1,w2,w3⟩:=Co (x:=d) hd.1 hd.2;have w7:wr ((i:Int)+1)=((i+1:Nat):Int):=aH (by omega)
  have step:lp bm.tree (.c3 l d (i:Int))=if jO l[i].f0 l[i].f1 l[i].f2 l[i].f3.f0 l[i].f3.f1 l[i].f3.f2=true then(if fF (dep l[i].f0 d) 0 3=true then lp bm.tree (.c3 l (dep l[i].f0 d) ((i+1:Nat):Int))else some false)else some false:=by
   rw[aA];simp only[bm.tree,Tr.af,Tr.al,Tr.ag,Tr.ak,Tr.ai,fD.told,wK,aC.told,dk,aP h,aX h,bJ h,and_self,decide_true,↓reduceIte,ae,w1,w2,w7];cases jO l[i].f0 l[i].f1 l[i].f2 l[i].f3.f0 l[i].f3.f1 l[i].f3.f2
   ·rfl
   ·unfold dep
    by_cases h4:l[i].f0=4
    ·cases hb:fF (d+1) 0 3<;>simp[h4,hb]
    ·by_cases h5:l[i].f0=5
     ·cases hb:fF (d+1) 0 3<;>simp[h4,h5,hb]
     ·by_cases h6:l[i].f0=6
      ·cases hb:fF (d-1) 0 3<;>simp[h4,h5,h6,hb]
      ·cases hb:fF d 0 3<;>simp[h4,h5,h6,hb]
  rw[step];unfold xh;cases jO l[i].f0 l[i].f1 l[i].f2 l[i].f3.f0 l[i].f3.f1 l[i].f3.f2
  ·exact⟨fun s' hs'=>(by cases hs'),fun r hr=>(by cases hr;rfl)⟩
  ·cases hb:fF (dep l[i].f0 d) 0 3
   ·exact⟨fun s' hs'=>(by cases hs'),fun r hr=>(by cases hr;rfl)⟩
   ·exact⟨fun s' hs'=>(by cases hs';exact⟨rfl,ba.mp hb⟩),fun r hr=>(by cases hr)⟩
 ·rw[aA];simp only[bm.tree,Tr.af,Tr.ak,cO,Bool.false_eq_true,↓reduceIte];cases decide (d=0)<;>rfl
theorem jw (l:List aw) (hl:l.length≤1048576):bQ.f l=some (okB l.length l 0):=by
 simp only[bQ.f,bQ.begin,Tr.ai];rw[←vT];refine xm l xh _ (fun _ d=>0≤d∧d≤3) (fun i d=>lp bQ.tree (.c3 l d l (List.length l:Int) (i:Int))) 0 ⟨by omega,by omega⟩ (fun i h d hd=> ?_) (fun d hd=> ?_)
 ·obtain⟨w1,w2,w3⟩:=Co (x:=d) hd.1 hd.2;have w7:wr ((i:Int)+1)=((i+1:Nat):Int):=aH (by omega);have c12:lp bQ.tree .c12=some false:=by rw[aA];rfl
  have tst:∀(x:Int) (A:Option Bool),(if x<0 then some false else if x>3 then some false else A)=if fF x 0 3=true then A else some false:=fun x A=>by
   by_cases q:x<0
   ·rw[if_pos q,if_neg (by rw[ba];omega)]
   ·rw[if_neg q]
    by_cases q':x>3
    ·rw[if_pos q',if_neg (by rw[ba];omega)]
    ·rw[if_neg q',if_pos (by rw[ba];omega)]
  have step:lp bQ.tree (.c3 l d l (List.length l:Int) (i:Int))=if jO l[i].f0 l[i].f1 l[i].f2 l[i].f3.f0 l[i].f3.f1 l[i].f3.f2=true then(if fF (dep l[i].f0 d) 0 3=true then lp bQ.tree (.c3 l (dep l[i].f0 d) l (List.length l:Int) ((i+1:Nat):Int))else some false)else some false:=by
   rw[aA];simp only[bQ.tree,Tr.af,Tr.al,Tr.ag,Tr.ak,Tr.ai,dm.told,qh,bI.told,bI.f,bI.begin,c12,aP h,aX h,bJ h,and_self,decide_true,↓reduceIte,ae,w1,w2,w3,w7,decide_eq_true_eq,tst];cases jO l[i].f0 l[i].f1 l[i].f2 l[i].f3.f0 l[i].f3.f1 l[i].f3.f2
   ·rfl
   ·unfold dep
    by_cases h4:l[i].f0=4
    ·simp[h4]
    ·by_cases h5:l[i].f0=5
     ·simp[h4,h5]
     ·by_cases h6:l[i].f0=6
      ·simp[h4,h5,h6]
      ·simp[h4,h5,h6]
  rw[step];unfold xh;cases jO l[i].f0 l[i].f1 l[i].f2 l[i].f3.f0 l[i].f3.f1 l[i].f3.f2
  ·exact⟨fun s' hs'=>(by cases hs'),fun r hr=>(by cases hr;rfl)⟩
  ·cases hb:fF (dep l[i].f0 d) 0 3
   ·exact⟨fun s' hs'=>(by cases hs'),fun r hr=>(by cases hr;rfl)⟩
   ·exact⟨fun s' hs'=>(by cases hs';exact⟨rfl,ba.mp hb⟩),fun r hr=>(by cases hr)⟩
 ·rw[aA];simp only[bQ.tree,Tr.af,Tr.ak,cO,Bool.false_eq_true,↓reduceIte];cases decide (d=0)<;>rfl
def isVal (x:Int):Bool:=fF x (-1000000) 1000000
theorem l7 (x:Int):df.f x=some (isVal x):=by
 simp only[df.f,df.begin,Tr.ag,Tr.ak,aC.told,dk,ae,isVal]
theorem oW (x:Int):dK.f x=some (isVal x):=by
 simp only[dK.f,dK.begin,Tr.ag,Tr.ak,aG.told,cV,ae,isVal]
theorem jF (l:List Int) (hl:l.length≤1048576):bH.f l=some (l.all isVal):=by
 simp only[bH.f,bH.begin,Tr.ai]
 have e:=oH l isVal true (fun i=>lp bH.tree (.c2 l (i:Int))) (fun i h=>by
  rw[aA];simp only[bH.tree,Tr.af,Tr.al,Tr.ag,Tr.ak,Tr.ai,df.told,l7,ae,aP h,aX h,bJ h,and_self,decide_true,↓reduceIte,aH (show i<4611686018427387904 by omega)];cases isVal l[i]<;>rfl) (by
  rw[aA];simp only[bH.tree,Tr.af,Tr.ak,cO,Bool.false_eq_true,↓reduceIte])
 rw[Bool.and_true]at e;exact e
theorem wY (l:List Int) (hl:l.length≤1048576):ef.f l=some (l.all isVal&&decide ((l.length:Int)=8)):=by
 simp only[ef.f,ef.begin,Tr.ai];refine oH l isVal _ (fun i=>lp ef.tree (.c2 l (i:Int))) (fun i h=> ?_) ?_
 ·rw[aA];simp only[ef.tree,Tr.af,Tr.al,Tr.ag,Tr.ak,Tr.ai,df.told,l7,ae,aP h,aX h,bJ h,and_self,decide_true,↓reduceIte,aH (show i<4611686018427387904 by omega)];cases isVal l[i]<;>rfl
 ·rw[aA];simp only[ef.tree,Tr.af,Tr.ak,cO,Bool.false_eq_true,↓reduceIte]
theorem A9 {A:Type} (l:List A) (p:A→Bool):(!(l.any fun x=> !p x))=l.all p:=by
 induction l with
 | nil=>rfl
 | cons a l ih=>rw[List.any_cons,List.all_cons,←ih];cases p a<;>simp
theorem jx (l:List Int) (hl:l.length≤1048576):cg.f l=some (l.all isVal):=by
 obtain⟨r,hr,hd⟩:=te l (fun x=> !isVal x) (fun i=>lp az.tree (.c2 l (List.length l:Int) (i:Int))) (fun i h=>by
  rw[aA];simp only[az.tree,Tr.af,Tr.al,Tr.ag,Tr.ak,Tr.ai,cY.told,cY.f,cY.begin,dK.told,oW,ae,aP h,aX h,bJ h,and_self,decide_true,↓reduceIte,aH (show i<4611686018427387904 by omega)]) (by
  rw[aA];simp only[az.tree,Tr.af,Tr.ak,cO,Bool.false_eq_true,↓reduceIte])
 have hr':lp az.tree (.c2 l (List.length l:Int) 0)=some r:=hr;simp only[cg.f,cg.begin,Tr.ag,Tr.ak,aE.told,aE.f,aE.begin,az.told,az.f,az.begin,Tr.ai,hr',ae,hd,A9]
theorem qq (l:List Int) (hl:l.length≤1048576):iv.f l=some (l.all isVal&&decide ((l.length:Int)=8)):=by
 simp only[iv.f,iv.begin,Tr.ag,Tr.af,Tr.ak,cg.told,jx l hl,ae];cases decide ((l.length:Int)=8)<;>simp
theorem fits {A B:Type} (l:List A) (m:List B) (hl:l.length≤1048576) (hm:m.length≤1048576) (k:Nat) (hk:k≤1000):((l.length:Int)+(m.length:Int))*(k:Nat)≤room:=by
 unfold room;have h1:((l.length:Int)+(m.length:Int))*(k:Int)≤2097152*(k:Int):=Int.mul_le_mul_of_nonneg_right (by omega) (by omega);omega
theorem eB (l:List Int) (hl:l.length≤1048576):aI.f l=some l:=by
 simp only[aI.f,aI.begin,Tr.xS,Tr.ak,Tr.al,fits ([]:List Int) l (by simp) hl 8 (by omega),↓reduceIte,List.nil_append];cases l<;>simp
theorem mN (l:List aw) (hl:l.length≤1048576):eC.f l=some l:=by
 simp only[eC.f,eC.begin,Tr.xS,Tr.ak,Tr.al,fits ([]:List aw) l (by simp) hl 48 (by omega),↓reduceIte,List.nil_append];cases l<;>simp
def oC (l:List Int):List Int×Bool:=if(l.all isVal&&decide ((l.length:Int)=8))=true then(l++List.replicate 41 0,true)else([],false)
theorem wX (l:List Int) (hl:l.length≤1048576):fC.f l=some (oC l):=by
 simp only[fC.f,fC.begin,Tr.ag,Tr.af,Tr.al,Tr.ak,ef.told,wY l hl,ae,oC,fits ([]:List Int) l (by simp) hl 8 (by omega),↓reduceIte,List.nil_append];have h2:(0:Int)≤41∧((l.length:Int)+41)*(8:Nat)≤room:=⟨by omega,by unfold room;omega⟩;simp only[h2,show Int.toNat 41=41 from rfl,and_self,↓reduceIte];rcases Bool.eq_false_or_eq_true (l.all isVal&&decide ((l.length:Int)=8))with q | q<;>simp only[q,Bool.not_true,Bool.not_false,Bool.false_eq_true,↓reduceIte]
def Dp (t:bR):Bool:=okB t.f0.length t.f0 0&&pM t.f1.f0 t.f1.f1 t.f1.f2
def tJ (l:List bR):Bool:=l.all Dp&&fF (l.length:Int) 1 6
theorem nw (l:List bR) (hl:l.length≤1048576) (hs:∀t∈l,t.f0.length≤1048576):cj.f l=some (tJ l):=by
 simp only[cj.f,cj.begin,Tr.ai];refine oH l Dp _ (fun i=>lp cj.tree (.c2 l (i:Int))) (fun i h=> ?_) ?_
 ·rw[aA];simp only[cj.tree,Tr.af,Tr.al,Tr.ag,Tr.ak,Tr.ai,bm.told,ko _ (hs _ (List.getElem_mem h)),cb.told,gO,ae,aP h,aX h,bJ h,and_self,decide_true,↓reduceIte,aH (show i<4611686018427387904 by omega),Dp];rcases Bool.eq_false_or_eq_true (okB l[i].f0.length l[i].f0 0)with q | q<;>rcases Bool.eq_false_or_eq_true (pM l[i].f1.f0 l[i].f1.f1 l[i].f1.f2)with q' | q'<;>simp[q,q']
 ·rw[aA];simp only[cj.tree,Tr.af,Tr.ag,Tr.ak,aC.told,dk,ae,cO,Bool.false_eq_true,↓reduceIte]
theorem np (l:List bR) (hl:l.length≤1048576) (hs:∀t∈l,t.f0.length≤1048576):cQ.f l=some (tJ l):=by
 obtain⟨r,hr,hd⟩:=te l (fun x=> !Dp x) (fun i=>lp an.tree (.c2 l (List.length l:Int) (i:Int))) (fun i h=>by
  rw[aA];simp only[an.tree,Tr.af,Tr.al,Tr.ag,Tr.ak,Tr.ai,cZ.told,cZ.f,cZ.begin,cX.told,cX.f,cX.begin,bQ.told,jw _ (hs _ (List.getElem_mem h)),cH.told,iD,ae,aP h,aX h,bJ h,and_self,decide_true,↓reduceIte,aH (show i<4611686018427387904 by omega),Dp];rcases Bool.eq_false_or_eq_true (okB l[i].f0.length l[i].f0 0)with q | q<;>rcases Bool.eq_false_or_eq_true (pM l[i].f1.f0 l[i].f1.f1 l[i].f1.f2)with q' | q'<;>simp[q,q']) (by
  rw[aA];simp only[an.tree,Tr.af,Tr.ak,cO,Bool.false_eq_true,↓reduceIte])
 have hr':lp an.tree (.c2 l (List.length l:Int) 0)=some r:=hr;simp only[cQ.f,cQ.begin,Tr.ag,Tr.af,Tr.ak,aG.told,cV,ay.told,ay.f,ay.begin,an.told,an.f,an.begin,Tr.ai,hr',ae,hd,A9,tJ];cases fF (l.length:Int) 1 6<;>simp
def gH (a b c d:Int):Bool:=fF b 1 5000&&(fF a 0 b&&(fF c 1 b&&fF d 0 100))
theorem oF (a b c d:Int):dM.f a b c d=some (gH a b c d):=by
 simp only[dM.f,dM.begin,Tr.ag,Tr.af,Tr.ak,aC.told,dk,ae,gH];cases fF b 1 5000<;>cases fF a 0 b<;>cases fF c 1 b<;>rfl
theorem vA (a b c d:Int):ff.f a b c d=some (gH a b c d):=by
 simp only[ff.f,ff.begin,Tr.ag,Tr.af,Tr.ak,aG.told,cV,ae,gH];cases fF b 1 5000<;>cases fF a 0 b<;>cases fF c 1 b<;>rfl
theorem pq (l:List bR) (hl:l.length≤1048576) (hs:∀t∈l,t.f0.length≤1048576):bV.f l=some l:=by
 simp only[bV.f,bV.begin,Tr.ai]
 have e:=zk l (fun t:bR=>t) id (fun i s=>lp bV.tree (.c3 l [] s (i:Int))) [] (fun i h=>by
  rw[aA];have hr:cS l (i:Int)=l[i]:=aP h;have hin:=bJ h;have hlt:=aX h;have h1:(([]:List aw).length+(l[i].f0.length:Int))*(48:Nat)≤room:=fits [] l[i].f0 (by simp) (hs _ (List.getElem_mem h)) 48 (by omega);have h2:∀t:bR,((([]++(l.take i).map (fun t:bR=>t)).length:Int)+(([t]:List bR).length:Int))*(48:Nat)≤room:=fun t=>fits _ [t] (by simp;omega) (by simp) 48 (by omega);generalize ([]++(l.take i).map (fun t:bR=>t))=acc at h2⊢
  have c4:∀s,lp bV.tree (.c4 l [] s (i:Int))=lp bV.tree (.c3 l [] s ((i+1:Nat):Int)):=fun s=>by
   rw[aA];simp only[bV.tree,Tr.ai,aH (show i<4611686018427387904 by omega)]
  simp only[bV.tree,Tr.af,Tr.al,Tr.fe,Tr.aZ,Tr.fZ,Tr.ai,hr,hin,hlt,and_self,decide_true,↓reduceIte,h1,h2,c4,List.nil_append,cr]) (fun s=>by
  rw[aA];simp only[bV.tree,Tr.af,Tr.ak,cO,Bool.false_eq_true,↓reduceIte,id])
 rw[List.map_id'']at e
 ·exact e
 ·exact fun _=>rfl
theorem qX (l:List bR) (hl:l.length≤1048576) (hs:∀t∈l,t.f0.length≤1048576):eK.f l=some l:=by
 simp only[eK.f,eK.begin,Tr.ai]
 have e:=zk l (fun t:bR=>t) id (fun i s=>lp eK.tree (.c3 [] s l (List.length l:Int) (i:Int))) [] (fun i h=>by
  rw[aA];have hr:cS l (i:Int)=l[i]:=aP h;have hin:=bJ h;have hlt:=aX h;have h2:∀t:bR,((([]++(l.take i).map (fun t:bR=>t)).length:Int)+(([t]:List bR).length:Int))*(48:Nat)≤room:=fun t=>fits _ [t] (by simp;omega) (by simp) 48 (by omega);generalize ([]++(l.take i).map (fun t:bR=>t))=acc at h2⊢;simp only[eK.tree,Tr.af,Tr.al,Tr.fe,Tr.aZ,Tr.ag,Tr.ak,Tr.ai,iE.told,iE.f,iE.begin,eC.told,mN _ (hs _ (List.getElem_mem h)),ae,hr,hin,hlt,and_self,decide_true,↓reduceIte,h2,cr,aH (show i<4611686018427387904 by omega)]) (fun s=>by
  rw[aA];simp only[eK.tree,Tr.af,Tr.ak,cO,Bool.false_eq_true,↓reduceIte,id])
 rw[List.map_id'']at e
 ·exact e
 ·exact fun _=>rfl
def yg (p:List bR) (m r:List Int) (a b c d:Int):List bR×List Int×List Int×Int×Int×Int×Int×Int×Int×Int×Int×List Int×Int×Bool:=
 if(oC m).2=true then(if tJ p=true then(if gH a b c d=true then(if r.all isVal=true then(p,(oC m).1,r,0,a,b,c,d,0,0,0,[],0,true)
 else([],[],[],0,0,0,0,0,0,0,0,[],0,false))else([],[],[],0,0,0,0,0,0,0,0,[],0,false))else([],[],[],0,0,0,0,0,0,0,0,[],0,false))else([],[],[],0,0,0,0,0,0,0,0,[],0,false)
theorem wo (p:List bR) (m r:List Int) (a b c d:Int) (hp:p.length≤1048576) (hs:∀t∈p,t.f0.length≤1048576) (hm:m.length≤1048576) (hr:r.length≤1048576):aQ.f p m r a b c d=some (yg p m r a b c d):=by
 simp only[aQ.f,aQ.begin,Tr.ag,Tr.af,Tr.al,Tr.fe,Tr.aZ,Tr.ak,fC.told,wX m hm,cj.told,nw p hp hs,dM.told,oF,bH.told,jF r hr,bV.told,pq p hp hs,ae,fits ([]:List Int) r (by simp) hr 8 (by omega),↓reduceIte,List.nil_append,cr,yg];cases(oC m).2<;>cases tJ p<;>cases gH a b c d<;>cases r.all isVal<;>rfl
def pack (a b c:Int):Int:=if(fF a 0 5&&(fF b 0 8&&fF c 0 24))=true then a+8*(b+16*c)else -1
theorem A3 (a b c:Int) (h:(fF a 0 5&&(fF b 0 8&&fF c 0 24))=true):wr (a+wr (8*wr (b+wr (16*c))))=a+8*(b+16*c):=by
 rw[Bool.and_eq_true,Bool.and_eq_true,ba,ba,ba]at h;have w1:wr (16*c)=16*c:=bZ (by omega);have w2:wr (b+16*c)=b+16*c:=bZ (by omega);have w3:wr (8*(b+16*c))=8*(b+16*c):=bZ (by omega);have w4:wr (a+8*(b+16*c))=a+8*(b+16*c):=bZ (by omega);rw[w1,w2,w3,w4]
theorem C4 (a b c:Int):pack a b c≤3141:=by
 unfold pack;split
 ·rename_i h;rw[Bool.and_eq_true,Bool.and_eq_true,ba,ba,ba]at h;omega
 ·omega
theorem iW (a b c:Int):bn.f a b c=some (pack a b c):=by
 simp only[bn.f,bn.begin,Tr.ag,Tr.af,Tr.ak,aC.told,dk,ae];have h:=A3 a b c;unfold pack
 by_cases q:(fF a 0 5&&(fF b 0 8&&fF c 0 24))=true
 ·rw[h q];rw[Bool.and_eq_true,Bool.and_eq_true]at q;simp[q.1,q.2.1,q.2.2]
 ·clear h;cases qa:fF a 0 5<;>cases qb:fF b 0 8<;>cases qc:fF c 0 24<;>simp_all
theorem iR (a b c:Int):bd.f a b c=some (pack a b c):=by
 simp only[bd.f,bd.begin,Tr.ag,Tr.af,Tr.ak,aG.told,cV,ae];have h:=A3 a b c;unfold pack
 by_cases q:(fF a 0 5&&(fF b 0 8&&fF c 0 24))=true
 ·rw[h q];rw[Bool.and_eq_true,Bool.and_eq_true]at q;simp[q.1,q.2.1,q.2.2]
 ·clear h;cases qa:fF a 0 5<;>cases qb:fF b 0 8<;>cases qc:fF c 0 24<;>simp_all
def unpack (c:Int):Int×Int×Int:=
 if c<0 then(-1,-1,-1)else if pack (Int.tmod c 8) (Int.tmod (wr (Int.tdiv c 8)) 16) (wr (Int.tdiv c 128))=c then(Int.tmod c 8,Int.tmod (wr (Int.tdiv c 8)) 16,wr (Int.tdiv c 128))else(-1,-1,-1)
theorem iu (c:Int):bc.f c=some (unpack c):=by
 simp only[bc.f,bc.begin,Tr.ag,Tr.af,Tr.al,Tr.ak,bn.told,iW,ae,unpack,decide_eq_true_eq]
 by_cases h:c<0
 ·rw[if_pos h,if_pos h]
 rw[if_neg h,if_neg h]
 by_cases h2:c>100000
 ·have:=C4 (Int.tmod c 8) (Int.tmod (wr (Int.tdiv c 8)) 16) (wr (Int.tdiv c 128));rw[if_pos h2,if_neg (by omega)]
 rw[if_neg h2]
 by_cases q:pack (Int.tmod c 8) (Int.tmod (wr (Int.tdiv c 8)) 16) (wr (Int.tdiv c 128))=c<;>simp[q]
theorem gB (c:Int):aS.f c=some (unpack c):=by
 simp only[aS.f,aS.begin,Tr.ag,Tr.af,Tr.al,Tr.ak,bd.told,iR,ae,unpack,decide_eq_true_eq]
 by_cases h:c<0
 ·simp[h]
 by_cases q:pack (Int.tmod c 8) (Int.tmod (wr (Int.tdiv c 8)) 16) (wr (Int.tdiv c 128))=c<;>simp[q,h]
theorem pI (c:Int):unpack c=(-1,-1,-1)∨(0≤(unpack c).1∧(unpack c).1≤5∧0≤(unpack c).2.1∧(unpack c).2.1≤8∧0≤(unpack c).2.2∧(unpack c).2.2≤24):=by
 unfold unpack;split
 ·exact .inl rfl
 split
 ·rename_i h q
  right
  unfold pack at q;split at q
  ·rename_i p;rw[Bool.and_eq_true,Bool.and_eq_true,ba,ba,ba]at p;exact⟨p.1.1,p.1.2,p.2.1.1,p.2.1.2,p.2.2.1,p.2.2.2⟩
  ·omega
 ·exact .inl rfl
def jg (m:List Int) (i:Nat):Bool:=fF (cT m (9+2*(i:Int))) 0 7&&isVal (cT m (9+2*(i:Int)+1))
theorem vk (m:List Int) (hm:m.length=49) (i n:Nat) (h:i<n) (hn:n≤8):
 wr (2*(i:Int))=2*(i:Int)∧wr (9+2*(i:Int))=9+2*(i:Int)∧wr (9+2*(i:Int)+1)=9+2*(i:Int)+1∧((0:Int)≤9+2*(i:Int)∧9+2*(i:Int)<(m.length:Int))∧((0:Int)≤9+2*(i:Int)+1∧9+2*(i:Int)+1<(m.length:Int))∧wr ((i:Int)+1)=((i+1:Nat):Int):=
 ⟨bZ (by omega),bZ (by omega),bZ (by omega),by omega,by omega,aH (by omega)⟩
theorem wH (m:List Int) (hm:m.length=49) (n:Nat) (hn:n≤8):lp fb.tree (.c7 m (n:Int) 0)=some ((List.range n).all (jg m)):=by
 have e:=oH (List.range n) (jg m) true (fun i=>lp fb.tree (.c7 m (n:Int) (i:Int))) (fun i h=>by
  rw[List.length_range]at h;obtain⟨w1,w2,w3,n1,n2,w4⟩:=vk m hm i n h hn;rw[aA,List.getElem_range];simp only[fb.tree,Tr.af,Tr.al,Tr.ag,Tr.ak,Tr.ai,w1,w2,w3,w4,n1,n2,aX h,and_self,↓reduceIte,aC.told,dk,df.told,l7,ae,jg];rcases Bool.eq_false_or_eq_true (fF (cT m (9+2*(i:Int))) 0 7)with q | q<;>rcases Bool.eq_false_or_eq_true (isVal (cT m (9+2*(i:Int)+1)))with q' | q'<;>simp only[q,q',Bool.not_true,Bool.not_false,Bool.and_self,Bool.and_true,Bool.and_false,Bool.false_eq_true,↓reduceIte]) (by
  rw[aA,List.length_range];simp only[fb.tree,Tr.af,Tr.ak,cO,Bool.false_eq_true,↓reduceIte])
 rw[Bool.and_true]at e;exact e
theorem wP (m:List Int) (hm:m.length=49) (n:Nat) (hn:n≤8):lp fa.tree (.c7 m (n:Int) 0)=some ((List.range n).all (jg m)):=by
 have e:=oH (List.range n) (jg m) true (fun i=>lp fa.tree (.c7 m (n:Int) (i:Int))) (fun i h=>by
  rw[List.length_range]at h;obtain⟨w1,w2,w3,n1,n2,w4⟩:=vk m hm i n h hn;rw[aA,List.getElem_range];simp only[fa.tree,Tr.af,Tr.al,Tr.ag,Tr.ak,Tr.ai,w1,w2,w3,w4,n1,n2,aX h,and_self,↓reduceIte,dG.told,dG.f,dG.begin,aG.told,cV,dK.told,oW,ae,jg];rcases Bool.eq_false_or_eq_true (fF (cT m (9+2*(i:Int))) 0 7)with q | q<;>rcases Bool.eq_false_or_eq_true (isVal (cT m (9+2*(i:Int)+1)))with q' | q'<;>simp only[q,q',Bool.not_true,Bool.not_false,Bool.and_self,Bool.and_true,Bool.and_false,Bool.false_eq_true,↓reduceIte]) (by
  rw[aA,List.length_range];simp only[fa.tree,Tr.af,Tr.ak,cO,Bool.false_eq_true,↓reduceIte])
 rw[Bool.and_true]at e;exact e
def me (m:List Int):List Int:=(m.take (Int.toNat (25+(unpack (cT m 8)).2.2))).drop 25
def ji (n:Nat) (m:List Int):Bool:=
 decide (m.length=49)&&(!decide ((unpack (cT m 8)).1<0)&&(!decide ((unpack (cT m 8)).1≥(n:Int))&&((m.take 8).all isVal&&((me m).all isVal&&(List.range (Int.toNat (unpack (cT m 8)).2.1)).all (jg m)))))
theorem oM (m:List Int):(me m).length≤m.length:=by
 unfold me;rw[List.length_drop,List.length_take];omega
theorem my {c:Int} (h:¬(unpack c).1<0):0≤(unpack c).1∧(unpack c).1≤5∧0≤(unpack c).2.1∧(unpack c).2.1≤8∧0≤(unpack c).2.2∧(unpack c).2.2≤24:=by
 rcases pI c with e | e
 ·rw[e]at h;exact absurd (by decide) h
 ·exact e
theorem mq (m:List Int) (hm:m.length=49) (h:¬(unpack (cT m 8)).1<0):
 wr (25+(unpack (cT m 8)).2.2)=25+(unpack (cT m 8)).2.2∧((0:Int)≤25∧(25:Int)≤25+(unpack (cT m 8)).2.2∧25+(unpack (cT m 8)).2.2≤(m.length:Int))∧∃n:Nat,(unpack (cT m 8)).2.1=(n:Int)∧n≤8:=by
 obtain⟨a,b,c,d,e,f⟩:=my h;exact⟨bZ (by omega),⟨by omega,by omega,by omega⟩,(unpack (cT m 8)).2.1.toNat,by omega,by omega⟩
theorem yF (p:List bR) (m:List Int) (hp:p.length≤1048576) (hs:∀t∈p,t.f0.length≤1048576):fb.f p m=some (tJ p&&ji p.length m):=by
 simp only[fb.f,fb.begin,Tr.ag,Tr.af,Tr.ak,cj.told,nw p hp hs,ae];unfold ji;cases tJ p
 ·rfl
 by_cases hm:¬m.length=49
 ·have hm':¬(m.length:Int)=49:=by omega
  simp only[hm,hm',decide_false,Bool.not_false,Bool.not_true,Bool.false_eq_true,↓reduceIte,Bool.false_and,Bool.and_false]
 have hm:m.length=49:=by omega
 have hm':decide ((m.length:Int)=49)=true:=decide_eq_true (by omega);have n1:(0:Int)≤8∧(8:Int)<(m.length:Int):=by omega
 have n2:(0:Int)≤0∧(0:Int)≤8∧(8:Int)≤(m.length:Int):=by omega
 have v1:=jF (m.take 8) (by rw[List.length_take];omega);have v2:=jF (me m) (Nat.le_trans (oM m) (by omega));rw[show decide (m.length=49)=true from decide_eq_true hm];simp only[hm',Tr.al,Tr.af,Tr.ag,Tr.ak,Tr.ai,bc.told,iu,bH.told,ae,n1,n2,and_self,↓reduceIte,decide_eq_true_eq,Bool.not_true,Bool.false_eq_true,Bool.true_and,show Int.toNat 8=8 from rfl,v1]
 by_cases h1:(unpack (cT m 8)).1<0
 ·simp only[h1,↓reduceIte,decide_true,decide_false,Bool.not_true,Bool.not_false,Bool.false_and,Bool.and_false,Bool.true_and,Bool.false_eq_true]
 by_cases h2:(unpack (cT m 8)).1≥(p.length:Int)
 ·simp only[h1,h2,↓reduceIte,decide_true,decide_false,Bool.not_true,Bool.not_false,Bool.false_and,Bool.and_false,Bool.true_and,Bool.false_eq_true]
 obtain⟨w,n3,n,hn,hn8⟩:=mq m hm h1;have c7:=wH m hm n hn8;unfold me at v2;simp only[h1,h2,w,n3,hn,and_self,↓reduceIte,decide_false,Bool.not_false,Bool.true_and,show Int.toNat 25=25 from rfl,v2,ae,c7,Int.toNat_natCast,me];rcases Bool.eq_false_or_eq_true ((m.take 8).all isVal)with q | q<;>simp only[q,Bool.not_true,Bool.not_false,Bool.false_eq_true,↓reduceIte,Bool.true_and,Bool.false_and]
 rcases Bool.eq_false_or_eq_true (((m.take (Int.toNat (25+(unpack (cT m 8)).2.2))).drop 25).all isVal)with q | q<;>simp only[q,Bool.not_true,Bool.not_false,Bool.false_eq_true,↓reduceIte,Bool.true_and,Bool.false_and]
theorem yE (p:List bR) (m:List Int) (hp:p.length≤1048576) (hs:∀t∈p,t.f0.length≤1048576):fa.f p m=some (tJ p&&ji p.length m):=by
 simp only[fa.f,fa.begin,Tr.ag,Tr.af,Tr.ak,cQ.told,np p hp hs,ae];unfold ji;cases tJ p
 ·rfl
 by_cases hm:¬m.length=49
 ·have hm':¬(m.length:Int)=49:=by omega
  simp only[hm,hm',decide_false,Bool.not_false,Bool.not_true,Bool.false_eq_true,↓reduceIte,Bool.false_and,Bool.and_false]
 have hm:m.length=49:=by omega
 have hm':decide ((m.length:Int)=49)=true:=decide_eq_true (by omega);have n1:(0:Int)≤8∧(8:Int)<(m.length:Int):=by omega
 have n2:(0:Int)≤0∧(0:Int)≤8∧(8:Int)≤(m.length:Int):=by omega
 have v1:=jx (m.take 8) (by rw[List.length_take];omega);have v2:=jx (me m) (Nat.le_trans (oM m) (by omega));rw[show decide (m.length=49)=true from decide_eq_true hm];simp only[hm',Tr.al,Tr.af,Tr.ag,Tr.ak,Tr.ai,aS.told,gB,cg.told,ae,n1,n2,and_self,↓reduceIte,decide_eq_true_eq,Bool.not_true,Bool.false_eq_true,Bool.true_and,show Int.toNat 8=8 from rfl,v1]
 by_cases h1:(unpack (cT m 8)).1<0
 ·cases(m.take 8).all isVal<;>simp only[h1,↓reduceIte,decide_true,decide_false,Bool.not_true,Bool.not_false,Bool.false_and,Bool.and_false,Bool.true_and,Bool.false_eq_true]
 by_cases h2:(unpack (cT m 8)).1≥(p.length:Int)
 ·cases(m.take 8).all isVal<;>simp only[h1,h2,↓reduceIte,decide_true,decide_false,Bool.not_true,Bool.not_false,Bool.false_and,Bool.and_false,Bool.true_and,Bool.false_eq_true]
 obtain⟨w,n3,n,hn,hn8⟩:=mq m hm h1;have c7:=wP m hm n hn8;unfold me at v2;simp only[h1,h2,w,n3,hn,and_self,↓reduceIte,decide_false,Bool.not_false,Bool.true_and,show Int.toNat 25=25 from rfl,v2,ae,c7,Int.toNat_natCast,me];rcases Bool.eq_false_or_eq_true ((m.take 8).all isVal)with q | q<;>simp only[q,Bool.not_true,Bool.not_false,Bool.false_eq_true,↓reduceIte,Bool.true_and,Bool.false_and]
 rcases Bool.eq_false_or_eq_true (((m.take (Int.toNat (25+(unpack (cT m 8)).2.2))).drop 25).all isVal)with q | q<;>simp only[q,Bool.not_true,Bool.not_false,Bool.false_eq_true,↓reduceIte,Bool.true_and,Bool.false_and]
theorem kR (m:List Int) (hm:m.length=49):((0:Int)≤8∧(8:Int)<(m.length:Int)):=by omega
def cI (m:List Int):List Int:=if m.length=49 then(if(unpack (cT m 8)).2.2<0 then[]else me m)else[]
theorem rI {c:Int} (h:¬(unpack c).2.2<0):¬(unpack c).1<0:=by
 rcases pI c with e | e
 ·rw[e]at h;exact absurd (by decide) h
 ·omega
theorem gY (m:List Int) (n:Nat) (h:m.length≤n):(cI m).length≤n:=by
 unfold cI;split
 ·split
  ·simp
  ·exact Nat.le_trans (oM m) h
 ·simp
theorem oD (m:List Int):dI.f m=some (cI m):=by
 simp only[dI.f,dI.begin,Tr.af,Tr.al,Tr.ag,Tr.ak,Tr.fZ,bc.told,iu,ae,List.nil_append];unfold cI
 by_cases hm:m.length=49
 ·have hm':decide ((m.length:Int)=49)=true:=decide_eq_true (by omega);rw[if_pos hm];simp only[hm',kR m hm,and_self,Bool.not_true,Bool.false_eq_true,↓reduceIte,decide_eq_true_eq]
  by_cases h:(unpack (cT m 8)).2.2<0
  ·simp only[h,↓reduceIte]
  ·obtain⟨w,n1,-⟩:=mq m hm (rI h);have hl:=oM m;have n2:((([]:List Int).length:Int)+((me m).length:Int))*(8:Nat)≤room:=fits [] (me m) (by simp) (by omega) 8 (by omega);simp only[h,w,n1,and_self,↓reduceIte];exact if_pos n2
 ·have hm':¬(m.length:Int)=49:=by omega
  simp only[hm,hm',decide_false,Bool.not_false,↓reduceIte]
theorem lT (m:List Int):di.f m=some (cI m):=by
 simp only[di.f,di.begin,Tr.af,Tr.al,Tr.ag,Tr.ak,Tr.fZ,aS.told,gB,ae];unfold cI
 by_cases hm:m.length=49
 ·have hm':decide ((m.length:Int)=49)=true:=decide_eq_true (by omega);rw[if_pos hm];simp only[hm',kR m hm,and_self,Bool.not_true,Bool.false_eq_true,↓reduceIte,decide_eq_true_eq]
  by_cases h:(unpack (cT m 8)).2.2<0
  ·simp only[h,↓reduceIte]
  ·obtain⟨w,n1,-⟩:=mq m hm (rI h);have hl:=oM m;have n2:=eB (me m) (by omega);unfold me at n2;simp only[h,w,n1,and_self,↓reduceIte,aI.told,show Int.toNat 25=25 from rfl,n2,ae];rfl
 ·have hm':¬(m.length:Int)=49:=by omega
  simp only[hm,hm',decide_false,Bool.not_false,↓reduceIte]
def ri (a b:List Int):Bool:=decide (a.length≤b.length)&&decide (a=b.take a.length)
theorem rF (a b:List Int) (ha:a.length≤1048576) (hb:b.length≤1048576):bM.f a b=some (ri a b):=by
 simp only[bM.f,bM.begin,Tr.ai];unfold ri;have hend:∀i:Nat,decide ((i:Int)≥(i:Int))=true:=fun i=>decide_eq_true (by omega)
 by_cases h:a.length≤b.length
 ·rw[decide_eq_true h,Bool.true_and];refine Bp a (b.take a.length) (by rw[List.length_take];omega) (fun i=>lp bM.tree (.c2 a b (i:Int))) (fun i hi=> ?_) ?_
  ·rw[aA];have h2:i<b.length:=by omega
   have hn:decide ((i:Int)≥(b.length:Int))=false:=decide_eq_false (by omega);simp only[bM.tree,Tr.af,Tr.al,Tr.ak,Tr.ai,aX hi,hn,bJ hi,bJ h2,aP hi,aP h2,and_self,decide_true,Bool.false_eq_true,↓reduceIte,aH (show i<4611686018427387904 by omega),List.getElem_take]
   by_cases q:a[i]=b[i]<;>simp[q]
  ·rw[aA];simp only[bM.tree,Tr.af,Tr.ak,cO,Bool.false_eq_true,↓reduceIte]
 ·rw[decide_eq_false h,Bool.false_and];refine BB b.length false (fun i=>lp bM.tree (.c2 a b (i:Int))) (fun i hi=> ?_) ?_
  ·have h2:i<a.length:=by omega
   have hn:decide ((i:Int)≥(b.length:Int))=false:=decide_eq_false (by omega);rw[aA];simp only[bM.tree,Tr.af,Tr.al,Tr.ak,Tr.ai,aX h2,hn,bJ hi,bJ h2,aP hi,aP h2,and_self,decide_true,Bool.false_eq_true,↓reduceIte,aH (show i<4611686018427387904 by omega)]
   by_cases q:a[i]=b[i]<;>simp[q]
  ·have h2:b.length<a.length:=by omega
   rw[aA];simp only[bM.tree,Tr.af,Tr.ak,aX h2,hend,↓reduceIte]
theorem iS (a b:List Int) (ha:a.length≤1048576) (hab:a.length=b.length):br.f a b=some (decide (a=b)):=by
 have hn:decide ((a.length:Int)=(b.length:Int))=true:=decide_eq_true (by omega);simp only[br.f,br.begin,Tr.af,Tr.ai,hn,Bool.not_true,Bool.false_eq_true,↓reduceIte];refine Bp a b hab (fun i=>lp br.tree (.c4 a b (a.length:Int) (i:Int))) (fun i hi=> ?_) ?_
 ·rw[aA];have h2:i<b.length:=by omega
  simp only[br.tree,Tr.af,Tr.al,Tr.ak,Tr.ai,aX hi,bJ hi,bJ h2,aP hi,aP h2,and_self,decide_true,↓reduceIte,aH (show i<4611686018427387904 by omega)]
  by_cases q:a[i]=b[i]<;>simp[q]
 ·rw[aA];simp only[br.tree,Tr.af,Tr.ak,cO,Bool.false_eq_true,↓reduceIte]
theorem rv (a b:List Int) (ha:a.length≤1048576) (hb:b.length≤1048576):dc.f a b=some (ri a b):=by
 simp only[dc.f,dc.begin,Tr.ag,Tr.af,Tr.al,Tr.ak];unfold ri
 by_cases h:a.length≤b.length
 ·have h':(a.length:Int)≤(b.length:Int):=by omega
  have n1:(0:Int)≤0∧(0:Int)≤(a.length:Int)∧(a.length:Int)≤(b.length:Int):=by omega
  simp only[h,h',n1,and_self,decide_true,↓reduceIte,Int.toNat_natCast,br.told,iS a (b.take a.length) ha (by rw[List.length_take];omega),ae,Bool.true_and]
 ·have h':¬(a.length:Int)≤(b.length:Int):=by omega
  simp only[h,h',decide_false,Bool.false_eq_true,↓reduceIte,Bool.false_and]
def kM (m:List Int) (at_:Int) (h:List Int):Bool:=fF at_ 0 h.length&&ri h (cI m)
theorem qt (m:List Int) (x:Int) (h:List Int) (hm:m.length≤1048576) (hh:h.length≤1048576):eZ.f m x h=some (kM m x h):=by
 simp only[eZ.f,eZ.begin,Tr.aZ,Tr.ag,Tr.af,Tr.ak,aC.told,dk,dI.told,oD,bM.told,rF h (cI m) hh (gY m _ hm),ae,kM];cases fF x 0 (h.length:Int)<;>rfl
theorem qg (m:List Int) (x:Int) (h:List Int) (hm:m.length≤1048576) (hh:h.length≤1048576):eU.f m x h=some (kM m x h):=by
 simp only[eU.f,eU.begin,Tr.aZ,Tr.ag,Tr.af,Tr.ak,aG.told,cV,di.told,lT,dc.told,rv h (cI m) hh (gY m _ hm),ae,kM];cases fF x 0 (h.length:Int)<;>rfl
def jV (a b:Int):Bool:=decide (a≥0)&&(decide (a≤b)&&decide (b≤1000000))
theorem ql (a b:Int):eY.f a b=some (jV a b):=by
 simp only[eY.f,eY.begin,Tr.af,Tr.ak,jV];cases decide (a≥0)<;>cases decide (a≤b)<;>rfl
theorem pT (a b:Int):dZ.f a b=some (jV a b):=by
 simp only[dZ.f,dZ.begin,Tr.af,Tr.ak,jV];cases decide (a≥0)<;>cases decide (a≤b)<;>rfl
def gh (p:List bR) (m r:List Int) (a3 a4 a5 a6 a7 a8 a9 a10:Int) (h:List Int) (a12:Int):Bool:=
 (tJ p&&ji p.length m)&&(gH a4 a5 a6 a7&&(r.all isVal&&(fF a3 0 400000&&(jV a8 a9&&(kM m a10 h&&fF a12 0 100000)))))
theorem mH (p:List bR) (m r:List Int) (a3 a4 a5 a6 a7 a8 a9 a10:Int) (h:List Int) (a12:Int) (hp:p.length≤1048576) (hs:∀t∈p,t.f0.length≤1048576) (hm:m.length≤1048576) (hr:r.length≤1048576) (hh:h.length≤1048576):
 dY.f p m r a3 a4 a5 a6 a7 a8 a9 a10 h a12=some (gh p m r a3 a4 a5 a6 a7 a8 a9 a10 h a12):=by
 simp only[dY.f,dY.begin,Tr.ag,Tr.af,Tr.ak,fb.told,yF p m hp hs,dM.told,oF,bH.told,jF r hr,aC.told,dk,eY.told,ql,eZ.told,qt m a10 h hm hh,ae,gh];cases(tJ p&&ji p.length m)<;>cases gH a4 a5 a6 a7<;>cases r.all isVal<;>cases fF a3 0 400000<;>cases jV a8 a9<;>cases kM m a10 h<;>rfl
theorem jN (p:List bR) (m r:List Int) (a3 a4 a5 a6 a7 a8 a9 a10:Int) (h:List Int) (a12:Int) (hp:p.length≤1048576) (hs:∀t∈p,t.f0.length≤1048576) (hm:m.length≤1048576) (hr:r.length≤1048576) (hh:h.length≤1048576):
 cy.f p m r a3 a4 a5 a6 a7 a8 a9 a10 h a12=some (gh p m r a3 a4 a5 a6 a7 a8 a9 a10 h a12):=by
 simp only[cy.f,cy.begin,Tr.ag,Tr.af,Tr.ak,fa.told,yE p m hp hs,ff.told,vA,cg.told,jx r hr,aG.told,cV,dZ.told,pT,eU.told,qg m a10 h hm hh,ae,gh];cases(tJ p&&ji p.length m)<;>cases gH a4 a5 a6 a7<;>cases r.all isVal<;>cases fF a3 0 400000<;>cases jV a8 a9<;>cases kM m a10 h<;>rfl
def sP (p:List bR) (m r:List Int) (a3 a4 a5 a6 a7 a8 a9 a10:Int) (h:List Int) (a12:Int):List Int:=if gh p m r a3 a4 a5 a6 a7 a8 a9 a10 h a12=true then cI m else[]
theorem pU (p:List bR) (m r:List Int) (a3 a4 a5 a6 a7 a8 a9 a10:Int) (h:List Int) (a12:Int) (hp:p.length≤1048576) (hs:∀t∈p,t.f0.length≤1048576) (hm:m.length≤1048576) (hr:r.length≤1048576) (hh:h.length≤1048576):
 eX.f p m r a3 a4 a5 a6 a7 a8 a9 a10 h a12=some (sP p m r a3 a4 a5 a6 a7 a8 a9 a10 h a12):=by
 simp only[eX.f,eX.begin,Tr.ag,Tr.af,Tr.ak,cy.told,jN p m r a3 a4 a5 a6 a7 a8 a9 a10 h a12 hp hs hm hr hh,di.told,lT,ae,sP];cases gh p m r a3 a4 a5 a6 a7 a8 a9 a10 h a12<;>rfl
theorem sZ {A S R:Type} (l:List A) (f:S→A→S) (g:S→R) (Inv:Nat→S→Prop) (L:Nat→S→Option R) (s:S) (h0:Inv 0 s)
 (hstep:∀i (h:i<l.length) s,Inv i s→L i s=L (i+1) (f s l[i])∧Inv (i+1) (f s l[i])) (hend:∀s,Inv l.length s→L l.length s=some (g s)):L 0 s=some (g (l.foldl f s)):=by
 have key:∀(n i:Nat) s,i+n=l.length→Inv i s→L i s=some (g ((l.drop i).foldl f s)):=by
  intro n
  induction n with
  | zero=>intro i s hi hI;obtain rfl:i=l.length:=(by omega);rw[List.drop_length];exact hend s hI
  | succ n ih=>
    intro i s hi hI;have h:i<l.length:=by omega
    obtain⟨e,hI'⟩:=hstep i h s hI;rw[e,ih (i+1) _ (by omega) hI',List.drop_eq_getElem_cons h,List.foldl_cons]
 exact key l.length 0 s (by omega) h0
theorem uN {B R:Type} (n:Nat) (f:Nat→B) (g:List B→R) (L:Nat→List B→Option R) (k:Nat) (hk:k≤n)
 (hstep:∀i,i<n→∀s:List B,s.length≤i→L i s=L (i+1) (s++[f i])) (hend:∀s,L n s=some (g s)):L k []=some (g ((List.range' k (n-k)).map f)):=by
 have key:∀(m i:Nat) (s:List B),i+m=n→s.length≤i→L i s=some (g (s++(List.range' i m).map f)):=by
  intro m
  induction m with
  | zero=>intro i s hi hs;obtain rfl:i=n:=(by omega);rw[hend];simp
  | succ m ih=>
    intro i s hi hs;rw[hstep i (by omega) s hs,ih (i+1) _ (by omega) (by rw[List.length_append,List.length_singleton];omega),List.range'_succ,List.map_cons,List.append_assoc];rfl
 have:=key (n-k) k [] (by omega) (by simp)
 simpa using this
def lP (l:List Int) (k:Int):List iA:=if fF k 0 l.length=true then(List.range' k.toNat (l.length-k.toNat)).map fun(i:Nat)=>(⟨(i:Int),cT l (i:Int)⟩:iA)else[]
theorem zo (l:List Int) (k:Int):(lP l k).length≤l.length:=by
 unfold lP;split
 ·rw[List.length_map,List.length_range'];omega
 ·simp
theorem dH {B:Type} (s:List B) (x:B) (n:Nat) (hs:s.length≤n) (hn:n≤1048576) (k:Nat) (hk:k≤1000):((s.length:Int)+(([x]:List B).length:Int))*(k:Nat)≤room:=fits s [x] (by omega) (by simp) k hk
theorem sU (m:List Int) (k:Int) (hm:m.length≤1048576):cv.f m k=some (lP (cI m) k):=by
 have hl:=gY m 1048576 hm;simp only[cv.f,cv.begin,Tr.ag,Tr.af,Tr.ak,Tr.ai,dI.told,oD,aC.told,dk,ae];unfold lP;cases hb:fF k 0 ((cI m).length:Int)with
 | false=>rfl
 | true=>
   rw[ba]at hb;obtain⟨j,rfl⟩:∃j:Nat,k=j:=⟨k.toNat,by omega⟩;simp only[Bool.not_true,Bool.false_eq_true,↓reduceIte,Int.toNat_natCast];refine uN (cI m).length (fun i=>(⟨(i:Int),cT (cI m) (i:Int)⟩:iA)) id (fun i s=>lp cv.tree (.c6 s (cI m) (i:Int))) j (by omega) (fun i h s hs=> ?_) (fun s=> ?_)
   ·rw[aA];have h1:∀x:iA,((s.length:Int)+(([x]:List iA).length:Int))*(16:Nat)≤room:=fun x=>dH s x 1048576 (by omega) (by omega) 16 (by omega);simp only[cv.tree,Tr.af,Tr.al,Tr.ai,aX h,bJ h,and_self,h1,decide_true,↓reduceIte,aH (show i<4611686018427387904 by omega)]
   ·rw[aA];simp only[cv.tree,Tr.af,Tr.ak,cO,Bool.false_eq_true,↓reduceIte,id]
theorem sh (m:List Int) (k:Int) (hm:m.length≤1048576):fi.f m k=some (lP (cI m) k):=by
 have hl:=gY m 1048576 hm;simp only[fi.f,fi.begin,Tr.ag,Tr.af,Tr.ak,Tr.ai,di.told,lT m,aG.told,cV,ae];unfold lP;cases hb:fF k 0 ((cI m).length:Int)with
 | false=>rfl
 | true=>
   rw[ba]at hb;obtain⟨j,rfl⟩:∃j:Nat,k=j:=⟨k.toNat,by omega⟩;simp only[Bool.not_true,Bool.false_eq_true,↓reduceIte,Int.toNat_natCast];refine uN (cI m).length (fun i=>(⟨(i:Int),cT (cI m) (i:Int)⟩:iA)) id (fun i s=>lp fi.tree (.c6 (cI m) s (i:Int))) j (by omega) (fun i h s hs=> ?_) (fun s=> ?_)
   ·rw[aA];have h1:∀x:iA,((s.length:Int)+(([x]:List iA).length:Int))*(16:Nat)≤room:=fun x=>dH s x 1048576 (by omega) (by omega) 16 (by omega);simp only[fi.tree,Tr.af,Tr.al,Tr.ai,aX h,bJ h,and_self,h1,decide_true,↓reduceIte,aH (show i<4611686018427387904 by omega)]
   ·rw[aA];simp only[fi.tree,Tr.af,Tr.ak,cO,Bool.false_eq_true,↓reduceIte,id]
def rC (g:List Int) (a b:Int):List Int:=if a=(g.length:Int)then(if(g.length:Int)<255 then g++[b]else g)else g
theorem Ce (g:List Int) (a b:Int) (h:g.length≤1048576):(rC g a b).length≤1048576:=by
 unfold rC;split
 ·split
  ·rw[List.length_append,List.length_singleton];omega
  ·exact h
 ·exact h
theorem vQ (g:List Int) (a b:Int) (hg:g.length≤1048576):fc.f g a b=some (rC g a b):=by
 simp only[fc.f,fc.begin,Tr.af,Tr.al,Tr.ak,dH g b 1048576 hg (by omega) 8 (by omega),↓reduceIte,decide_eq_true_eq,rC];split
 ·split<;>rfl
 ·rfl
theorem uU (g:List Int) (a b:Int) (hg:g.length≤1048576):iP.f g a b=some (rC g a b,((rC g a b).length:Int)):=by
 simp only[iP.f,iP.begin,Tr.af,Tr.al,Tr.ak,Tr.ag,Tr.fe,Tr.aZ,aI.told,eB g hg,ae,dH g b 1048576 hg (by omega) 8 (by omega),↓reduceIte,decide_eq_true_eq,cr,rC];split
 ·split<;>rfl
 ·rfl
def iK (g:List Int) (p:iA×Bool):List Int:=if p.2=true then rC g p.1.f0 p.1.f1 else g
def kS (g:List Int) (l:List iA) (k:List Bool):List Int:=(l.zip k).foldl iK g
theorem tf (g:List Int) (p:iA×Bool) (h:g.length≤1048576):(iK g p).length≤1048576:=by
 unfold iK;split
 ·exact Ce _ _ _ h
 ·exact h
theorem ry (g:List Int) (l:List iA) (k:List Bool) (hg:g.length≤1048576) (hl:l.length≤1048576) (hk:k.length≤1048576):bN.f g l k=some (kS g l k,((kS g l k).length:Int)):=by
 simp only[bN.f,bN.begin,Tr.al,Tr.ai,fits ([]:List Int) g (by simp) hg 8 (by omega),↓reduceIte,List.nil_append];refine sZ (l.zip k) iK (fun s=>(s,(s.length:Int))) (fun _ s=>s.length≤1048576) (fun i s=>lp bN.tree (.c3 l k [] s (i:Int))) g hg (fun i h s hs=> ?_) (fun s hs=> ?_)
 ·have h':=h;rw[List.length_zip]at h';have h1:i<l.length:=by omega
  have h2:i<k.length:=by omega
  refine⟨?_,tf _ _ hs⟩;rw[aA,List.getElem_zip];simp only[bN.tree,Tr.af,Tr.al,Tr.ai,Tr.ag,fc.told,aX h1,aX h2,bJ h1,bJ h2,aP h1,aP h2,and_self,↓reduceIte,vQ s _ _ hs,ae,aH (show i<4611686018427387904 by omega),iK];cases k[i]<;>rfl
 ·rw[aA,List.length_zip]
  by_cases h:l.length≤k.length
  ·simp only[bN.tree,Tr.af,Tr.ak,Nat.min_eq_left h,cO,Bool.false_eq_true,↓reduceIte]
  ·simp only[bN.tree,Tr.af,Tr.ak,Nat.min_eq_right (by omega:k.length≤l.length),cO,Bool.false_eq_true,↓reduceIte];split<;>rfl
theorem rz (g:List Int) (l:List iA) (k:List Bool) (hg:g.length≤1048576) (hl:l.length≤1048576) (hk:k.length≤1048576):da.f g l k=some (kS g l k,((kS g l k).length:Int)):=by
 simp only[da.f,da.begin,Tr.ag,Tr.ai,aI.told,eB g hg,ae];refine sZ (l.zip k) iK (fun s=>(s,(s.length:Int))) (fun _ s=>s.length≤1048576) (fun i s=>lp da.tree (.c3 k [] s l (List.length l:Int) (i:Int))) g hg (fun i h s hs=> ?_) (fun s hs=> ?_)
 ·have h':=h;rw[List.length_zip]at h';have h1:i<l.length:=by omega
  have h2:i<k.length:=by omega
  refine⟨?_,tf _ _ hs⟩;rw[aA,List.getElem_zip];simp only[da.tree,Tr.af,Tr.al,Tr.ai,Tr.ag,iP.told,aX h1,aX h2,bJ h1,bJ h2,aP h1,aP h2,and_self,↓reduceIte,uU s _ _ hs,ae,aH (show i<4611686018427387904 by omega),iK];cases k[i]<;>rfl
 ·have key:∀(n i:Nat),i+n=l.length→min l.length k.length≤i→lp da.tree (.c3 k [] s l (List.length l:Int) (i:Int))=some (s,(s.length:Int)):=by
   intro n
   induction n with
   | zero=>
     intro i hi _;obtain rfl:i=l.length:=by omega
     rw[aA];simp only[da.tree,Tr.af,Tr.fe,Tr.aZ,Tr.ak,cO,Bool.false_eq_true,↓reduceIte,cr]
   | succ n ih=>
     intro i hi hm;have h1:i<l.length:=by omega
     have h2:decide ((i:Int)<(k.length:Int))=false:=decide_eq_false (by omega);rw[aA];simp only[da.tree,Tr.af,Tr.al,Tr.ai,aX h1,h2,bJ h1,and_self,↓reduceIte,Bool.false_eq_true,aH (show i<4611686018427387904 by omega)];exact ih (i+1) (by omega) (by omega)
  rw[List.length_zip];exact key (l.length-min l.length k.length) (min l.length k.length) (by omega) (Nat.le_refl _)
theorem ow (x:Int) (h:List Int) (hh:h.length≤1048576):dL.f x h=some (x,h):=by
 simp only[dL.f,dL.begin,Tr.fe,Tr.aZ,Tr.al,Tr.ak,fits ([]:List Int) h (by simp) hh 8 (by omega),↓reduceIte,List.nil_append,cr]
theorem oe (x:Int) (h:List Int) (hh:h.length≤1048576):gl.f x h=some (x,h):=by
 simp only[gl.f,gl.begin,Tr.fe,Tr.aZ,Tr.ag,Tr.ak,aI.told,eB h hh,ae,cr]
def kH (m:List Int) (x:Int) (h:List Int) (k:List Bool) (b:Bool):Int×List Int×Bool:=
 if kM m x h=true then(if b=true then((kS h (lP (cI m) x) k).length:Int)else x,kS h (lP (cI m) x) k,true)else(x,h,false)
theorem sH (m:List Int) (x:Int) (h:List Int) (k:List Bool) (b:Bool) (hm:m.length≤1048576) (hh:h.length≤1048576) (hk:k.length≤1048576):dy.f m x h k b=some (kH m x h k b):=by
 have hp:=Nat.le_trans (zo (cI m) x) (gY m _ hm);simp only[dy.f,dy.begin,Tr.ag,Tr.af,Tr.fe,Tr.aZ,Tr.ak,dL.told,ow x h hh,eZ.told,qt m x h hm hh,cv.told,sU m x hm,bN.told,ry h _ k hh hp hk,ae,cr,kH];cases kM m x h<;>cases b<;>rfl
theorem so (m:List Int) (x:Int) (h:List Int) (k:List Bool) (b:Bool) (hm:m.length≤1048576) (hh:h.length≤1048576) (hk:k.length≤1048576):gX.f m x h k b=some (kH m x h k b):=by
 have hp:=Nat.le_trans (zo (cI m) x) (gY m _ hm);simp only[gX.f,gX.begin,Tr.ag,Tr.af,Tr.fe,Tr.aZ,Tr.ak,gl.told,oe x h hh,eU.told,qg m x h hm hh,fi.told,sh m x hm,da.told,rz h _ k hh hp hk,ae,cr,kH];cases kM m x h<;>cases b<;>rfl
theorem oA (p:List bR) (m r:List Int) (a3 a4 a5 a6 a7 a8 a9 a10:Int) (h:List Int) (a12:Int) (hp:p.length≤1048576) (hs:∀t∈p,t.f0.length≤1048576) (hm:m.length≤1048576) (hr:r.length≤1048576) (hh:h.length≤1048576):
 cE.f p m r a3 a4 a5 a6 a7 a8 a9 a10 h a12=some (p,m,r,a3,a4,a5,a6,a7,a8,a9,a10,h,a12):=by
 simp only[cE.f,cE.begin,Tr.ag,Tr.al,Tr.ak,bV.told,pq p hp hs,dL.told,ow _ h hh,fits ([]:List Int) m (by simp) hm 8 (by omega),fits ([]:List Int) r (by simp) hr 8 (by omega),ae,↓reduceIte,List.nil_append]
theorem og (p:List bR) (m r:List Int) (a3 a4 a5 a6 a7 a8 a9 a10:Int) (h:List Int) (a12:Int) (hp:p.length≤1048576) (hs:∀t∈p,t.f0.length≤1048576) (hm:m.length≤1048576) (hr:r.length≤1048576) (hh:h.length≤1048576):
 fp.f p m r a3 a4 a5 a6 a7 a8 a9 a10 h a12=some (p,m,r,a3,a4,a5,a6,a7,a8,a9,a10,h,a12):=by
 simp only[fp.f,fp.begin,Tr.ag,Tr.aZ,Tr.ak,eK.told,qX p hp hs,aI.told,eB m hm,eB r hr,gl.told,oe _ h hh,ae]
def vX (p:List bR) (m r:List Int) (a3 a4 a5 a6 a7 a8 a9 a10:Int) (h:List Int) (a12:Int) (k:List Bool) (b:Bool):List bR×List Int×List Int×Int×Int×Int×Int×Int×Int×Int×Int×List Int×Int×Bool:=
 if gh p m r a3 a4 a5 a6 a7 a8 a9 a10 h a12=true then(p,m,r,a3,a4,a5,a6,a7,a8,a9,(kH m a10 h k b).1,(kH m a10 h k b).2.1,a12,true)else(p,m,r,a3,a4,a5,a6,a7,a8,a9,a10,h,a12,false)
theorem wE (p:List bR) (m r:List Int) (a3 a4 a5 a6 a7 a8 a9 a10:Int) (h:List Int) (a12:Int) (k:List Bool) (b:Bool) (hp:p.length≤1048576) (hs:∀t∈p,t.f0.length≤1048576) (hm:m.length≤1048576) (hr:r.length≤1048576) (hh:h.length≤1048576) (hk:k.length≤1048576):
 eS.f p m r a3 a4 a5 a6 a7 a8 a9 a10 h a12 k b=some (vX p m r a3 a4 a5 a6 a7 a8 a9 a10 h a12 k b):=by
 simp only[eS.f,eS.begin,Tr.ag,Tr.af,Tr.ak,cE.told,oA p m r a3 a4 a5 a6 a7 a8 a9 a10 h a12 hp hs hm hr hh,dY.told,mH p m r a3 a4 a5 a6 a7 a8 a9 a10 h a12 hp hs hm hr hh,dy.told,sH m a10 h k b hm hh hk,ae,vX];cases gh p m r a3 a4 a5 a6 a7 a8 a9 a10 h a12<;>rfl
theorem p9 (p:List bR) (m r:List Int) (a3 a4 a5 a6 a7 a8 a9 a10:Int) (h:List Int) (a12:Int) (k:List Bool) (b:Bool) (hp:p.length≤1048576) (hs:∀t∈p,t.f0.length≤1048576) (hm:m.length≤1048576) (hr:r.length≤1048576) (hh:h.length≤1048576) (hk:k.length≤1048576):
 jn.f p m r a3 a4 a5 a6 a7 a8 a9 a10 h a12 k b=some (vX p m r a3 a4 a5 a6 a7 a8 a9 a10 h a12 k b):=by
 simp only[jn.f,jn.begin,Tr.ag,Tr.af,Tr.ak,fp.told,og p m r a3 a4 a5 a6 a7 a8 a9 a10 h a12 hp hs hm hr hh,cy.told,jN p m r a3 a4 a5 a6 a7 a8 a9 a10 h a12 hp hs hm hr hh,gX.told,so m a10 h k b hm hh hk,ae,vX];cases gh p m r a3 a4 a5 a6 a7 a8 a9 a10 h a12<;>rfl
def sat (n:Int):Int:=if n< -1000000 then -1000000 else if n>1000000 then 1000000 else n
theorem oJ (n:Int): -1000000≤sat n∧sat n≤1000000:=by unfold sat;split;omega;split<;>omega
theorem xO (a:Int):dd.f a (-1000000) 1000000=some (sat a):=by
 simp only[dd.f,dd.begin,Tr.af,Tr.ak,decide_eq_true_eq,sat];rw[if_neg (by omega)];split
 ·rfl
 ·split<;>rfl
theorem xT (a:Int):ek.f a (-1000000) 1000000=some (sat a):=by
 simp only[ek.f,ek.begin,Tr.af,Tr.ak,decide_eq_true_eq,sat];rw[if_neg (by omega)];refine congrArg some (show(_:Int)=_ from ?_);split<;>split<;>(try split)<;>(try split)<;>omega
theorem lh (a:Int):bL.f a=some (sat a):=by simp only[bL.f,bL.begin,Tr.ag,Tr.ak,dd.told,xO,ae]
theorem lk (a:Int):cW.f a=some (sat a):=by simp only[cW.f,cW.begin,Tr.ag,Tr.ak,ek.told,xT,ae]
theorem Bc (a b:Int):wr (sat a+sat b)=sat a+sat b:=bZ (by have:=oJ a;have:=oJ b;omega)
theorem A7 (a b:Int):wr (sat a-sat b)=sat a-sat b:=bZ (by have:=oJ a;have:=oJ b;omega)
theorem DN (x y:Int) (hx: -1000000≤x∧x≤1000000) (hy: -1000000≤y∧y≤1000000): -1000000000000≤x*y∧x*y≤1000000000000:=by
 have h1:=Int.mul_nonneg (a:=1000000-x) (b:=1000000-y) (by omega) (by omega);have h2:=Int.mul_nonneg (a:=1000000+x) (b:=1000000+y) (by omega) (by omega);have h3:=Int.mul_nonneg (a:=1000000-x) (b:=1000000+y) (by omega) (by omega);have h4:=Int.mul_nonneg (a:=1000000+x) (b:=1000000-y) (by omega) (by omega);rw[Int.sub_mul,Int.mul_sub,Int.mul_sub]at h1;rw[Int.add_mul,Int.mul_add,Int.mul_add]at h2;rw[Int.sub_mul,Int.mul_add,Int.mul_add]at h3;rw[Int.add_mul,Int.mul_sub,Int.mul_sub]at h4;generalize x*y=p at*;omega
theorem Bn (a b:Int):wr (sat a*sat b)=sat a*sat b:=bZ (by have:=DN _ _ (oJ a) (oJ b);omega)
theorem mZ (a b:Int):cR.f a b=some (sat (sat a+sat b)):=by simp only[cR.f,cR.begin,Tr.ag,Tr.ak,bL.told,lh,ae,Bc]
theorem nu (a b:Int):fR.f a b=some (sat (sat a+sat b)):=by simp only[fR.f,fR.begin,Tr.ag,Tr.ak,cW.told,lk,ae,Bc]
theorem s7 (a b:Int):du.f a b=some (sat (sat a-sat b)):=by simp only[du.f,du.begin,Tr.ag,Tr.ak,bL.told,lh,ae,A7]
theorem sJ (a b:Int):gV.f a b=some (sat (sat a-sat b)):=by simp only[gV.f,gV.begin,Tr.ag,Tr.ak,cW.told,lk,ae,A7]
theorem sY (a b:Int):dv.f a b=some (sat (sat a*sat b)):=by simp only[dv.f,dv.begin,Tr.ag,Tr.ak,bL.told,lh,ae,Bn]
theorem sg (a b:Int):gS.f a b=some (sat (sat a*sat b)):=by simp only[gS.f,gS.begin,Tr.ag,Tr.ak,cW.told,lk,ae,Bn]
def Bz (b:Bool):Int:=if b=true then 1 else 0
theorem p8 (b:Bool):fg.f b=some (Bz b):=by cases b<;>rfl
theorem vB (b:Bool):kr.f b=some (Bz b):=by cases b<;>rfl
def val (vs:List Int) (n:Int):Int:=if n<0 then cT vs (-1-n)else n
theorem xi {vs:List Int} {n:Int} (hv:vs.length=8) (hn: -8≤n) (h:n<0):wr (-1-n)= -1-n∧((0:Int)≤-1-n∧-1-n<(vs.length:Int)):=⟨bZ (by omega),by omega,by omega⟩
theorem oc (vs:List Int) (n:Int) (hv:vs.length=8) (hn: -8≤n):dC.f vs n=some (val vs n):=by
 simp only[dC.f,dC.begin,Tr.af,Tr.al,Tr.ak,decide_eq_true_eq];unfold val
 by_cases h:n<0
 ·obtain⟨w,f⟩:=xi hv hn h;rw[if_pos h,if_pos h,w,if_pos f]
 ·rw[if_neg h,if_neg h]
theorem oL (vs:List Int) (n:Int) (hv:vs.length=8) (hn: -8≤n):iw.f vs n=some (val vs n):=by
 simp only[iw.f,iw.begin,Tr.af,Tr.al,Tr.ak,decide_eq_true_eq];unfold val
 by_cases h:n<0
 ·obtain⟨w,f⟩:=xi hv hn h;rw[if_pos h,if_pos h,w,if_pos f]
 ·rw[if_neg h,if_neg h]
def D8 (vs:List Int) (o a b:Int):Int:=
 if o=1 then sat (sat (val vs a)+sat (val vs b))else if o=2 then sat (sat (val vs a)-sat (val vs b))else if o=3 then sat (sat (val vs a)*sat (val vs b))
 else if o=4 then(if val vs b<val vs a then val vs b else val vs a)else if o=5 then(if val vs b>val vs a then val vs b else val vs a)
 else if o=6 then Bz (decide (val vs a<val vs b))else Bz (decide (val vs a=val vs b))
theorem vj (vs:List Int) (o a b:Int) (hv:vs.length=8) (ha: -8≤a) (hb: -8≤b):cf.f vs o a b=some (D8 vs o a b):=by
 simp only[cf.f,cf.begin,Tr.ag,Tr.af,Tr.ak,dC.told,oc vs a hv ha,oc vs b hv hb,cR.told,mZ,du.told,s7,dv.told,sY,fg.told,p8,ae,decide_eq_true_eq,D8];split
 ·rfl
 split
 ·rfl
 split
 ·rfl
 split
 ·rfl
 split
 ·rfl
 split<;>rfl
def Ao (vs:List Int):Bool:=vs.all isVal&&decide ((vs.length:Int)=8)
theorem vF {o a b:Int} (h:pM o a b=true):(1≤o∧o≤7)∧(-8≤a∧a≤999)∧(-8≤b∧b≤999):=by
 unfold pM at h;rw[Bool.and_eq_true,Bool.and_eq_true,ba,ba,ba]at h;exact⟨h.1,h.2.1,h.2.2⟩
theorem Dc {vs:List Int} (h:Ao vs=true):vs.length=8:=by
 unfold Ao at h;rw[Bool.and_eq_true]at h;have:=of_decide_eq_true h.2;omega
theorem ue (vs:List Int) (o a b:Int) (hl:vs.length≤1048576):dV.f vs o a b=some (if Ao vs=true then(if pM o a b=true then D8 vs o a b else 0)else 0):=by
 simp only[dV.f,dV.begin,Tr.ag,Tr.af,Tr.ak,Tr.aZ,iv.told,qq vs hl,cH.told,iD,ae];show(if(!Ao vs)=true then _ else _)=_;cases hv:Ao vs with
 | false=>rfl
 | true=>
   cases hx:pM o a b with
   | false=>rfl
   | true=>
     obtain⟨_,ha,hb⟩:=vF hx;have hl8:=Dc hv;simp only[Bool.not_true,Bool.false_eq_true,↓reduceIte,iw.told,oL vs a hl8 ha.1,oL vs b hl8 hb.1,fR.told,nu,gV.told,sJ,gS.told,sg,kr.told,vB,ae,decide_eq_true_eq,D8];split
     ·rfl
     split
     ·rfl
     split
     ·rfl
     split
     ·rfl
     split
     ·rfl
     split<;>rfl
theorem xz {x:Int}:isVal x=true↔-1000000≤x∧x≤1000000:=ba
theorem Bq {vs:List Int} (h:vs.all isVal=true) (i:Int):isVal (cT vs i)=true:=by
 unfold cT;rw[List.getD_eq_getElem?_getD];cases hg:vs[i.toNat]? with
 | none=>rfl
 | some x=>exact List.all_eq_true.mp h x (List.mem_of_getElem? hg)
theorem A8 {vs:List Int} {n:Int} (h:vs.all isVal=true) (hn:n≤999):isVal (val vs n)=true:=by
 unfold val;split
 ·exact Bq h _
 ·rw[xz];omega
theorem Db {vs:List Int} {o a b:Int} (hv:Ao vs=true) (hx:pM o a b=true):isVal (D8 vs o a b)=true:=by
 unfold Ao at hv;rw[Bool.and_eq_true]at hv;obtain⟨_,ha,hb⟩:=vF hx;have va:=A8 (n:=a) hv.1 ha.2;have vb:=A8 (n:=b) hv.1 hb.2;have hs:∀n,isVal (sat n)=true:=fun n=>xz.mpr (oJ n);have h01:∀b,isVal (Bz b)=true:=fun b=>by cases b<;>rfl
 unfold D8;split
 ·exact hs _
 split
 ·exact hs _
 split
 ·exact hs _
 split
 ·split
  ·exact vb
  ·exact va
 split
 ·split
  ·exact vb
  ·exact va
 split
 ·exact h01 _
 ·exact h01 _
def sc (m:List Int):Nat→List fG→Option (List fG)
 | 0,acc=>some acc
 | i+1,acc=>if fF (cT m (9+2*(i:Int))) 0 7=true then sc m i (acc++[(⟨cT m (9+2*(i:Int)),cT m (9+2*(i:Int)+1)⟩:fG)])else none
def sC (m:List Int) (o:Option (List fG)):List fG:=match o with
 | some l=>l++[(⟨8,pack (unpack (cT m 8)).1 0 (unpack (cT m 8)).2.2⟩:fG)]
 | none=>[]
def lD (m:List Int):List fG:=if m.length=49 then(if(unpack (cT m 8)).2.1<1 then[]else sC m (sc m (unpack (cT m 8)).2.1.toNat []))else[]
theorem zd (m:List Int):∀(i:Nat) (acc l:List fG),sc m i acc=some l→l.length=acc.length+i
 | 0,acc,l,h=>by cases h;rfl
 | i+1,acc,l,h=>by
   unfold sc at h;split at h
   ·have:=zd m i _ l h;rw[List.length_append,List.length_singleton]at this;omega
   ·cases h
theorem nA (c:Int) (h:¬(unpack c).2.1<1):(unpack c).2.1≤8:=by
 rcases pI c with e | e
 ·rw[e]at h;exact absurd (by decide) h
 ·omega
theorem wc (m:List Int):(lD m).length≤9:=by
 unfold lD;split
 ·split
  ·simp
  ·rename_i h;have h8:=nA _ h;unfold sC;split
   ·rename_i l hl;have:=zd m _ _ _ hl;rw[List.length_append,List.length_singleton];rw[List.length_nil]at this;omega
   ·simp
 ·simp
theorem xB (m:List Int) (hm:m.length=49) (i:Nat) (hi:i<8):
 wr (2*(i:Int))=2*(i:Int)∧wr (9+2*(i:Int))=9+2*(i:Int)∧wr (9+2*(i:Int)+1)=9+2*(i:Int)+1∧((0:Int)≤9+2*(i:Int)∧9+2*(i:Int)<(m.length:Int))∧((0:Int)≤9+2*(i:Int)+1∧9+2*(i:Int)+1<(m.length:Int))∧wr ((i:Int)-1)=(i:Int)-1∧((i+1:Nat):Int)-1=(i:Int)∧decide ((i:Int)≥0)=true:=
 ⟨bZ (by omega),bZ (by omega),bZ (by omega),by omega,by omega,bZ (by omega),by omega,decide_eq_true (by omega)⟩
theorem pR (m:List Int) (hm:m.length=49) (t c tl:Int) (hc:¬c<1):∀(i:Nat) (acc:List fG),i≤8→acc.length+i≤8→
 lp aU.tree (.c6 m acc t c tl ((i:Int)-1))=some (match sc m i acc with | some l=>l++[(⟨8,pack t 0 tl⟩:fG)] | none=>[])
 | 0,acc,_,ha=>by
   rw[aA];have h1:∀x:fG,((acc.length:Int)+(([x]:List fG).length:Int))*(16:Nat)≤room:=fun x=>fits acc [x] (by omega) (by simp) 16 (by omega);have h2:decide (((0:Nat):Int)-1≥0)=false:=by decide
   have h3:decide (c≤0)=false:=decide_eq_false (by omega);simp only[aU.tree,Tr.af,Tr.al,Tr.ag,Tr.ak,h2,h3,bn.told,iW,ae,h1,Bool.false_eq_true,↓reduceIte,sc]
 | i+1,acc,hi,ha=>by
   rw[aA];obtain⟨w1,w2,w3,n1,n2,w4,e1,e2⟩:=xB m hm i (by omega);have h1:∀x:fG,((acc.length:Int)+(([x]:List fG).length:Int))*(16:Nat)≤room:=fun x=>fits acc [x] (by omega) (by simp) 16 (by omega);simp only[aU.tree,Tr.af,Tr.al,Tr.ag,Tr.ak,Tr.fZ,Tr.ai,e1,e2,w1,w2,w3,w4,n1,n2,and_self,aC.told,dk,ae,h1,↓reduceIte];unfold sc;cases hb:fF (cT m (9+2*(i:Int))) 0 7 with
   | false=>rfl
   | true=>
     simp only[Bool.not_true,Bool.false_eq_true,↓reduceIte];exact pR m hm t c tl hc i _ (by omega) (by rw[List.length_append,List.length_singleton];omega)
theorem pP (m:List Int) (hm:m.length=49) (t tl:Int):∀(i:Nat) (acc:List fG),i≤8→acc.length+i≤8→
 lp cP.tree (.c8 m t tl acc ((i:Int)-1))=some (match sc m i acc with | some l=>l++[(⟨8,pack t 0 tl⟩:fG)] | none=>[])
 | 0,acc,_,ha=>by
   rw[aA];have h1:∀x:fG,((acc.length:Int)+(([x]:List fG).length:Int))*(16:Nat)≤room:=fun x=>fits acc [x] (by omega) (by simp) 16 (by omega);have h2:decide (((0:Nat):Int)-1≥0)=false:=by decide
   simp only[cP.tree,Tr.af,Tr.al,Tr.ag,Tr.ak,h2,bd.told,iR,ae,h1,Bool.false_eq_true,↓reduceIte,sc]
 | i+1,acc,hi,ha=>by
   rw[aA];obtain⟨w1,w2,w3,n1,n2,w4,e1,e2⟩:=xB m hm i (by omega);have h1:∀x:fG,((acc.length:Int)+(([x]:List fG).length:Int))*(16:Nat)≤room:=fun x=>fits acc [x] (by omega) (by simp) 16 (by omega);simp only[cP.tree,Tr.af,Tr.al,Tr.ag,Tr.ak,Tr.fZ,Tr.ai,e1,e2,w1,w2,w3,w4,n1,n2,and_self,dG.told,dG.f,dG.begin,aG.told,cV,ae,h1,↓reduceIte];unfold sc;cases hb:fF (cT m (9+2*(i:Int))) 0 7 with
   | false=>rfl
   | true=>
     simp only[Bool.not_true,Bool.false_eq_true,↓reduceIte];exact pP m hm t tl i _ (by omega) (by rw[List.length_append,List.length_singleton];omega)
theorem w8 (m:List Int) (t c tl i:Int) (hi:i<0) (hc:c<1):lp aU.tree (.c6 m [] t c tl i)=some []:=by
 rw[aA];have h2:decide (i≥0)=false:=decide_eq_false (by omega);have h3:decide (c≤0)=true:=decide_eq_true (by omega);simp only[aU.tree,Tr.af,Tr.ak,h2,h3,Bool.false_eq_true,↓reduceIte]
theorem kD (m:List Int):aU.f m=some (lD m):=by
 simp only[aU.f,aU.begin,Tr.af,Tr.al,Tr.ag,Tr.ak,Tr.ai,bc.told,iu,ae];unfold lD
 by_cases hm:m.length=49
 ·have hm':decide ((m.length:Int)=49)=true:=decide_eq_true (by omega);rw[if_pos hm];simp only[hm',kR m hm,and_self,Bool.not_true,Bool.false_eq_true,↓reduceIte]
  by_cases h:(unpack (cT m 8)).2.1<1
  ·rw[if_pos h]
   have hw:wr ((unpack (cT m 8)).2.1-1)<0:=by
    have:wr ((unpack (cT m 8)).2.1-1)=(unpack (cT m 8)).2.1-1:=bZ (by rcases pI (cT m 8)with e | e<;>first | (rw[e];decide) | omega);omega
   exact w8 m _ _ _ _ hw h
  ·rw[if_neg h];have h8:=nA _ h;obtain⟨n,hn⟩:∃n:Nat,(unpack (cT m 8)).2.1=n:=⟨(unpack (cT m 8)).2.1.toNat,by omega⟩;have hw:wr ((unpack (cT m 8)).2.1-1)=(n:Int)-1:=by rw[hn];exact bZ (by omega)
   rw[hw,pR m hm _ _ _ h n [] (by omega) (by simp;omega),hn,Int.toNat_natCast];rfl
 ·have hm':decide ((m.length:Int)=49)=false:=decide_eq_false (by omega);rw[if_neg hm];simp only[hm',Bool.not_false,↓reduceIte]
theorem kA (m:List Int):cP.f m=some (lD m):=by
 simp only[cP.f,cP.begin,Tr.af,Tr.al,Tr.ag,Tr.ak,Tr.ai,aS.told,gB,ae,decide_eq_true_eq];unfold lD
 by_cases hm:m.length=49
 ·have hm':decide ((m.length:Int)=49)=true:=decide_eq_true (by omega);rw[if_pos hm];simp only[hm',kR m hm,and_self,Bool.not_true,Bool.false_eq_true,↓reduceIte]
  by_cases h:(unpack (cT m 8)).2.1<1
  ·rw[if_pos h,if_pos h]
  ·rw[if_neg h,if_neg h];have h8:=nA _ h;obtain⟨n,hn⟩:∃n:Nat,(unpack (cT m 8)).2.1=n:=⟨(unpack (cT m 8)).2.1.toNat,by omega⟩;have hw:wr ((unpack (cT m 8)).2.1-1)=(n:Int)-1:=by rw[hn];exact bZ (by omega)
   rw[hw,pP m hm _ _ n [] (by omega) (by simp;omega),hn,Int.toNat_natCast];rfl
 ·have hm':decide ((m.length:Int)=49)=false:=decide_eq_false (by omega);rw[if_neg hm];simp only[hm',Bool.not_false,↓reduceIte]
def DD (m:List Int) (w:fG):List Int:=if fF w.f0 0 ((m.length:Int)-1)=true then m.set w.f0.toNat w.f1 else m
def km (m:List Int) (l:List fG):List Int:=l.foldl DD m
theorem Br (m:List Int) (w:fG):(DD m w).length=m.length:=by unfold DD;split<;>simp
theorem wA:∀(l:List fG) (m:List Int),(km m l).length=m.length
 | [],m=>rfl
 | w::l,m=>by
   show(km (DD m w) l).length=_;rw[wA l,Br]
theorem qU (m:List Int) (l:List fG) (k:Nat) (hm:m.length≤1048576) (hl:l.length≤1048576):bF.f m l (k:Int)=some (km m (l.take k)):=by
 simp only[bF.f,bF.begin,Tr.al,Tr.ai,fits ([]:List Int) m (by simp) hm 8 (by omega),↓reduceIte,List.nil_append];refine sZ (l.take k) DD id (fun _ s=>s.length=m.length) (fun i s=>lp bF.tree (.c3 m l (k:Int) s (i:Int))) m rfl (fun i h s hs=> ?_) (fun s hs=> ?_)
 ·have h':=h;rw[List.length_take]at h';have h1:i<l.length:=by omega
  have h2:i<k:=by omega
  refine⟨?_,by rw[Br];exact hs⟩;rw[aA,List.getElem_take];have hw:wr ((m.length:Int)-1)=(m.length:Int)-1:=bZ (by omega);simp only[bF.tree,Tr.af,Tr.al,Tr.ag,Tr.ai,Tr.aZ,aC.told,dk,ae,aX h1,aX h2,bJ h1,aP h1,and_self,↓reduceIte,hw,aH (show i<4611686018427387904 by omega)];unfold DD;rw[hs];cases hb:fF l[i].f0 0 ((m.length:Int)-1)with
  | false=>rfl
  | true=>
    rw[ba]at hb;have hn:(0:Int)≤l[i].f0∧l[i].f0<(m.length:Int):=by omega
    simp only[hn,and_self,decide_true,↓reduceIte]
 ·rw[aA,List.length_take]
  by_cases h:l.length≤k
  ·simp only[bF.tree,Tr.af,Tr.ak,Nat.min_eq_right h,cO,Bool.false_eq_true,↓reduceIte,id]
  ·simp only[bF.tree,Tr.af,Tr.ak,Nat.min_eq_left (by omega:k≤l.length),cO,Bool.false_eq_true,↓reduceIte,id];split<;>rfl
theorem fh {n:Nat} {m:List Int} (h:ji n m=true):m.length=49∧¬(unpack (cT m 8)).1<0∧(unpack (cT m 8)).1<n∧(m.take 8).all isVal=true∧(me m).all isVal=true∧(List.range (Int.toNat (unpack (cT m 8)).2.1)).all (jg m)=true:=by
 unfold ji at h;simp only[Bool.and_eq_true,decide_eq_true_eq,Bool.not_eq_true',decide_eq_false_iff_not]at h;exact⟨h.1,h.2.1,by omega,h.2.2.2.1,h.2.2.2.2.1,h.2.2.2.2.2⟩
theorem vG (m:List Int):eE.f m=some (if m.length=49 then m.take 8 else[]):=by
 simp only[eE.f,eE.begin,Tr.af,Tr.al,Tr.ak,List.nil_append]
 by_cases hm:m.length=49
 ·have hm':decide ((m.length:Int)=49)=true:=decide_eq_true (by omega);have n1:(0:Int)≤0∧(0:Int)≤8∧(8:Int)≤(m.length:Int):=by omega
  have n2:=fits ([]:List Int) (m.take (Int.toNat 8)) (by simp) (by rw[List.length_take];omega) 8 (by omega);rw[if_pos hm];simp only[hm',n1,n2,and_self,Bool.not_true,Bool.false_eq_true,↓reduceIte];rfl
 ·have hm':decide ((m.length:Int)=49)=false:=decide_eq_false (by omega);rw[if_neg hm];simp only[hm',Bool.not_false,↓reduceIte]
theorem oZ (m:List Int):dx.f m=some (if m.length=49 then m.take 8 else[]):=by
 simp only[dx.f,dx.begin,Tr.af,Tr.al,Tr.ak,Tr.ag]
 by_cases hm:m.length=49
 ·have hm':decide ((m.length:Int)=49)=true:=decide_eq_true (by omega);have n1:(0:Int)≤0∧(0:Int)≤8∧(8:Int)≤(m.length:Int):=by omega
  rw[if_pos hm];simp only[hm',n1,and_self,Bool.not_true,Bool.false_eq_true,↓reduceIte,aI.told,eB (m.take (Int.toNat 8)) (by rw[List.length_take];omega),ae];rfl
 ·have hm':decide ((m.length:Int)=49)=false:=decide_eq_false (by omega);rw[if_neg hm];simp only[hm',Bool.not_false,↓reduceIte]
def Ok {A:Type} (o:Option A) (P:A→Prop):Prop:=∃r,o=some r∧P r
theorem upto {S R:Type} (N:Nat) (Inv:Nat→S→Prop) (L:Nat→S→Option R) (P:R→Prop)
 (h:∀i,i≤N→∀s,Inv i s→Ok (L i s) P∨(i<N∧∃s',L i s=L (i+1) s'∧Inv (i+1) s')):∀i,i≤N→∀s,Inv i s→Ok (L i s) P:=by
 have key:∀(n i:Nat),i+n=N→∀s,Inv i s→Ok (L i s) P:=by
  intro n
  induction n with
  | zero=>
    intro i hi s hs;rcases h i (by omega) s hs with e | ⟨e,_⟩
    ·exact e
    ·omega
  | succ n ih=>
    intro i hi s hs;rcases h i (by omega) s hs with e | ⟨_,s',e,hs'⟩
    ·exact e
    ·rw[e];exact ih (i+1) (by omega) s' hs'
 exact fun i hi s hs=>key (N-i) i (by omega) s hs
def mB (b:List Int) (i:Int):Prop:=b.length≤1048576∧0≤i
theorem uk (x:Int):0≤jU .i64 x 255∧jU .i64 x 255≤255:=by
 unfold jU
 have h:(BitVec.ofInt (IntKind.bits .i64) x&&& BitVec.ofInt (IntKind.bits .i64) 255).toNat≤255:=by
  rw[BitVec.toNat_and];exact Nat.le_trans Nat.and_le_right (by decide)
 rw[bZ (by omega)];omega
theorem jR {b:List Int} {i:Int} (h:Int) (c:mB b i):∃x i' h',cC.f b i h=some (x,b,i',h')∧0≤x∧x≤255∧mB b i':=by
 have h1:(0:Int)≤33:=by omega
 have h2:(0:Int)≤45:=by omega
 simp only[cC.f,cC.begin,Tr.fe,Tr.al,Tr.fZ,Tr.aZ,Tr.ai,cr,h1,h2,↓reduceIte];rw[aA]
 by_cases q:i<(b.length:Int)
 ·have h3:(0:Int)≤i∧i<(b.length:Int):=⟨c.2,q⟩;simp only[cC.tree,Tr.af,Tr.al,Tr.aZ,Tr.ak,decide_eq_true q,h3,and_self,↓reduceIte];have w:wr (i+1)=i+1:=bZ (by have:=c.1;have:=c.2;omega);exact⟨_,_,_,rfl,(uk _).1,(uk _).2,c.1,by rw[w];have:=c.2;omega⟩
 ·simp only[cC.tree,Tr.af,Tr.ak,decide_eq_false q,Bool.false_eq_true,↓reduceIte];exact⟨_,_,_,rfl,(uk _).1,(uk _).2,c⟩
theorem bp {b:List Int} {i:Int} (n h:Int) (hn:1≤n) (c:mB b i):∃x i' h',au.f n b i h=some (x,b,i',h')∧0≤x∧x<n∧mB b i':=by
 have h0:decide (n≤0)=false:=decide_eq_false (by omega);have h1:n≠0:=by omega
 obtain⟨x1,i1,j1,e1,a1,b1,c1⟩:=jR h c
 by_cases q:n≤256
 ·simp only[au.f,au.begin,Tr.af,Tr.ag,Tr.al,Tr.ak,h0,decide_eq_true q,cC.told,e1,ae,h1,ne_eq,not_false_eq_true,Bool.false_eq_true,↓reduceIte];refine⟨_,_,_,rfl,?_,?_,c1⟩
  ·rw[Int.tmod_eq_emod_of_nonneg a1];exact Int.emod_nonneg _ h1
  ·rw[Int.tmod_eq_emod_of_nonneg a1];exact Int.emod_lt_of_pos _ (by omega)
 ·obtain⟨x2,i2,j2,e2,a2,b2,c2⟩:=jR j1 c1;obtain⟨x3,i3,j3,e3,a3,b3,c3⟩:=jR j2 c2;obtain⟨x4,i4,j4,e4,a4,b4,c4⟩:=jR j3 c3;have w1:wr (x1*16777216)=x1*16777216:=bZ (by omega);have w2:wr (x2*65536)=x2*65536:=bZ (by omega);have w3:wr (x3*256)=x3*256:=bZ (by omega);have w4:wr (x1*16777216+x2*65536)=x1*16777216+x2*65536:=bZ (by omega);have w5:wr (x1*16777216+x2*65536+x3*256)=x1*16777216+x2*65536+x3*256:=bZ (by omega);have w6:wr (x1*16777216+x2*65536+x3*256+x4)=x1*16777216+x2*65536+x3*256+x4:=bZ (by omega);have a0:0≤x1*16777216+x2*65536+x3*256+x4:=by omega
  simp only[au.f,au.begin,Tr.af,Tr.ag,Tr.al,Tr.fZ,Tr.ak,h0,decide_eq_false q,cC.told,e1,e2,e3,e4,ae,h1,ne_eq,not_false_eq_true,Bool.false_eq_true,↓reduceIte,w1,w2,w3,w4,w5,w6];refine⟨_,_,_,rfl,?_,?_,c4⟩
  ·rw[Int.tmod_eq_emod_of_nonneg a0];exact Int.emod_nonneg _ h1
  ·rw[Int.tmod_eq_emod_of_nonneg a0];exact Int.emod_lt_of_pos _ (by omega)
theorem il {b:List Int} {i:Int} (n h:Int) (hn:1≤n) (c:mB b i):∃x i' h',bx.f n b i h=some (x,b,i',h')∧mB b i':=by
 obtain⟨x1,i1,j1,e1,a1,b1,c1⟩:=bp n h hn c;simp only[bx.f,bx.begin,Tr.ag,Tr.ak,au.told,e1,ae];exact⟨_,_,_,rfl,c1⟩
theorem jT {b:List Int} {i:Int} (l:List Int) (h:Int) (P:Int→Prop) (hn:1≤l.length) (hp:∀x∈l,P x) (c:mB b i):∃x i' h',bW.f l b i h=some (x,b,i',h')∧P x∧mB b i':=by
 obtain⟨x1,i1,j1,e1,a1,b1,c1⟩:=bp (l.length:Int) h (by omega) c;have h1:(0:Int)≤x1∧x1<(l.length:Int):=⟨a1,b1⟩;simp only[bW.f,bW.begin,Tr.ag,Tr.al,Tr.ak,au.told,e1,ae,h1,and_self,↓reduceIte];refine⟨_,_,_,rfl,?_,c1⟩;have h2:x1.toNat<l.length:=by omega
 have:cT l x1=l[x1.toNat]:=by show l.getD x1.toNat 0=_;rw[List.getD_eq_getElem?_getD,List.getElem?_eq_getElem h2];rfl
 rw[this];exact hp _ (List.getElem_mem h2)
theorem uQ (b:List Int) (hb:b.length≤1048576):∃h,eR.f b=some (b,0,h):=by
 have key:=upto b.length (fun _ (_:Int)=>True) (fun i s=>lp eR.tree (.c3 b s (i:Int))) (fun r=>∃h,r=(b,0,h)) (fun i hi s _=>by
  rw[aA]
  by_cases q:i<b.length
  ·by_cases q':(i:Int)<4000
   ·refine Or.inr ⟨q,jU .i64 (wr (wr (wr (s*131)+wr (cT b (i:Int)))+7)) 1073741823,?_,trivial⟩;simp only[eR.tree,Tr.af,Tr.al,Tr.fZ,Tr.ai,aX q,decide_eq_true q',decide_true,q',bJ q,and_self,↓reduceIte,aH (show i<4611686018427387904 by omega)]
   ·refine Or.inl ⟨(b,0,s),?_,s,rfl⟩;simp only[eR.tree,Tr.af,Tr.ak,aX q,decide_eq_false q',Bool.false_eq_true,↓reduceIte]
  ·refine Or.inl ⟨(b,0,s),?_,s,rfl⟩;obtain rfl:i=b.length:=by omega
   simp only[eR.tree,Tr.af,Tr.ak,cO,Bool.false_eq_true,↓reduceIte]) 0 (by omega) (wr (98347+(b.length:Int))) trivial
 obtain⟨r,e,h,rfl⟩:=key;exact⟨h,e⟩
theorem l9 {b:List Int} {i:Int} (h:Int) (c:mB b i):∃x i' h',cl.f b i h=some (x,b,i',h')∧fF x (-8) 999=true∧mB b i':=by
 obtain⟨x1,i1,j1,e1,c1⟩:=il 2 h (by omega) c;cases x1 with
 | true=>
   obtain⟨x2,i2,j2,e2,a2,b2,c2⟩:=bp 5 j1 (by omega) c1;simp only[cl.f,cl.begin,Tr.ag,Tr.af,Tr.ak,bx.told,e1,au.told,e2,ae,↓reduceIte];refine⟨_,_,_,rfl,?_,c2⟩;have w:wr (-1-x2)= -1-x2:=bZ (by omega);rw[w,ba];omega
 | false=>
   obtain⟨x2,i2,j2,e2,a2,c2⟩:=jT [0,1,2,3,10,999] j1 (fun x=>fF x (-8) 999=true) (by decide) (by decide) c1;simp only[cl.f,cl.begin,Tr.ag,Tr.af,Tr.ak,bx.told,e1,bW.told,e2,ae,Bool.false_eq_true,↓reduceIte];exact⟨_,_,_,rfl,a2,c2⟩
theorem jQ {b:List Int} {i:Int} (h:Int) (c:mB b i):∃o x y i' h',cD.f b i h=some (o,x,y,b,i',h')∧pM o x y=true∧mB b i':=by
 obtain⟨x1,i1,j1,e1,a1,b1,c1⟩:=bp 7 h (by omega) c;obtain⟨x2,i2,j2,e2,a2,c2⟩:=l9 j1 c1;obtain⟨x3,i3,j3,e3,a3,c3⟩:=l9 j2 c2;simp only[cD.f,cD.begin,Tr.ag,Tr.ak,au.told,e1,cl.told,e2,e3,ae];refine⟨_,_,_,_,_,rfl,?_,c3⟩;unfold pM;have w:wr (1+x1)=1+x1:=bZ (by omega);rw[a2,a3,w];simp only[Bool.and_true,ba];omega
theorem tO {b:List Int} {i:Int} (h:Int) (c:mB b i):∃l i' h',bE.f b i h=some (l,b,i',h')∧l.all isVal=true∧l.length=8∧mB b i':=by
 have key:=upto 8 (fun k (s:List Int×Int×Int)=>s.1.length=k∧s.1.all isVal=true∧mB b s.2.1) (fun k s=>lp bE.tree (.c3 s.1 (k:Int) b s.2.1 s.2.2)) (fun r=>∃l i' h',r=(l,b,i',h')∧l.all isVal=true∧l.length=8∧mB b i') (fun k hk s hs=>by
  obtain⟨s1,s2,s3⟩:=s;obtain⟨hl,hv,hc⟩:=hs;simp only at hl hv hc;rw[aA]
  by_cases q:k<8
  ·obtain⟨x1,i1,j1,e1,a1,b1,c1⟩:=bp 2000 s3 (by omega) hc;have w:wr (x1-1000)=x1-1000:=bZ (by omega);have hvx:isVal (x1-1000)=true:=by unfold isVal;rw[ba];omega
   obtain⟨x2,i2,j2,e2,a2,c2⟩:=jT [0,1,2,5,x1-1000,1000000] j1 (fun x=>isVal x=true) (by simp) (by
    intro x hx;simp only[List.mem_cons,List.not_mem_nil,or_false]at hx;rcases hx with rfl | rfl | rfl | rfl | rfl | rfl
    ·rfl
    ·rfl
    ·rfl
    ·rfl
    ·exact hvx
    ·rfl) c1
   have q':decide ((k:Int)<8)=true:=decide_eq_true (by omega);refine Or.inr ⟨q,(s1++[x2],i2,j2),?_,by simp[hl],by simp[hv,a2],c2⟩;simp only[bE.tree,Tr.ag,Tr.af,Tr.al,Tr.ai,q',au.told,e1,w,bW.told,e2,ae,dH s1 x2 1048576 (by omega) (by omega) 8 (by omega),↓reduceIte,aH (show k<4611686018427387904 by omega)]
  ·have q':decide ((k:Int)<8)=false:=decide_eq_false (by omega);refine Or.inl ⟨(s1,b,s2,s3),?_,s1,s2,s3,rfl,hv,by omega,hc⟩;simp only[bE.tree,Tr.af,Tr.ak,q',Bool.false_eq_true,↓reduceIte]) 0 (by omega) ([],i,h) ⟨rfl,rfl,c⟩
 obtain⟨r,e,l,i',h',rfl,p⟩:=key;exact⟨l,i',h',e,p⟩
theorem tS {b:List Int} {i:Int} (h:Int) (c:mB b i):∃x0 x1 x2 x3 x4 x5 i' h',dj.f b i h=some (x0,x1,x2,x3,x4,x5,b,i',h')∧jO x0 x1 x2 x3 x4 x5=true∧x0≤3∧mB b i':=by
 obtain⟨x1,i1,j1,e1,a1,b1,c1⟩:=bp 7 h (by omega) c;obtain⟨x2,i2,j2,e2,a2,b2,c2⟩:=bp 5 j1 (by omega) c1;obtain⟨x3,i3,j3,e3,a3,b3,c3⟩:=bp 4 j2 (by omega) c2;obtain⟨o4,x4,y4,i4,j4,e4,a4,c4⟩:=jQ j1 c1;obtain⟨o5,x5,y5,i5,j5,e5,a5,c5⟩:=jQ j2 c2
 have k1:jO 2 x2 x3 0 0 0=true:=by
  have h1:fF x2 0 7=true:=by rw[ba];omega
  have h2:fF x3 0 3=true:=by rw[ba];omega
  simp[jO,h1,h2]
 have k2:jO 3 0 0 o4 x4 y4=true:=by simp[jO,a4]
 have k3:jO 1 x2 0 o5 x5 y5=true:=by
  have h1:fF x2 0 7=true:=by rw[ba];omega
  simp[jO,a5,h1]
 simp only[dj.f,dj.begin,Tr.ag,Tr.af,Tr.ak,au.told,e1,e2,e3,cD.told,e4,e5,ae]
 by_cases q0:x1=0
 ·simp only[q0,decide_true,↓reduceIte];exact⟨_,_,_,_,_,_,_,_,rfl,k1,by decide,c3⟩
 ·by_cases q1:x1=1
  ·subst q1;simp only[show decide ((1:Int)=0)=false from rfl,decide_true,Bool.false_eq_true,↓reduceIte];exact⟨_,_,_,_,_,_,_,_,rfl,k1,by decide,c3⟩
  ·by_cases q2:x1=2
   ·subst q2;simp only[show decide ((2:Int)=0)=false from rfl,show decide ((2:Int)=1)=false from rfl,decide_true,Bool.false_eq_true,↓reduceIte];exact⟨_,_,_,_,_,_,_,_,rfl,k2,by decide,c4⟩
   ·simp only[decide_eq_false q0,decide_eq_false q1,decide_eq_false q2,Bool.false_eq_true,↓reduceIte];exact⟨_,_,_,_,_,_,_,_,rfl,k3,by decide,c5⟩
def Trans (d:Int) (l:List aw):Prop:=∀n t,okB n (l++t) d=okB n t d
theorem Trans.nil (d:Int):Trans d []:=fun _ _=>rfl
theorem Trans.app {d:Int} {l m:List aw} (h:Trans d l) (g:Trans d m):Trans d (l++m):=fun n t=>by rw[List.append_assoc,h,g]
theorem Trans.one {d:Int} {x0 x1 x2 x3 x4 x5:Int} (h:jO x0 x1 x2 x3 x4 x5=true) (h0:x0≤3) (hd:0≤d) (hd':d≤3):Trans d [(⟨x0,x1,x2,(⟨x3,x4,x5⟩:om)⟩:aw)]:=fun n t=>by
 have e:dep x0 d=d:=by unfold dep;rw[if_neg (by omega),if_neg (by omega)]
 have hb:fF d 0 3=true:=by rw[ba];omega
 show(jO x0 x1 x2 x3 x4 x5&&(fF (dep x0 d) 0 3&&okB n t (dep x0 d)))=_;rw[h,e,hb];rfl
theorem Trans.nest {d:Int} {x0 x1 x2 x3 x4 x5:Int} {l:List aw} (h:jO x0 x1 x2 x3 x4 x5=true) (h0:x0=4∨x0=5) (hd:0≤d) (hd':d≤2) (hl:Trans (d+1) l):
 Trans d (([(⟨x0,x1,x2,(⟨x3,x4,x5⟩:om)⟩:aw)]++l)++[(⟨6,0,0,(⟨0,0,0⟩:om)⟩:aw)]):=fun n t=>by
 have e:dep x0 d=d+1:=by unfold dep;rw[if_pos h0]
 have e':dep 6 (d+1)=d:=by unfold dep;rw[if_neg (by omega),if_pos rfl];omega
 have hb:fF (d+1) 0 3=true:=by rw[ba];omega
 have hb':fF d 0 3=true:=by rw[ba];omega
 rw[List.append_assoc,List.append_assoc];show(jO x0 x1 x2 x3 x4 x5&&(fF (dep x0 d) 0 3&&okB n (l++([(⟨6,0,0,(⟨0,0,0⟩:om)⟩:aw)]++t)) (dep x0 d)))=_;rw[h,e,hb,hl];show(true&&(true&&(jO 6 0 0 0 0 0&&(fF (dep 6 (d+1)) 0 3&&okB n t (dep 6 (d+1))))))=_;rw[e',hb'];rfl
def za (d:Int) (n:Nat):Nat:=if d=2 then n else if d=1 then 4*n else 15+n
theorem uj {d:Int} {n:Nat} (hn:n≤5):za d n≤20:=by unfold za;split;omega;split<;>omega
theorem Dj {d:Int} {k n:Nat} (h:k≤za d n):k+1≤za d (n+1):=by unfold za at*;split at h;rw[if_pos ‹_›];omega;rw[if_neg ‹_›];split at h;rw[if_pos ‹_›];omega;rw[if_neg ‹_›];omega
theorem zW {d:Int} {k j n m:Nat} (hd:d=0∨d=1) (h:k≤za d n) (h6:k<6) (hm:m≤2) (hj:j≤za (d+1) m):k+1+j+1≤za d (n+1):=by
 rcases hd with rfl | rfl
 ·have e:za (0+1) m=4*m:=rfl;have e2:za 0 (n+1)=15+(n+1):=rfl;rw[e]at hj;rw[e2];omega
 ·have e:za (1+1) m=m:=rfl;have e2:za 1 (n+1)=4*(n+1):=rfl;have e3:za 1 n=4*n:=rfl;rw[e]at hj;rw[e3]at h;rw[e2];omega
def DB (self_:Self aV.I aV.A aV.K) (d:Int):Prop:=
 ∀(n:Nat) (b:List Int) (i h:Int),n≤5→mB b i→∃l i' h',self_.f ((n:Int),d,b,i,h)=some (l,b,i',h')∧Trans d l∧l.length≤za d n∧mB b i'
theorem uX (self_:Self aV.I aV.A aV.K) (d:Int) (hd:0≤d∧d≤2) (hs:d<2→DB self_ (d+1)):DB (aV.step self_) d:=by
 intro n b i h hn c
 have key:=upto n (fun k (s:List aw×Int×Int)=>Trans d s.1∧s.1.length≤za d k∧mB b s.2.1) (fun k s=>lp (aV.tree self_) (.c3 (n:Int) d s.1 (k:Int) b s.2.1 s.2.2)) (fun r=>∃l i' h',r=(l,b,i',h')∧Trans d l∧l.length≤za d n∧mB b i') (fun k hk s hs'=>by
  obtain⟨s1,s2,s3⟩:=s;obtain⟨hT,hL,hC⟩:=hs';simp only at hT hL hC;rw[aA];have hb20:=uj (d:=d) (show k≤5 by omega)
  by_cases q:k<n
  ·have wk:=aH (show k<4611686018427387904 by omega)
   have plain:∀(s2 s3:Int),mB b s2→∃x0 x1 x2 x3 x4 x5 i' h',dj.f b s2 s3=some (x0,x1,x2,x3,x4,x5,b,i',h')∧Trans d (s1++[(⟨x0,x1,x2,(⟨x3,x4,x5⟩:om)⟩:aw)])∧(s1++[(⟨x0,x1,x2,(⟨x3,x4,x5⟩:om)⟩:aw)]).length≤za d (k+1)∧mB b i':=by
    intro s2 s3 hC;obtain⟨x0,x1,x2,x3,x4,x5,i',h',e,ho,h3,c'⟩:=tS s3 hC;exact⟨x0,x1,x2,x3,x4,x5,i',h',e,hT.app (Trans.one ho h3 (by omega) (by omega)),by rw[List.length_append,List.length_singleton];exact Dj hL,c'⟩
   have fit:∀x:aw,((s1.length:Int)+(([x]:List aw).length:Int))*(48:Nat)≤room:=fun x=>dH s1 x 1048576 (by omega) (by omega) 48 (by omega)
   by_cases q2:d<2
   ·by_cases q6:(s1.length:Int)<6
    ·obtain⟨x1,i1,j1,e1,c1⟩:=il 5 s3 (by omega) hC;cases x1 with
     | false=>
       obtain⟨y0,y1,y2,y3,y4,y5,i2,j2,e2,t2,l2,c2⟩:=plain i1 j1 c1;refine Or.inr ⟨q,(_,i2,j2),?_,t2,l2,c2⟩;simp only[aV.tree,Tr.af,Tr.ag,Tr.fZ,Tr.al,Tr.ai,aX q,decide_eq_true q2,decide_eq_true q6,bx.told,e1,dj.told,e2,ae,fit,wk,Bool.false_eq_true,↓reduceIte]
     | true=>
       obtain⟨x2,i2,j2,e2,a2,b2,c2⟩:=bp 3 j1 (by omega) c1;obtain⟨x3,i3,j3,e3,c3⟩:=il 2 j2 (by omega) c2;have wd:wr (d+1)=d+1:=bZ (by omega);cases x3 with
       | true=>
         obtain⟨o4,x4,y4,i4,j4,e4,a4,c4⟩:=jQ j3 c3;obtain⟨x5,i5,j5,e5,a5,b5,c5⟩:=bp 2 j4 (by omega) c4;obtain⟨m,hm⟩:∃m:Nat,wr (1+x5)=m:=⟨(1+x5).toNat,by have w5:wr (1+x5)=1+x5:=bZ (by omega);omega⟩;have hm2:m≤2:=by have w5:wr (1+x5)=1+x5:=bZ (by omega);omega
         obtain⟨l6,i6,j6,e6,t6,n6,c6⟩:=hs q2 m b i5 j5 (by omega) c5;have hn20:=uj (d:=d+1) (show m≤5 by omega);have fit2:∀x:aw,(((s1++[x]).length:Int)+(l6.length:Int))*(48:Nat)≤room:=fun x=>fits _ _ (by rw[List.length_append,List.length_singleton];omega) (by omega) 48 (by omega);have fit3:∀x y:aw,((((s1++[x])++l6).length:Int)+(([y]:List aw).length:Int))*(48:Nat)≤room:=fun x y=>fits _ _ (by rw[List.length_append,List.length_append,List.length_singleton];omega) (by simp) 48 (by omega);refine Or.inr ⟨q,(((s1++[(⟨4,0,0,(⟨o4,x4,y4⟩:om)⟩:aw)])++l6)++[(⟨6,0,0,(⟨0,0,0⟩:om)⟩:aw)],i6,j6),?_,?_,?_,c6⟩
         rotate_left 1
         ·have:=hT.app (Trans.nest (x0:=4) (x1:=0) (x2:=0) (x3:=o4) (x4:=x4) (x5:=y4) (l:=l6) (by simp[jO,a4]) (Or.inl rfl) hd.1 (by omega) t6);rw[←List.append_assoc,←List.append_assoc]at this;exact this
         ·simp only[List.length_append,List.length_singleton];exact zW (by omega) hL (by omega) hm2 n6
         ·simp only[aV.tree,Tr.af,Tr.ag,Tr.fZ,Tr.al,Tr.ai,aX q,decide_eq_true q2,decide_eq_true q6,bx.told,e1,e3,au.told,e2,e5,cD.told,e4,Self.told,hm,wd,e6,ae,fit,fit2,fit3,wk,↓reduceIte]
       | false=>
         obtain⟨x5,i5,j5,e5,a5,b5,c5⟩:=bp 2 j3 (by omega) c3;obtain⟨m,hm⟩:∃m:Nat,wr (1+x5)=m:=⟨(1+x5).toNat,by have w5:wr (1+x5)=1+x5:=bZ (by omega);omega⟩;have hm2:m≤2:=by have w5:wr (1+x5)=1+x5:=bZ (by omega);omega
         have w2:wr (1+x2)=1+x2:=bZ (by omega);obtain⟨l6,i6,j6,e6,t6,n6,c6⟩:=hs q2 m b i5 j5 (by omega) c5;have hn20:=uj (d:=d+1) (show m≤5 by omega);have fit2:∀x:aw,(((s1++[x]).length:Int)+(l6.length:Int))*(48:Nat)≤room:=fun x=>fits _ _ (by rw[List.length_append,List.length_singleton];omega) (by omega) 48 (by omega);have fit3:∀x y:aw,((((s1++[x])++l6).length:Int)+(([y]:List aw).length:Int))*(48:Nat)≤room:=fun x y=>fits _ _ (by rw[List.length_append,List.length_append,List.length_singleton];omega) (by simp) 48 (by omega);have hin:fF (1+x2) 1 5=true:=by rw[ba];omega
         refine Or.inr ⟨q,(((s1++[(⟨5,0,1+x2,(⟨0,0,0⟩:om)⟩:aw)])++l6)++[(⟨6,0,0,(⟨0,0,0⟩:om)⟩:aw)],i6,j6),?_,?_,?_,c6⟩
         rotate_left 1
         ·have:=hT.app (Trans.nest (x0:=5) (x1:=0) (x2:=1+x2) (x3:=0) (x4:=0) (x5:=0) (l:=l6) (by simp[jO,hin]) (Or.inr rfl) hd.1 (by omega) t6);rw[←List.append_assoc,←List.append_assoc]at this;exact this
         ·simp only[List.length_append,List.length_singleton];exact zW (by omega) hL (by omega) hm2 n6
         ·simp only[aV.tree,Tr.af,Tr.ag,Tr.fZ,Tr.al,Tr.ai,aX q,decide_eq_true q2,decide_eq_true q6,bx.told,e1,e3,au.told,e2,e5,Self.told,hm,wd,w2,e6,ae,fit,fit2,fit3,wk,Bool.false_eq_true,↓reduceIte]
    ·obtain⟨y0,y1,y2,y3,y4,y5,i2,j2,e2,t2,l2,c2⟩:=plain s2 s3 hC;refine Or.inr ⟨q,(_,i2,j2),?_,t2,l2,c2⟩;simp only[aV.tree,Tr.af,Tr.ag,Tr.fZ,Tr.al,Tr.ai,aX q,decide_eq_true q2,decide_eq_false q6,dj.told,e2,ae,fit,wk,Bool.false_eq_true,↓reduceIte]
   ·obtain⟨y0,y1,y2,y3,y4,y5,i2,j2,e2,t2,l2,c2⟩:=plain s2 s3 hC;refine Or.inr ⟨q,(_,i2,j2),?_,t2,l2,c2⟩;simp only[aV.tree,Tr.af,Tr.ag,Tr.fZ,Tr.al,Tr.ai,aX q,decide_eq_false q2,dj.told,e2,ae,fit,wk,Bool.false_eq_true,↓reduceIte]
  ·obtain rfl:k=n:=by omega
   refine Or.inl ⟨(s1,b,s2,s3),?_,s1,s2,s3,rfl,hT,hL,hC⟩;simp only[aV.tree,Tr.af,Tr.ak,cO,Bool.false_eq_true,↓reduceIte]) 0 (by omega) ([],i,h) ⟨Trans.nil d,by simp,c⟩
 obtain⟨r,e,l,i',h',rfl,p⟩:=key;refine⟨l,i',h',?_,p⟩;simp only[aV.step,aV.begin,Tr.ai];exact e
theorem sM (n:Nat) {b:List Int} {i:Int} (h:Int) (hn:n≤5) (c:mB b i):∃l i' h',aV.f (n:Int) 0 b i h=some (l,b,i',h')∧Trans 0 l∧l.length≤20∧mB b i':=by
 have h2:=uX (Self.iter aV.step 5) 2 (by omega) (fun h=>absurd h (by omega));have h1:=uX (Self.iter aV.step 6) 1 (by omega) (fun _=>h2);have h0:=uX (Self.iter aV.step 7) 0 (by omega) (fun _=>h1);obtain⟨l,i',h',e,t,n',c'⟩:=h0 n b i h hn c;exact⟨l,i',h',e,t,Nat.le_trans n' (uj hn),c'⟩
theorem tW {b:List Int} {i:Int} (h:Int) (c:mB b i):∃l i' h',eu.f b i h=some (l,b,i',h')∧okB l.length l 0=true∧l.length≤20∧mB b i':=by
 obtain⟨x1,i1,j1,e1,a1,b1,c1⟩:=bp 6 h (by omega) c;obtain⟨m,rfl⟩:∃m:Nat,x1=m:=⟨x1.toNat,by omega⟩;obtain⟨l,i2,j2,e2,t2,n2,c2⟩:=sM m j1 (by omega) c1;simp only[eu.f,eu.begin,Tr.ag,Tr.ak,au.told,e1,aV.told,e2,ae];refine⟨_,_,_,rfl,?_,n2,c2⟩;have:=t2 l.length [];rw[List.append_nil]at this;rw[this];show(decide ((0:Int)=0)&&decide ((l.length:Int)≤24))=true;rw[decide_eq_true (show(l.length:Int)≤24 by omega)];rfl
def Em (p:List bR):Prop:=tJ p=true∧1≤p.length∧p.length≤3∧∀t∈p,t.f0.length≤20
theorem qP {b:List Int} {i:Int} (h:Int) (c:mB b i):∃p i' h',cn.f b i h=some (p,b,i',h')∧Em p∧mB b i':=by
 have key:=upto 3 (fun k (s:List bR×Int×Int)=>s.1.length=k∧s.1.all Dp=true∧(∀t∈s.1,t.f0.length≤20)∧mB b s.2.1) (fun k s=>lp cn.tree (.c3 [] s.1 (k:Int) b s.2.1 s.2.2)) (fun r=>∃l i' h',r=(l,b,i',h')∧Em l∧mB b i') (fun k hk s hs=>by
  obtain⟨s1,s2,s3⟩:=s;obtain⟨hl,hv,hb,hc⟩:=hs;simp only at hl hv hb hc;rw[aA];obtain⟨x1,i1,j1,e1,a1,b1,c1⟩:=bp 3 s3 (by omega) hc;have w:wr (1+x1)=1+x1:=bZ (by omega)
  by_cases q:(k:Int)<1+x1
  ·obtain⟨l2,i2,j2,e2,o2,n2,c2⟩:=tW j1 c1;obtain⟨o3,x3,y3,i3,j3,e3,a3,c3⟩:=jQ j2 c2;have fit:∀x:bR,((s1.length:Int)+(([x]:List bR).length:Int))*(48:Nat)≤room:=fun x=>dH s1 x 1048576 (by omega) (by omega) 48 (by omega);refine Or.inr ⟨by omega,(s1++[(⟨l2,(⟨o3,x3,y3⟩:om)⟩:bR)],i3,j3),?_,by simp[hl],?_,?_,c3⟩
   ·simp only[cn.tree,Tr.ag,Tr.af,Tr.fe,Tr.aZ,Tr.al,Tr.ai,au.told,e1,ae,w,decide_eq_true q,eu.told,e2,cD.told,e3,fit,cr,↓reduceIte,aH (show k<4611686018427387904 by omega)]
   ·rw[List.all_append,hv];show(true&&(okB l2.length l2 0&&pM o3 x3 y3&&true))=true;rw[o2,a3];rfl
   ·intro t ht;rcases List.mem_append.mp ht with ht | ht
    ·exact hb t ht
    ·rw[List.mem_singleton]at ht;rw[ht];exact n2
  ·refine Or.inl ⟨(s1,b,i1,j1),?_,s1,i1,j1,rfl,⟨?_,by omega,by omega,hb⟩,c1⟩
   ·simp only[cn.tree,Tr.ag,Tr.af,Tr.ak,au.told,e1,ae,w,decide_eq_false q,Bool.false_eq_true,↓reduceIte]
   ·unfold tJ;rw[hv,(ba (x:=(s1.length:Int)) (a:=1) (b:=6)).mpr (by omega)];rfl) 0 (by omega) ([],i,h) ⟨rfl,rfl,by simp,c⟩
 obtain⟨r,e,l,i',h',rfl,p⟩:=key;refine⟨l,i',h',?_,p⟩;simp only[cn.f,cn.begin,Tr.ai];exact e
theorem mv {a b c:Int} (ha:0≤a∧a≤5) (hb:0≤b∧b≤8) (hc:0≤c∧c≤24):unpack (pack a b c)=(a,b,c):=by
 have hp:∀x y z:Int,0≤x∧x≤5→0≤y∧y≤8→0≤z∧z≤24→pack x y z=x+8*(y+16*z):=fun x y z h1 h2 h3=>by
  unfold pack;rw[ba.mpr h1,ba.mpr h2,ba.mpr h3];rfl
 rw[hp a b c ha hb hc];unfold unpack;generalize hw:a+8*(b+16*c)=w;have w0:0≤w:=by omega
 have e1:Int.tmod w 8=a:=by rw[Int.tmod_eq_emod_of_nonneg w0];omega
 have e2:Int.tdiv w 8=b+16*c:=by rw[Int.tdiv_eq_ediv_of_nonneg w0];omega
 have e3:wr (b+16*c)=b+16*c:=bZ (by omega);have e4:Int.tmod (b+16*c) 16=b:=by rw[Int.tmod_eq_emod_of_nonneg (by omega)];omega
 have e5:Int.tdiv w 128=c:=by rw[Int.tdiv_eq_ediv_of_nonneg w0];omega
 have e6:wr c=c:=bZ (by omega);rw[e1,e2,e3,e4,e5,e6,hp a b c ha hb hc,if_neg (by omega),if_pos hw]
theorem yf {m:List Int} {k:Nat} {j:Int} {v:Int} (hk:k<m.length) (hj:j=(k:Int)):cT (m.set k v) j=v:=by
 subst hj;show(m.set k v).getD ((k:Int)).toNat 0=v;rw[List.getD,Int.toNat_natCast,List.getElem?_set_self hk];rfl
theorem C7 {m:List Int} {k:Nat} {v:Int} (h:m.all isVal=true) (hv:isVal v=true):(m.set k v).all isVal=true:=by
 rw[List.all_eq_true]at h⊢;intro x hx;rcases List.mem_or_eq_of_mem_set hx with hx | rfl
 ·exact h x hx
 ·exact hv
theorem zD {m:List Int} (k:Nat) (h:m.all isVal=true):(m.take k).all isVal=true:=by
 rw[List.all_eq_true]at h⊢;exact fun x hx=>h x (List.mem_of_mem_take hx)
theorem CS {m:List Int} (k:Nat) (h:m.all isVal=true):(m.drop k).all isVal=true:=by
 rw[List.all_eq_true]at h⊢;exact fun x hx=>h x (List.mem_of_mem_drop hx)
def Clean (n:Nat) (m:List Int):Prop:=ji n m=true∧(unpack (cT m 8)).2.1=0
theorem pa {n:Nat} {m:List Int} {t c tl:Int} (hm:m.length=49) (e:unpack (cT m 8)=(t,c,tl)) (ht:0≤t∧t<n) (h8:(m.take 8).all isVal=true) (hs:(me m).all isVal=true) (hl:(List.range c.toNat).all (jg m)=true):ji n m=true:=by
 unfold ji;rw[e,decide_eq_true hm,decide_eq_false (show¬t<0 by omega),decide_eq_false (show¬t≥(n:Int) by omega),h8,hs,hl];rfl
theorem pK {b:List Int} {i:Int} (h:Int) (c:mB b i):∃l i' h',aD.f b i h=some (l,b,i',h')∧l.all isVal=true∧1≤l.length∧l.length≤9∧mB b i':=by
 have key:=upto 9 (fun k (s:List Int×Int×Int)=>s.1.length=k∧s.1.all isVal=true∧mB b s.2.1) (fun k s=>lp aD.tree (.c3 s.1 (k:Int) b s.2.1 s.2.2)) (fun r=>∃l i' h',r=(l,b,i',h')∧l.all isVal=true∧1≤l.length∧l.length≤9∧mB b i') (fun k hk s hs=>by
  obtain⟨s1,s2,s3⟩:=s;obtain⟨hl,hv,hc⟩:=hs;simp only at hl hv hc;rw[aA];obtain⟨x1,i1,j1,e1,a1,b1,c1⟩:=bp 9 s3 (by omega) hc;have w:wr (1+x1)=1+x1:=bZ (by omega)
  by_cases q:(k:Int)<1+x1
  ·obtain⟨x2,i2,j2,e2,a2,b2,c2⟩:=bp 800 j1 (by omega) c1;have w2:wr (x2-200)=x2-200:=bZ (by omega);have hvx:isVal (x2-200)=true:=by unfold isVal;rw[ba];omega
   refine Or.inr ⟨by omega,(s1++[x2-200],i2,j2),?_,by simp[hl],by simp[hv,hvx],c2⟩;simp only[aD.tree,Tr.ag,Tr.af,Tr.al,Tr.ai,au.told,e1,e2,ae,w,w2,decide_eq_true q,dH s1 _ 1048576 (by omega) (by omega) 8 (by omega),↓reduceIte,aH (show k<4611686018427387904 by omega)]
  ·refine Or.inl ⟨(s1,b,i1,j1),?_,s1,i1,j1,rfl,hv,by omega,by omega,c1⟩;simp only[aD.tree,Tr.ag,Tr.af,Tr.ak,au.told,e1,ae,w,decide_eq_false q,Bool.false_eq_true,↓reduceIte]) 0 (by omega) ([],i,h) ⟨rfl,rfl,c⟩
 obtain⟨r,e,l,i',h',rfl,p⟩:=key;exact⟨l,i',h',e,p⟩
def xn (s:aw):Bool:=jO s.f0 s.f1 s.f2 s.f3.f0 s.f3.f1 s.f3.f2
def inr (lo hi:Int):List aw→Int→Bool
 | [],_=>true
 | s::l,d=>xn s&&(fF (dep s.f0 d) lo hi&&inr lo hi l (dep s.f0 d))
def fin:List aw→Int→Int
 | [],d=>d
 | s::l,d=>fin l (dep s.f0 d)
theorem kg (n:Nat):∀(l:List aw) (d:Int),okB n l d=true→inr 0 3 l d=true∧fin l d=0∧n≤24
 | [],d,h=>by
   unfold okB at h;rw[Bool.and_eq_true,decide_eq_true_eq,decide_eq_true_eq]at h;exact⟨rfl,h.1,by omega⟩
 | s::l,d,h=>by
   unfold okB at h;rw[Bool.and_eq_true,Bool.and_eq_true]at h;obtain⟨a,b,c⟩:=kg n l _ h.2.2;refine⟨?_,b,c⟩;unfold inr xn;rw[h.1,h.2.1,a];rfl
theorem Bg (x d c:Int):dep x (d+c)=dep x d+c:=by unfold dep;split;omega;split<;>omega
theorem Dr (x a b c:Int):fF (x+c) (a+c) (b+c)=fF x a b:=by
 rw[Bool.eq_iff_iff,ba,ba];omega
theorem xN (lo hi c:Int):∀(l:List aw) (d:Int),inr (lo+c) (hi+c) l (d+c)=inr lo hi l d
 | [],d=>rfl
 | s::l,d=>by
   show(xn s&&(fF (dep s.f0 (d+c)) (lo+c) (hi+c)&&inr (lo+c) (hi+c) l (dep s.f0 (d+c))))=_;rw[Bg,Dr,xN lo hi c l];rfl
theorem ym (c:Int):∀(l:List aw) (d:Int),fin l (d+c)=fin l d+c
 | [],d=>rfl
 | s::l,d=>by show fin l (dep s.f0 (d+c))=_;rw[Bg,ym c l];rfl
theorem mX {lo hi lo' hi':Int} (h1:lo'≤lo) (h2:hi≤hi'):∀(l:List aw) (d:Int),inr lo hi l d=true→inr lo' hi' l d=true
 | [],d,_=>rfl
 | s::l,d,h=>by
   unfold inr at h⊢;rw[Bool.and_eq_true,Bool.and_eq_true,ba]at h;rw[h.1,mX h1 h2 l _ h.2.2,(ba (x:=dep s.f0 d)).mpr (by omega)];rfl
theorem vt (k c:Int) (hc:0≤c):∀(l:List aw) (d:Int),c<d→d≤k→inr 0 k l d=true→fin l d≤c→
 ∃a s r,l=a++s::r∧s.f0=6∧inr (c+1) k a d=true∧fin a d=c+1∧inr 0 k r c=true∧fin r c=fin l d
 | [],d,hd,_,_,h=>absurd (show d≤c from h) (by omega)
 | s::l,d,hd,hk,h,hf=>by
   unfold inr at h;rw[Bool.and_eq_true,Bool.and_eq_true,ba]at h;obtain⟨h1,⟨h2,h2'⟩,h3⟩:=h
   by_cases q:dep s.f0 d≤c
   ·have hs:s.f0=6∧d=c+1∧dep s.f0 d=c:=by
     revert q h2 h2';unfold dep;intro h2 h2' q;split at q
     ·omega
     ·split at q
      ·rename_i e;exact⟨e,by omega,by rw[if_neg (by omega),if_pos e];omega⟩
      ·omega
    obtain⟨hs6,hd1,hdc⟩:=hs;rw[hdc]at h3;exact⟨[],s,l,rfl,hs6,rfl,hd1,h3,by show _=fin l (dep s.f0 d);rw[hdc]⟩
   ·obtain⟨a,s',r,e,e6,p1,p2,p3,p4⟩:=vt k c hc l (dep s.f0 d) (by omega) h2' h3 hf;refine⟨s::a,s',r,by rw[e];rfl,e6,?_,p2,p3,p4⟩;unfold inr;rw[h1,p1,(ba (x:=dep s.f0 d)).mpr (by omega)];rfl
def EL (k:Int) (l:List aw):Prop:=inr 0 k l 0=true∧fin l 0=0
theorem qE {k d:Int} {x:aw} {l:List aw} (hd:0≤d) (hx:x.f0=4∨x.f0=5) (h:inr 0 k (x::l) d=true) (hf:fin (x::l) d=0):
 ∃a s r,l=a++s::r∧s.f0=6∧1≤k∧EL (k-1) a∧inr 1 k a 1=true∧fin a 1=1∧inr 0 k r d=true∧fin r d=0:=by
 unfold inr at h;rw[Bool.and_eq_true,Bool.and_eq_true,ba]at h;obtain⟨h1,⟨h2,h2'⟩,h3⟩:=h;have e:dep x.f0 d=d+1:=by unfold dep;rw[if_pos hx]
 rw[e]at h2 h2' h3;have hf':fin l (d+1)=0:=by have:fin l (dep x.f0 d)=0:=hf;rw[e]at this;exact this
 obtain⟨a,s,r,e1,e6,p1,p2,p3,p4⟩:=vt k d hd l (d+1) (by omega) h2' h3 (by omega);have q1:=xN 1 (k-d) d a 1;rw[show 1+d=d+1 by omega,show k-d+d=k by omega,p1]at q1;have q2:=ym d a 1;rw[show 1+d=d+1 by omega,p2]at q2;have q3:=xN 0 (k-d-1) 1 a 0;rw[show(0:Int)+1=1 by omega,show k-d-1+1=k-d by omega,←q1]at q3;have q4:=ym 1 a 0;rw[show(0:Int)+1=1 by omega]at q4;exact⟨a,s,r,e1,e6,by omega,⟨mX (by omega) (by omega) a 0 q3.symm,by omega⟩,mX (by omega) (by omega) a 1 q1.symm,by omega,p3,by omega⟩
theorem drop_at {A:Type} {l a r:List A} {x:A} {i:Nat} (h:l.drop i=a++x::r):∃h':i+a.length<l.length,l[i+a.length]=x∧l.drop (i+a.length+1)=r:=by
 have hl:=congrArg List.length h;rw[List.length_drop,List.length_append,List.length_cons]at hl;have h':i+a.length<l.length:=by omega
 refine⟨h',?_,?_⟩
 ·have e:(l.drop i)[a.length]? =some x:=by rw[h];simp
  rw[List.getElem?_drop,List.getElem?_eq_getElem h']at e;exact Option.some.inj e
 ·rw[show i+a.length+1=i+(a.length+1)from rfl,←List.drop_drop,h];simp
theorem jC (x:Int):bI.f x=some (decide (x=4∨x=5)):=by
 simp only[bI.f,bI.begin,Tr.af,Tr.ak]
 by_cases h4:x=4
 ·simp[h4]
 ·simp[h4]
theorem Bk {x d:Int} (h0:0≤d) (h1:d≤30):wr (d+1)=d+1∧wr (d-1)=d-1∧wr (d+1-1)=d+1-1:=⟨bZ (by omega),bZ (by omega),bZ (by omega)⟩
theorem oV (l:List aw) (i:Nat) (d:Int) (hi:i<l.length) (hl:l.length≤1048576) (h0:0≤d) (h1:d≤30):
 lp dN.tree (.c3 l d (i:Int))=if dep l[i].f0 d=0 then some (i:Int)else lp dN.tree (.c3 l (dep l[i].f0 d) ((i+1:Nat):Int)):=by
 rw[aA];obtain⟨w1,w2,w3⟩:=Bk (x:=0) h0 h1;have w7:wr ((i:Int)+1)=((i+1:Nat):Int):=aH (by omega);simp only[dN.tree,Tr.af,Tr.ag,Tr.al,Tr.ak,Tr.ai,bI.told,jC,ae,aX hi,bJ hi,aP hi,and_self,↓reduceIte,w1,w2,w3,w7,decide_eq_true_eq];unfold dep
 by_cases h4:l[i].f0=4∨l[i].f0=5
 ·have h6:¬l[i].f0=6:=by omega
  simp only[h4,h6,↓reduceIte]
 ·by_cases h6:l[i].f0=6
  ·simp only[h6,show¬((6:Int)=4∨(6:Int)=5) by omega,↓reduceIte]
  ·simp only[h4,h6,↓reduceIte]
theorem yX (l:List aw) (hl:l.length≤1048576) (k:Int) (hk:k≤30):∀(a:List aw) (d:Int) (j:Nat) (s:aw) (r:List aw),l.drop j=a++s::r→s.f0=6→1≤d→d≤k→inr 1 k a d=true→fin a d=1→
 lp dN.tree (.c3 l d (j:Int))=some ((j+a.length:Nat):Int)
 | [],d,j,s,r,hd,h6,h1,hk',_,hf=>by
   obtain⟨h',e,_⟩:=drop_at (a:=[]) hd;have hd1:d=1:=hf;rw[oV l j d h' hl (by omega) (by omega)];rw[show l[j]=s from e,h6,hd1];rfl
 | x::a,d,j,s,r,hd,h6,h1,hk',hp,hf=>by
   obtain⟨h',e,e2⟩:=drop_at (a:=[]) (show l.drop j=[]++x::(a++s::r)from hd);rw[oV l j d h' hl (by omega) (by omega)];rw[show l[j]=x from e];unfold inr at hp;rw[Bool.and_eq_true,Bool.and_eq_true,ba]at hp;rw[if_neg (by omega),yX l hl k hk a (dep x.f0 d) (j+1) s r e2 h6 hp.2.1.1 hp.2.1.2 hp.2.2 hf,List.length_cons];congr 2;omega
theorem qp (l:List aw) (hl:l.length≤1048576) (k:Int) (hk1:1≤k) (hk:k≤30) (i:Nat) (x:aw) (a:List aw) (s:aw) (r:List aw) (hd:l.drop i=x::(a++s::r)) (hx:x.f0=4∨x.f0=5) (h6:s.f0=6) (hp:inr 1 k a 1=true) (hf:fin a 1=1):
 dN.f l (i:Int)=some ((i+1+a.length:Nat):Int):=by
 simp only[dN.f,dN.begin,Tr.ai];obtain⟨h',e,e2⟩:=drop_at (a:=[]) (show l.drop i=[]++x::(a++s::r)from hd);rw[oV l i 0 h' hl (by omega) (by omega),show l[i]=x from e];have hdep:dep x.f0 0=1:=by unfold dep;rw[if_pos hx];rfl
 rw[hdep,if_neg (by omega)];exact yX l hl k hk a 1 (i+1) s r e2 h6 (by omega) (by omega) hp hf
theorem jd (x:Int):bU.f x=some (decide (x=1∨x=2)):=by
 simp only[bU.f,bU.begin,Tr.af,Tr.ak]
 by_cases h4:x=1
 ·simp[h4]
 ·simp[h4]
theorem uO (x:Int):cK.f x=some (decide (x=1∨x=3∨x=4)):=by
 simp only[cK.f,cK.begin,Tr.af,Tr.ak]
 by_cases h4:x=1
 ·simp[h4]
 ·by_cases h3:x=3
  ·simp[h3]
  ·simp[h4,h3]
theorem mA (zs:List Int) (P:Int→Prop) (h:∀x∈zs,P x):∀m,m≤zs.length→(∀x∈Go.Lib.compactUpTo zs.toArray m,P x)∧(Go.Lib.compactUpTo zs.toArray m).length≤m
 | 0,_=>by
   have:Go.Lib.compactUpTo zs.toArray 0=[]:=rfl;rw[this];exact⟨by simp,by simp⟩
 | m+1,hm=>by
   obtain⟨a,b⟩:=mA zs P h m (by omega);rw[Go.Lib.compactUpTo_succ]
   have hx:P (zs.toArray[m]!):=by
    have h':m<zs.length:=by omega
    have:zs.toArray[m]! =zs[m]:=by simp[h']
    rw[this];exact h _ (List.getElem_mem h')
   split
   ·refine⟨fun x hx'=> ?_,by rw[List.length_append,List.length_singleton];omega⟩;rcases List.mem_append.mp hx' with hx' | hx'
    ·exact a x hx'
    ·rw[List.mem_singleton]at hx';rw[hx'];exact hx
   ·rw[List.append_nil];exact⟨a,by omega⟩
theorem Ca (l:List Int) (P:Int→Prop) (h:∀x∈l,P x) (hl:l.length≤1048576):∃m n,slices_Sort_int.f l=some m∧slices_Compact_int.f m=some n∧(∀x∈n,P x)∧n.length≤l.length:=by
 have e1:slices_Sort_int.f l=some (l.mergeSort fun x y=>decide (x≤y)):=by
  unfold slices_Sort_int.f;rw[if_pos (by omega)]
 have hm:∀x∈(l.mergeSort fun x y=>decide (x≤y)),P x:=fun x hx=>h x (List.mem_mergeSort.mp hx);obtain⟨a,b⟩:=mA (l.mergeSort fun x y=>decide (x≤y)) P hm _ (Nat.le_refl _);refine⟨_,_,e1,rfl,a,?_⟩;have b':(Go.Lib.compact (l.mergeSort fun x y=>decide (x≤y))).length≤(l.mergeSort fun x y=>decide (x≤y)).length:=b;rw[List.length_mergeSort]at b';exact b'
def lj (k:Int) (l:List aw) (i:Nat):Prop:=∃d:Int,0≤d∧inr 0 k (l.drop i) d=true∧fin (l.drop i) d=0
theorem lj.next {k:Int} {l:List aw} {i:Nat} (h:lj k l i) (hi:i<l.length):xn l[i]=true∧lj k l (i+1):=by
 obtain⟨d,hd,h1,h2⟩:=h;rw[List.drop_eq_getElem_cons hi]at h1 h2;unfold inr at h1;rw[Bool.and_eq_true,Bool.and_eq_true,ba]at h1;exact⟨h1.1,dep l[i].f0 d,h1.2.1.1,h1.2.2,h2⟩
theorem lj.nest {k:Int} {l:List aw} {i:Nat} (h:lj k l i) (hi:i<l.length) (hl:l.length≤1048576) (hk:k≤30) (hx:l[i].f0=4∨l[i].f0=5):
 ∃e:Nat,dN.f l (i:Int)=some (e:Int)∧i<e∧e<l.length∧1≤k∧EL (k-1) ((l.take e).drop (i+1))∧((l.take e).drop (i+1)).length+2+(l.drop (e+1)).length=(l.drop i).length∧lj k l (e+1):=by
 obtain⟨d,hd,h1,h2⟩:=h;have hdr:=List.drop_eq_getElem_cons hi;rw[hdr]at h1 h2;obtain⟨a,s,r,e1,e6,k1,hb,p1,p2,p3,p4⟩:=qE hd hx h1 h2;rw[e1]at hdr;have hend:=qp l hl k k1 hk i l[i] a s r hdr hx e6 p1 p2;obtain⟨g1,g2,g3⟩:=drop_at (show l.drop i=(l[i]::a)++s::r from hdr);simp only[List.length_cons]at g1 g3
 have hia:(l.take (i+1+a.length)).drop (i+1)=a:=by
  rw[List.drop_take,show i+1+a.length-(i+1)=a.length by omega];have:l.drop (i+1)=a++s::r:=e1;rw[this];simp
 refine⟨i+1+a.length,hend,by omega,by omega,k1,by rw[hia];exact hb,?_,d,hd,?_,?_⟩
 ·rw[hia,List.length_drop,List.length_drop];omega
 ·rw[show i+1+a.length+1=i+(a.length+1)+1 by omega,g3];exact p3
 ·rw[show i+1+a.length+1=i+(a.length+1)+1 by omega,g3];exact p4
theorem qZ {s:aw} (h:xn s=true) (hv:s.f0=1∨s.f0=2):0≤s.f1∧s.f1≤7:=by
 unfold xn jO at h;rcases hv with e | e
 ·rw[if_pos e]at h;simp only[Bool.and_eq_true,ba]at h;exact h.2.1
 ·rw[if_neg (by omega),if_pos e]at h;simp only[Bool.and_eq_true,ba]at h;exact h.2.1
def mw (m:List Int) (x:aL):List Int:=if x.f1= -1 then m else m.set x.f1.toNat x.f2
def cG (m:List Int) (o:List aL):List Int:=o.foldl mw m
def pA (x:aL):Prop:=(0≤x.f0∧x.f0≤5)∧(-1≤x.f1∧x.f1<49)
def jq (n:Nat) (M m:List Int):Prop:=ji n m=true∧cI M<+:cI m
def zt (n:Nat) (M:List Int) (o:List aL):Prop:=(∀x∈o,pA x)∧∀k,jq n M (cG M (o.take k))
theorem iO (m:List Int) (o:List aL) (x:aL):cG m (o++[x])=mw (cG m o) x:=by unfold cG;rw[List.foldl_append];rfl
theorem zt.snoc {n:Nat} {M:List Int} {o:List aL} {x:aL} (h:zt n M o) (hx:pA x) (hg:jq n M (mw (cG M o) x)):zt n M (o++[x]):=by
 refine⟨fun y hy=> ?_,fun k=> ?_⟩
 ·rcases List.mem_append.mp hy with hy | hy
  ·exact h.1 y hy
  ·rw[List.mem_singleton]at hy;rw[hy];exact hx
 ·by_cases q:k≤o.length
  ·rw[List.take_append_of_le_length q];exact h.2 k
  ·rw[List.take_of_length_le (by rw[List.length_append,List.length_singleton];omega),iO];exact hg
def Ay (m:List Int) (tl:Int):List Int:=(m.drop 25).take tl.toNat
theorem ng {m:List Int} {tl:Int} (h:(unpack (cT m 8)).2.2=tl) (h0:0≤tl):me m=Ay m tl:=by
 unfold me Ay;rw[h,List.drop_take];congr 1;omega
theorem jY {m:List Int} {t c tl:Int} (hm:m.length=49) (h:unpack (cT m 8)=(t,c,tl)) (h0:0≤tl):cI m=Ay m tl:=by
 unfold cI;rw[if_pos hm,h,if_neg (by simp only;omega)];exact ng (by rw[h]) h0
theorem fy {m:List Int} {j i:Nat} {v:Int} (hj:j<m.length):(m.set j v).getD i 0=if i=j then v else m.getD i 0:=by
 rw[List.getD_eq_getElem?_getD,List.getElem?_set]
 by_cases h:i=j
 ·subst h;rw[if_pos rfl,if_pos rfl,if_pos hj];rfl
 ·rw[if_neg (fun e=>h e.symm),if_neg h,List.getD_eq_getElem?_getD]
theorem uu (m:List Int) (tl:Int) (i:Nat):(Ay m tl)[i]? =if i<tl.toNat then m[25+i]? else none:=by
 unfold Ay;rw[List.getElem?_take,List.getElem?_drop]
theorem ux {m:List Int} {tl:Int} (h:∀i:Nat,(i:Int)<tl→isVal (m.getD (25+i) 0)=true):(Ay m tl).all isVal=true:=by
 rw[List.all_eq_true];intro x hx;obtain⟨i,hi⟩:=List.mem_iff_getElem?.mp hx;rw[uu]at hi;split at hi
 ·have:=h i (by omega);rw[List.getD_eq_getElem?_getD,hi]at this;exact this
 ·cases hi
theorem yt {m M:List Int} {tl:Int} (hm:m.length=49) (hM:M.length=49) (h:∀i:Nat,(i:Int)<tl→m.getD (25+i) 0=M.getD (25+i) 0):Ay m tl=Ay M tl:=by
 refine List.ext_getElem? (fun i=> ?_);rw[uu,uu]
 by_cases q:i<tl.toNat
 ·rw[if_pos q,if_pos q]
  by_cases q':25+i<49
  ·have:=h i (by omega);rw[List.getD_eq_getElem?_getD,List.getElem?_eq_getElem (by omega),List.getD_eq_getElem?_getD,List.getElem?_eq_getElem (by omega)]at this;rw[List.getElem?_eq_getElem (by omega),List.getElem?_eq_getElem (by omega)];exact congrArg some this
  ·rw[List.getElem?_eq_none (by omega),List.getElem?_eq_none (by omega)]
 ·rw[if_neg q,if_neg q]
theorem Di (m:List Int) {a b:Int} (h:a≤b):Ay m a<+:Ay m b:=by
 unfold Ay;have:(m.drop 25).take a.toNat=((m.drop 25).take b.toNat).take a.toNat:=by rw[List.take_take,Nat.min_eq_left (by omega)]
 rw[this];exact List.take_prefix _ _
structure pw (n:Nat) (t tl:Int) (M:List Int):Prop where
 len:M.length=49
 t0:0≤t∧t<n∧t≤5
 EN:0≤tl∧tl≤24
 me:cI M=Ay M tl
 val:∀i:Nat,(i:Int)<tl→isVal (M.getD (25+i) 0)=true
structure wB (t tl:Int) (M:List Int) (c:Nat) (s:Int) (m:List Int):Prop where
 len:m.length=49
 EM:cT m 8=pack t c tl
 c8:c≤8
 s0:0≤s
 var:∀i:Nat,i<8→isVal (m.getD i 0)=true
 log:∀i:Nat,i<c→jg m i=true
 yV:∀i:Nat,(i:Int)<tl→m.getD (25+i) 0=M.getD (25+i) 0
 new:∀i:Nat,tl≤(i:Int)→(i:Int)<tl+s→i<24→isVal (m.getD (25+i) 0)=true
theorem wB.gw {n:Nat} {t tl:Int} {M m:List Int} {c:Nat} {s:Int} (b:pw n t tl M) (h:wB t tl M c s m):jq n M m:=by
 have hc:=h.c8;have ht:=b.t0;have htl:=b.EN;have hu:unpack (cT m 8)=(t,(c:Int),tl):=by rw[h.EM];exact mv (by omega) (by omega) (by omega)
 refine⟨pa h.len hu (by omega) ?_ ?_ ?_,?_⟩
 ·rw[List.all_eq_true];intro x hx;obtain⟨i,hi,rfl⟩:=List.mem_iff_getElem.mp hx;rw[List.length_take]at hi;have:=h.var i (by omega);rw[List.getD_eq_getElem?_getD,List.getElem?_eq_getElem (by have:=h.len;omega)]at this;rw[List.getElem_take];exact this
 ·rw[ng (tl:=tl) (by rw[hu]) (by omega)];exact ux (fun i hi=>by rw[h.yV i hi];exact b.val i hi)
 ·rw[List.all_eq_true];intro i hi;rw[List.mem_range]at hi;exact h.log i (by omega)
 ·rw[jY h.len hu (by omega),b.me,yt h.len b.len h.yV];exact List.prefix_rfl
theorem ni (m:List Int) (i:Nat):cT m (i:Int)=m.getD i 0:=by show m.getD ((i:Int)).toNat 0=_;rw[Int.toNat_natCast]
theorem mx (m:List Int) (i:Nat):jg m i=(fF (m.getD (9+2*i) 0) 0 7&&isVal (m.getD (9+2*i+1) 0)):=by
 unfold jg;rw[←ni,←ni];congr 2
theorem wB.set {t tl:Int} {M m:List Int} {c:Nat} {s:Int} (h:wB t tl M c s m) {j:Nat} {v:Int} (hj:j<49) (h8:j≠8) (hv:j<8→isVal v=true) (hlog:j<9∨9+2*c≤j) (hbox:j<25∨(tl≤(j:Int)-25∧isVal v=true)):wB t tl M c s (m.set j v) where
 len:=by rw[List.length_set];exact h.len
 EM:=by have e:=h.EM;have:=h.len;rw[show(8:Int)=((8:Nat):Int)from rfl,ni]at e⊢;rw[fy (by omega),if_neg (by omega)];exact e
 c8:=h.c8
 s0:=h.s0
 var:=fun i hi=>by
  have:=h.len;rw[fy (by omega)];split
  ·exact hv (by omega)
  ·exact h.var i hi
 log:=fun i hi=>by
  have:=h.len;have e:=h.log i hi;rw[mx]at e⊢;rw[fy (by omega),fy (by omega)]
  by_cases q:j<9
  ·rw[if_neg (by omega),if_neg (by omega)];exact e
  ·rw[if_neg (by omega),if_neg (by omega)];exact e
 yV:=fun i hi=>by
  have:=h.len;rw[fy (by omega),if_neg (by omega)];exact h.yV i hi
 new:=fun i h1 h2 h3=>by
  have:=h.len;rw[fy (by omega)];split
  ·rcases hbox with q | q
   ·omega
   ·exact q.2
  ·exact h.new i h1 h2 h3
theorem wB.E3 {t tl:Int} {M m:List Int} {c:Nat} {s:Int} (h:wB t tl M c s m) (hc:c<8) (hp:jg m c=true):wB t tl M (c+1) s (m.set 8 (pack t ((c+1:Nat):Int) tl)) where
 len:=by rw[List.length_set];exact h.len
 EM:=yf (by have:=h.len;omega) rfl
 c8:=by omega
 s0:=h.s0
 var:=fun i hi=>by have:=h.len;rw[fy (by omega),if_neg (by omega)];exact h.var i hi
 log:=fun i hi=>by
  have:=h.len
  have e:jg m i=true:=by
   rcases(show i<c∨i=c by omega)with q | q
   ·exact h.log i q
   ·rw[q];exact hp
  rw[mx]at e⊢;rw[fy (by omega),fy (by omega),if_neg (by omega),if_neg (by omega)];exact e
 yV:=fun i hi=>by have:=h.len;rw[fy (by omega),if_neg (by omega)];exact h.yV i hi
 new:=fun i h1 h2 h3=>by have:=h.len;rw[fy (by omega),if_neg (by omega)];exact h.new i h1 h2 h3
theorem wB.box {t tl:Int} {M m:List Int} {c:Nat} {s:Int} (htl:0≤tl) (h:wB t tl M c s m) {j:Nat} {v:Int} (hj:(j:Int)=tl+s) (h24:j<24) (hv:isVal v=true):wB t tl M c (s+1) (m.set (25+j) v):=by
 have hs:=h.s0;have hc:=h.c8;have h':=h.set (j:=25+j) (v:=v) (by omega) (by omega) (fun q=>by omega) (Or.inr (by omega)) (Or.inr ⟨by omega,hv⟩)
 exact{h' with
  s0:=by omega
  new:=fun i h1 h2 h3=>by
   by_cases q:i=j
   ·subst q;rw[fy (by have:=h.len;omega),if_pos rfl];exact hv
   ·exact h'.new i h1 (by omega) h3}
theorem wB.E8 {t tl:Int} {M m:List Int} {c:Nat} {s:Int} (h:wB t tl M c s m) (h24:24≤tl+s):wB t tl M c (s+1) m:=
 {h with
  s0:=by have:=h.s0;omega
  new:=fun i h1 h2 h3=>h.new i h1 (by omega) h3}
theorem wB.last {n:Nat} {t tl:Int} {M m:List Int} {c:Nat} {s nt tl':Int} (b:pw n t tl M) (h:wB t tl M c s m) (hn:n≤6) (hnt:0≤nt∧nt<n) (htl:tl'=if tl+s<24 then tl+s else 24):
 jq n M (m.set 8 (pack nt 0 tl'))∧unpack (cT (m.set 8 (pack nt 0 tl')) 8)=(nt,0,tl'):=by
 have hs:=h.s0;have h0:=b.EN;have hr:tl≤tl'∧tl'≤24∧tl'≤tl+s:=by rw[htl];split<;>omega
 have hlen:=h.len;have hu:unpack (cT (m.set 8 (pack nt 0 tl')) 8)=(nt,0,tl'):=by rw[show cT (m.set 8 (pack nt 0 tl')) 8=pack nt 0 tl' from yf (by omega) rfl];exact mv (by omega) (by omega) (by omega)
 have hl':(m.set 8 (pack nt 0 tl')).length=49:=by rw[List.length_set];exact h.len
 have hg:∀i:Nat,i≠8→(m.set 8 (pack nt 0 tl')).getD i 0=m.getD i 0:=fun i hi=>by rw[fy (by omega),if_neg hi]
 refine⟨⟨pa hl' hu (by omega) ?_ ?_ rfl,?_⟩,hu⟩
 ·rw[List.all_eq_true];intro x hx;obtain⟨i,hi,rfl⟩:=List.mem_iff_getElem.mp hx;rw[List.length_take]at hi;have:=h.var i (by omega);rw[←hg i (by omega),List.getD_eq_getElem?_getD,List.getElem?_eq_getElem (by omega)]at this;rw[List.getElem_take];exact this
 ·rw[ng (tl:=tl') (by rw[hu]) (by omega)];refine ux (fun i hi=> ?_);rw[hg _ (by omega)]
  by_cases q:(i:Int)<tl
  ·rw[h.yV i q];exact b.val i q
  ·exact h.new i (by omega) (by omega) (by omega)
 ·rw[jY hl' hu (by omega),b.me];have e:Ay M tl=Ay (m.set 8 (pack nt 0 tl')) tl:=(yt hl' b.len (fun i hi=>by rw[hg _ (by omega)];exact h.yV i hi)).symm;rw[e];exact Di _ hr.1
structure TI (n:Nat) (t tl:Int) (M:List Int) (B:Nat) (o:List aL) (u:List Int) (sn:Int) (lg:List Int) (f:List Bool) (vs:List Int):Prop where
 safe:zt n M o
 run:wB t tl M lg.length sn (cG M o)
 used:∀x∈u,isVal x=true
 mU:o.length≤B
 uK:u.length≤B
 BY:sn≤B
 Ds:lg.length≤f.count true
 Bf:Ao vs=true
theorem TI.mono {n:Nat} {t tl:Int} {M:List Int} {B B':Nat} {o:List aL} {u:List Int} {sn:Int} {lg:List Int} {f:List Bool} {vs:List Int} (h:TI n t tl M B o u sn lg f vs) (hB:B≤B'):TI n t tl M B' o u sn lg f vs:=
 {h with mU:=Nat.le_trans h.mU hB,uK:=Nat.le_trans h.uK hB,BY:=by have:=h.BY;omega}
theorem TI.push {n:Nat} {t tl:Int} {M:List Int} {B:Nat} {o:List aL} {u:List Int} {sn:Int} {lg:List Int} {f:List Bool} {vs:List Int} (b:pw n t tl M) (h:TI n t tl M B o u sn lg f vs)
 (x:aL) {sn':Int} {lg':List Int} {f':List Bool} {vs':List Int} (hx:pA x) (hr:wB t tl M lg'.length sn' (mw (cG M o) x)) (hs:sn'≤B+1) (hl:lg'.length≤f'.count true) (hv:Ao vs'=true):
 TI n t tl M (B+1) (o++[x]) u sn' lg' f' vs' where
 safe:=h.safe.snoc hx (hr.gw b)
 run:=by rw[iO];exact hr
 used:=h.used
 mU:=by rw[List.length_append,List.length_singleton];have:=h.mU;omega
 uK:=by have:=h.uK;omega
 BY:=by omega
 Ds:=hl
 Bf:=hv
theorem TI.work {n:Nat} {t tl:Int} {M:List Int} {B:Nat} {o:List aL} {u:List Int} {sn:Int} {lg:List Int} {f:List Bool} {vs:List Int} (b:pw n t tl M) (h:TI n t tl M B o u sn lg f vs)
 {c:Int} (hc:0≤c∧c≤5):TI n t tl M (B+1) (o++[(⟨c,-1,0⟩:aL)]) u sn lg f vs:=
 h.push b _ ⟨hc,by show(-1:Int)≤-1∧(-1:Int)<49;omega⟩ h.run (by have:=h.BY;omega) h.Ds h.Bf
theorem nN {vs:List Int}:Ao vs=true↔vs.all isVal=true∧vs.length=8:=by
 unfold Ao;rw[Bool.and_eq_true,decide_eq_true_eq];exact⟨fun h=>⟨h.1,by have:=h.2;omega⟩,fun h=>⟨h.1,by have:=h.2;omega⟩⟩
theorem Dv {vs:List Int} {k:Nat} {v:Int} (h:Ao vs=true) (hv:isVal v=true):Ao (vs.set k v)=true:=by
 rw[nN]at h⊢;exact⟨C7 h.1 hv,by rw[List.length_set];exact h.2⟩
theorem nC (m:List Int) (c j v:Int) (hj:0≤j):mw m (⟨c,j,v⟩:aL)=m.set j.toNat v:=by
 unfold mw;rw[if_neg (by show¬j= -1;omega)]
theorem xq (l:List Bool):l.count true≤l.length:=List.count_le_length
theorem xZ (l:List Bool) (k:Nat):l.count true≤(l.set k true).count true:=by
 by_cases h:k<l.length
 ·have hp:=List.count_pos_iff (a:=true) (l:=l);rw[List.count_set h];cases hb:l[k]with
  | true=>
    have:0<l.count true:=hp.mpr (hb▸List.getElem_mem h);simp;omega
  | false=>simp
 ·rw[List.set_eq_of_length_le (by omega)];exact Nat.le_refl _
theorem wR (l:List Bool) (k:Nat) (h:k<l.length) (hf:l.getD k true=false):(l.set k true).count true=l.count true+1:=by
 rw[List.getD_eq_getElem?_getD,List.getElem?_eq_getElem h]at hf;have hf':l[k]=false:=hf;rw[List.count_set h,hf'];simp
theorem jS (c:Int) (o:List aL) (u:List Int) (t tl sn:Int) (lg:List Int) (f0 f1 f2 f3 f4 f5 f6 f7:Bool) (vs:List Int) (ho:o.length≤1000000):
 eM.f c o u t tl sn lg f0 f1 f2 f3 f4 f5 f6 f7 vs=some (o++[(⟨c,-1,0⟩:aL)],u,t,tl,sn,lg,f0,f1,f2,f3,f4,f5,f6,f7,vs):=by
 simp only[eM.f,eM.begin,Tr.al,Tr.ak,dH o _ 1048576 (by omega) (by omega) 24 (by omega),↓reduceIte]
theorem fT (a v:Int) (o:List aL) (u:List Int) (t tl sn:Int) (lg:List Int) (f0 f1 f2 f3 f4 f5 f6 f7:Bool) (vs:List Int) (ho:o.length≤1000000):
 bO.f a v o u t tl sn lg f0 f1 f2 f3 f4 f5 f6 f7 vs=some (o++[(⟨3,a,v⟩:aL)],u,t,tl,sn,lg,f0,f1,f2,f3,f4,f5,f6,f7,vs):=by
 simp only[bO.f,bO.begin,Tr.al,Tr.ak,dH o _ 1048576 (by omega) (by omega) 24 (by omega),↓reduceIte]
set_option maxHeartbeats 4000000 in
theorem BF (k v:Int) (o:List aL) (u:List Int) (t tl sn:Int) (lg:List Int) (f0 f1 f2 f3 f4 f5 f6 f7:Bool) (vs:List Int) (hk:0≤k∧k≤7):∃g0 g1 g2 g3 g4 g5 g6 g7:Bool,[g0,g1,g2,g3,g4,g5,g6,g7]=([f0,f1,f2,f3,f4,f5,f6,f7]:List Bool).set k.toNat true∧lp bb.tree (.c6 k v o u t tl sn lg f0 f1 f2 f3 f4 f5 f6 f7 vs)=lp bb.tree (.c7 k v o u t tl sn lg g0 g1 g2 g3 g4 g5 g6 g7 vs):=by
 rw[aA]
 rcases(show k=0∨k=1∨k=2∨k=3∨k=4∨k=5∨k=6∨k=7 by omega)with rfl | rfl | rfl | rfl | rfl | rfl | rfl | rfl<;>
  (simp only[bb.tree,Tr.af,Tr.ai,decide_true,↓reduceIte,Int.reduceEq,decide_false,Bool.false_eq_true]
   exact⟨_,_,_,_,_,_,_,_,rfl,rfl⟩)
theorem uL {s:aw} (h:xn s=true):(1≤s.f0∧s.f0≤6)∧(s.f0=5→1≤s.f2∧s.f2≤5):=by
 unfold xn jO at h;refine⟨?_,fun e=> ?_⟩
 ·split at h
  ·omega
  ·split at h
   ·omega
   ·split at h
    ·omega
    ·split at h
     ·omega
     ·split at h
      ·omega
      ·cases h
 ·rw[if_neg (by omega),if_neg (by omega),if_neg (by omega),if_pos e]at h;simp only[Bool.and_eq_true,ba]at h;exact h.2.2
theorem BZ (x:Int):isVal (sat x)=true:=by unfold isVal;rw[ba];exact oJ x
theorem TI.EG {n:Nat} {t tl:Int} {M:List Int} {B:Nat} {o:List aL} {u:List Int} {sn:Int} {lg:List Int} {f:List Bool} {vs:List Int} (h:TI n t tl M B o u sn lg f vs) {v:Int} (hv:isVal v=true):TI n t tl M (B+1) o (u++[v]) sn lg f vs:=
 {h with
  used:=fun x hx=>by
   rcases List.mem_append.mp hx with hx | hx
   ·exact h.used x hx
   ·rw[List.mem_singleton]at hx;rw[hx];exact hv
  mU:=by have:=h.mU;omega
  uK:=by have:=h.uK;rw[List.length_append,List.length_singleton];omega
  BY:=by have:=h.BY;omega}
def W5 (k:Nat):Nat:=6*5 ^ k
theorem C1 (k:Nat):W5 (k+1)=5*W5 k:=by unfold W5;rw[Nat.pow_succ];omega
theorem DM (k:Nat):6≤W5 k:=by have:0<5 ^ k:=Nat.pow_pos (by omega);unfold W5;omega
theorem Aj {w a b c:Int} (h:unpack w=(a,b,c)) (ha:0≤a):w=pack a b c:=by
 unfold unpack at h;split at h
 ·have:=congrArg Prod.fst h;simp only at this;omega
 ·split at h
  ·rename_i e;have h1:Int.tmod w 8=a:=congrArg Prod.fst h;have h2:Int.tmod (wr (Int.tdiv w 8)) 16=b:=congrArg (fun x=>x.2.1) h;have h3:wr (Int.tdiv w 128)=c:=congrArg (fun x=>x.2.2) h;rw[h1,h2,h3]at e;exact e.symm
  ·have:=congrArg Prod.fst h;simp only at this;omega
theorem kK {n:Nat} {m:List Int} (h:ji n m=true):∃t c tl,unpack (cT m 8)=(t,c,tl)∧cT m 8=pack t c tl∧m.length=49∧(0≤t∧t<n∧t≤5)∧(0≤c∧c≤8)∧(0≤tl∧tl≤24)∧
 (m.take 8).all isVal=true∧(∀i:Nat,(i:Int)<tl→isVal (m.getD (25+i) 0)=true)∧(∀i:Nat,(i:Int)<c→jg m i=true)∧cI m=Ay m tl:=by
 obtain⟨h1,h2,h3,h4,h5,h6⟩:=fh h;obtain⟨g1,g2,g3,g4,g5,g6⟩:=my h2;rcases hu:unpack (cT m 8)with⟨t,c,tl⟩
 rw[hu]at h2 h3 h6 g1 g2 g3 g4 g5 g6;simp only at h2 h3 h6 g1 g2 g3 g4 g5 g6;refine⟨t,c,tl,rfl,Aj hu g1,h1,⟨g1,h3,g2⟩,⟨g3,g4⟩,⟨g5,g6⟩,h4,fun i hi=> ?_,fun i hi=> ?_,jY h1 hu g5⟩
 ·rw[ng (tl:=tl) (by rw[hu]) g5,List.all_eq_true]at h5;refine h5 _ (List.mem_iff_getElem?.mpr ⟨i,?_⟩);rw[uu,if_pos (by omega),List.getD_eq_getElem?_getD,List.getElem?_eq_getElem (by omega)];rfl
 ·rw[List.all_eq_true]at h6;exact h6 i (List.mem_range.mpr (by omega))
theorem vd {m:List Int} (hm:m.length=49) (h:(m.take 8).all isVal=true) (i:Nat) (hi:i<8):isVal (m.getD i 0)=true:=by
 rw[List.all_eq_true]at h;refine h _ (List.mem_iff_getElem?.mpr ⟨i,?_⟩);rw[List.getElem?_take,if_pos hi,List.getD_eq_getElem?_getD,List.getElem?_eq_getElem (by omega)];rfl
theorem Clean.base {n:Nat} {m:List Int} (h:Clean n m):∃t tl,unpack (cT m 8)=(t,0,tl)∧pw n t tl m∧wB t tl m 0 0 m:=by
 obtain⟨t,c,tl,hu,hc,hm,ht,hcc,htl,h8,hs,hl,hw⟩:=kK h.1;have hc0:c=0:=by have:=h.2;rw[hu]at this;exact this
 subst hc0;exact⟨t,tl,hu,⟨hm,ht,htl,hw,hs⟩,⟨hm,hc,by omega,by omega,fun i hi=>vd hm h8 i hi,fun i hi=>absurd hi (by omega),fun i _=>rfl,fun i h1 h2 _=>absurd h1 (by omega)⟩⟩
theorem Cd {p:List bR} (hp:tJ p=true) {t:Int} (ht:0≤t∧t<(p.length:Int)):okB (cS p t).f0.length (cS p t).f0 0=true∧(cS p t).f0.length≤24:=by
 obtain⟨i,rfl⟩:∃i:Nat,t=i:=⟨t.toNat,by omega⟩;have hi:i<p.length:=by omega
 have e:cS p (i:Int)=p[i]:=aP hi;unfold tJ at hp;rw[Bool.and_eq_true,List.all_eq_true]at hp;have:=hp.1 _ (List.getElem_mem hi);unfold Dp at this;rw[Bool.and_eq_true]at this;rw[e];exact⟨this.1,(kg _ _ _ this.1).2.2⟩
structure DO (n:Nat) (m:List Int) (o:List aL) (u:List Int):Prop where
 safe:zt n m o
 mU:o.length≤20000
 used:∀x∈u,isVal x=true
 uK:u.length≤20000
 clean:Clean n (cG m o)
theorem nX (zs:List Int) (x:Int):∀m,m≤zs.length→(x∈Go.Lib.compactUpTo zs.toArray m↔x∈zs.take m)
 | 0,_=>by
   have:Go.Lib.compactUpTo zs.toArray 0=[]:=rfl;rw[this,List.take_zero]
 | m+1,hm=>by
   have h':m<zs.length:=by omega
   have ih:=nX zs x m (by omega);have hm':zs.toArray[m]! =zs[m]:=by simp[h']
   rw[Go.Lib.compactUpTo_succ,List.take_add_one,List.getElem?_eq_getElem h',List.mem_append,List.mem_append,ih,hm']
   by_cases q:Go.Lib.keeps zs.toArray m=true
   ·rw[if_pos q];rfl
   ·rw[if_neg q];unfold Go.Lib.keeps at q;rw[decide_eq_true_eq,not_or,Classical.not_not,hm']at q;have h'':m-1<zs.length:=by omega
    have e:zs.toArray[m-1]! =zs[m-1]:=by simp[h'']
    rw[e]at q;refine⟨fun h=>h.elim Or.inl (fun h=>by simp at h),fun h=>h.elim Or.inl fun h=>Or.inl ?_⟩;have hx:x=zs[m]:=by simpa using h
    rw[hx,q.2];refine List.mem_iff_getElem?.mpr ⟨m-1,?_⟩;rw[List.getElem?_take,if_pos (by omega),List.getElem?_eq_getElem h'']
theorem qJ (l:List Int) (hl:l.length≤1048576):∃m n,slices_Sort_int.f l=some m∧slices_Compact_int.f m=some n∧(∀x,x∈n↔x∈l)∧n.length≤l.length:=by
 obtain⟨m,n,e1,e2,_,h⟩:=Ca l (fun _=>True) (fun _ _=>trivial) hl;refine⟨m,n,e1,e2,fun x=> ?_,h⟩
 have e1':slices_Sort_int.f l=some (l.mergeSort fun x y=>decide (x≤y)):=by
  unfold slices_Sort_int.f;rw[if_pos (by omega)]
 obtain rfl:=Option.some.inj (e1.symm.trans e1');have e2':slices_Compact_int.f (l.mergeSort fun x y=>decide (x≤y))=some (Go.Lib.compact (l.mergeSort fun x y=>decide (x≤y))):=rfl;obtain rfl:=Option.some.inj (e2.symm.trans e2');have:=nX (l.mergeSort fun x y=>decide (x≤y)) x _ (Nat.le_refl _);rw[List.take_length,List.mem_mergeSort]at this;exact this
theorem qO (l:List Int) (k:Int) (hl:l.length≤1048576):∃r,eQ.f l k=some r∧decide (r≥0)=l.any (fun x=>decide (k=x)):=by
 simp only[eQ.f,eQ.begin,Tr.ai];refine te l (fun x=>decide (k=x)) (fun i=>lp eQ.tree (.c2 l k (l.length:Int) (i:Int))) (fun i h=> ?_) ?_
 ·rw[aA];simp only[eQ.tree,Tr.af,Tr.al,Tr.ak,Tr.ai,aX h,bJ h,aP h,and_self,decide_true,↓reduceIte,aH (show i<4611686018427387904 by omega)]
 ·rw[aA];simp only[eQ.tree,Tr.af,Tr.ak,cO,Bool.false_eq_true,↓reduceIte]
theorem mC (l:List Int) (k:Int) (hl:l.length≤1048576):gA.f l k=some (decide (k∈l)):=by
 obtain⟨r,e,h⟩:=qO l k hl;simp only[gA.f,gA.begin,Tr.ag,Tr.ak,fU.told,fU.f,fU.begin,eQ.told,e,ae,h];congr 1;rw[Bool.eq_iff_iff,List.any_eq_true,decide_eq_true_eq];exact⟨fun⟨x,hx,he⟩=>by rw[of_decide_eq_true he];exact hx,fun h=>⟨k,h,decide_eq_true rfl⟩⟩
def Wr (l:List aw) (g:Nat→Prop) (i:Nat) (x:Int):Prop:=∃j y,j<i∧l[j]? =some y∧g j∧(y.f0=1∨y.f0=2)∧y.f1=x
theorem uz {l:List aw} {g:Nat→Prop} {x:Int}:¬Wr l g 0 x:=fun⟨_,_,h,_⟩=>absurd h (by omega)
theorem lG {l:List aw} {g:Nat→Prop} {i:Nat} {x:Int} (h:i<l.length):Wr l g (i+1) x↔Wr l g i x∨(g i∧(l[i].f0=1∨l[i].f0=2)∧l[i].f1=x):=by
 refine⟨fun⟨j,y,h1,h2,h3⟩=> ?_,fun h'=> ?_⟩
 ·by_cases q:j<i
  ·exact Or.inl ⟨j,y,q,h2,h3⟩
  ·obtain rfl:j=i:=by omega
   rw[List.getElem?_eq_getElem h]at h2;cases h2;exact Or.inr h3
 ·rcases h' with⟨j,y,h1,h2⟩ | h'
  ·exact⟨j,y,by omega,h2⟩
  ·exact⟨i,l[i],by omega,List.getElem?_eq_getElem h,h'⟩
theorem CR {l:List aw} {g g':Nat→Prop} {i:Nat} {x:Int} (h:∀j,j<i→(g j↔g' j)):Wr l g i x↔Wr l g' i x:=
 ⟨fun⟨j,y,h1,h2,h3,h4⟩=>⟨j,y,h1,h2,(h j h1).mp h3,h4⟩,fun⟨j,y,h1,h2,h3,h4⟩=>⟨j,y,h1,h2,(h j h1).mpr h3,h4⟩⟩
theorem iZ (x a:Int) (s:List Int):x∈s++[a]↔x∈s∨a=x:=by
 rw[List.mem_append,List.mem_singleton];exact⟨fun h=>h.imp id Eq.symm,fun h=>h.imp id Eq.symm⟩
theorem rX (l:List aw) (hl:l.length≤1048576) (hb:okB l.length l 0=true):∃r,iB.f l=some r∧r.length≤l.length∧∀x,x∈r↔Wr l (fun _=>True) l.length x:=by
 have key:=upto l.length (fun i (s:List Int)=>s.length≤i∧∀x,x∈s↔Wr l (fun _=>True) i x) (fun i s=>lp fo.tree (.c3 s l (l.length:Int) (i:Int))) (fun r=>r.length≤l.length∧∀x,x∈r↔Wr l (fun _=>True) l.length x) (fun i hi s hs=>by
  obtain⟨hs,hm⟩:=hs;rw[aA]
  by_cases q:i<l.length
  ·have fit:∀x:Int,((s.length:Int)+(([x]:List Int).length:Int))*(8:Nat)≤room:=fun x=>dH s x 1048576 (by omega) (by omega) 8 (by omega)
   by_cases hv:l[i].f0=1∨l[i].f0=2
   ·refine Or.inr ⟨q,s++[l[i].f1],?_,by rw[List.length_append,List.length_singleton];omega,fun x=> ?_⟩
    ·simp only[fo.tree,Tr.af,Tr.al,Tr.ag,Tr.ai,aX q,bJ q,aP q,and_self,↓reduceIte,bU.told,jd,ae,hv,decide_true,ik.told,ik.f,ik.begin,Tr.ak,fit,aH (show i<4611686018427387904 by omega)]
    ·rw[iZ,hm,lG q];exact⟨fun h=>h.imp id fun h=>⟨trivial,hv,h⟩,fun h=>h.imp id fun h=>h.2.2⟩
   ·refine Or.inr ⟨q,s,?_,by omega,fun x=> ?_⟩
    ·simp only[fo.tree,Tr.af,Tr.al,Tr.ag,Tr.ai,aX q,bJ q,aP q,and_self,↓reduceIte,bU.told,jd,ae,hv,decide_false,decide_true,Bool.false_eq_true,aH (show i<4611686018427387904 by omega)]
    ·rw[hm,lG q];exact⟨Or.inl,fun h=>h.elim id fun h=>absurd h.2.1 hv⟩
  ·obtain rfl:i=l.length:=by omega
   obtain⟨m,n,e1,e2,hn,b⟩:=qJ s (by omega);refine Or.inl ⟨n,?_,by omega,fun x=>by rw[hn,hm]⟩;simp only[fo.tree,Tr.af,Tr.ag,Tr.ak,cO,Bool.false_eq_true,↓reduceIte,slices_Sort_int.told,e1,slices_Compact_int.told,e2,ae]) 0 (by omega) [] ⟨by simp,fun x=>⟨fun h=>by simp at h,fun h=>absurd h uz⟩⟩
 obtain⟨r,e,h⟩:=key;refine⟨r,?_,h⟩;simp only[iB.f,iB.begin,Tr.ag,Tr.af,Tr.ak,bQ.told,jw l hl,ae,fo.told,fo.f,fo.begin,Tr.ai,hb,Bool.not_true,Bool.false_eq_true,↓reduceIte];have e':lp fo.tree (.c3 [] l (l.length:Int) 0)=some r:=e;rw[e'];rfl
theorem sK (l:List aw) (g:List Bool) (hl:l.length≤1048576) (hg:g.length=l.length):∃r,gp.f l g=some r∧r.1.length≤l.length∧∀x,x∈r.1↔Wr l (fun j=>g[j]? =some false) l.length x:=by
 have key:=upto l.length (fun i (s:List Int)=>s.length≤i∧∀x,x∈s↔Wr l (fun j=>g[j]? =some false) i x) (fun i s=>lp gp.tree (.c3 s l (l.length:Int) (i:Int) g)) (fun r=>r.1.length≤l.length∧∀x,x∈r.1↔Wr l (fun j=>g[j]? =some false) l.length x) (fun i hi s hs=>by
  obtain⟨hs,hm⟩:=hs;rw[aA]
  by_cases q:i<l.length
  ·have q':i<g.length:=by omega
   have fit:∀x:Int,((s.length:Int)+(([x]:List Int).length:Int))*(8:Nat)≤room:=fun x=>dH s x 1048576 (by omega) (by omega) 8 (by omega)
   by_cases hv:l[i].f0=1∨l[i].f0=2
   ·cases hb:g[i]with
    | false=>
      refine Or.inr ⟨q,s++[l[i].f1],?_,by rw[List.length_append,List.length_singleton];omega,fun x=> ?_⟩
      ·simp only[gp.tree,Tr.af,Tr.al,Tr.ag,Tr.ai,aX q,bJ q,bJ q',aP q,aP q',hb,and_self,↓reduceIte,bU.told,jd,ae,hv,decide_true,fv.told,fv.f,fv.begin,Tr.ak,Bool.not_false,fit,aH (show i<4611686018427387904 by omega)]
      ·rw[iZ,hm,lG q,List.getElem?_eq_getElem q',hb];exact⟨fun h=>h.imp id fun h=>⟨rfl,hv,h⟩,fun h=>h.imp id fun h=>h.2.2⟩
    | true=>
      refine Or.inr ⟨q,s,?_,by omega,fun x=> ?_⟩
      ·simp only[gp.tree,Tr.af,Tr.al,Tr.ag,Tr.ai,aX q,bJ q,bJ q',aP q,aP q',hb,and_self,↓reduceIte,bU.told,jd,ae,hv,decide_true,fv.told,fv.f,fv.begin,Tr.ak,Bool.not_true,Bool.false_eq_true,fit,aH (show i<4611686018427387904 by omega)]
      ·rw[hm,lG q,List.getElem?_eq_getElem q',hb];exact⟨Or.inl,fun h=>h.elim id fun h=>by cases h.1⟩
   ·refine Or.inr ⟨q,s,?_,by omega,fun x=> ?_⟩
    ·simp only[gp.tree,Tr.af,Tr.al,Tr.ag,Tr.ai,aX q,bJ q,aP q,and_self,↓reduceIte,bU.told,jd,ae,hv,decide_false,decide_true,Bool.false_eq_true,aH (show i<4611686018427387904 by omega)]
    ·rw[hm,lG q];exact⟨Or.inl,fun h=>h.elim id fun h=>absurd h.2.1 hv⟩
  ·obtain rfl:i=l.length:=by omega
   obtain⟨m,n,e1,e2,hn,b⟩:=qJ s (by omega);refine Or.inl ⟨(n,g),?_,by show n.length≤_;omega,fun x=>by rw[←hm];exact hn x⟩;simp only[gp.tree,Tr.af,Tr.ag,Tr.ak,cO,Bool.false_eq_true,↓reduceIte,slices_Sort_int.told,e1,slices_Compact_int.told,e2,ae]) 0 (by omega) [] ⟨by simp,fun x=>⟨fun h=>by simp at h,fun h=>absurd h uz⟩⟩
 exact key
def Ends (l:List aw) (i e:Nat):Prop:=∃x a s r,l.drop i=x::(a++s::r)∧(x.f0=4∨x.f0=5)∧s.f0=6∧inr 1 30 a 1=true∧fin a 1=1∧e=i+1+a.length
theorem Ends.z8 {l:List aw} {i e:Nat} (h:Ends l i e) (hl:l.length≤1048576):dN.f l (i:Int)=some (e:Int):=by
 obtain⟨x,a,s,r,h1,h2,h3,h4,h5,rfl⟩:=h;exact qp l hl 30 (by omega) (by omega) i x a s r h1 h2 h3 h4 h5
theorem Ends.inj {l:List aw} {i e e':Nat} (hl:l.length≤1048576) (h:Ends l i e) (h':Ends l i e'):e=e':=by
 have:=(h.z8 hl).symm.trans (h'.z8 hl);have:=Option.some.inj this;omega
theorem lj.A1 {k:Int} {l:List aw} {i:Nat} (h:lj k l i) (hi:i<l.length) (hk:k≤30) (hx:l[i].f0=4∨l[i].f0=5):
 ∃a s r,l.drop i=l[i]::(a++s::r)∧s.f0=6∧1≤k∧EL (k-1) a∧inr 1 30 a 1=true∧fin a 1=1∧i+1+a.length<l.length∧(l.take (i+1+a.length)).drop (i+1)=a∧l.drop (i+1+a.length+1)=r∧lj k l (i+1+a.length+1):=by
 obtain⟨d,hd,h1,h2⟩:=h;have hdr:=List.drop_eq_getElem_cons hi;rw[hdr]at h1 h2;obtain⟨a,s,r,e1,e6,k1,hb,p1,p2,p3,p4⟩:=qE hd hx h1 h2;rw[e1]at hdr;obtain⟨g1,g2,g3⟩:=drop_at (show l.drop i=(l[i]::a)++s::r from hdr);simp only[List.length_cons]at g1 g3
 have hia:(l.take (i+1+a.length)).drop (i+1)=a:=by
  rw[List.drop_take,show i+1+a.length-(i+1)=a.length by omega];have:l.drop (i+1)=a++s::r:=e1;rw[this];simp
 have g3':l.drop (i+1+a.length+1)=r:=by rw[show i+1+a.length+1=i+(a.length+1)+1 by omega];exact g3
 exact⟨a,s,r,hdr,e6,k1,hb,mX (by omega) hk a 1 p1,p2,by omega,hia,g3',d,hd,by rw[g3'];exact p3,by rw[g3'];exact p4⟩
def Aq (l:List aw) (i e:Nat):Prop:=(∃x,l[i]? =some x∧x.f0=4)∧Ends l i e
def Az (l:List aw) (j:Nat):Prop:=∃i e,Aq l i e∧i≤j∧j≤e
theorem lj.at {k:Int} {l:List aw}:∀(i:Nat),lj k l 0→i≤l.length→lj k l i
 | 0,h,_=>h
 | i+1,h,hi=>((lj.at i h (by omega)).next (by omega)).2
theorem nested {k:Int} {l:List aw} {i:Nat} {x:aw} {a:List aw} {s:aw} {r:List aw} (hl:l.length≤1048576) (hd:l.drop i=x::(a++s::r)) (hs:s.f0=6) (hb:EL k a) (hk:k≤30) {i' e':Nat} (h1:i<i') (h2:i'≤i+1+a.length) (h:Aq l i' e'):e'≤i+1+a.length:=by
 obtain⟨⟨y,hy,h4⟩,he⟩:=h;obtain⟨m,rfl⟩:∃m,i'=i+1+m:=⟨i'-(i+1),by omega⟩;have hdrop:l.drop (i+1)=a++s::r:=by rw[←List.drop_drop,hd];rfl
 have hy':(a++s::r)[m]? =some y:=by rw[←hdrop,List.getElem?_drop];exact hy
 have hm:m<a.length:=by
  by_cases q:m<a.length
  ·exact q
  ·have:m=a.length:=by omega
   subst this;rw[List.getElem?_append_right (Nat.le_refl _),Nat.sub_self]at hy';have:s=y:=Option.some.inj hy';rw[←this]at h4;omega
 rw[List.getElem?_append_left hm,List.getElem?_eq_getElem hm]at hy';have hy'':a[m]=y:=Option.some.inj hy';have hF:lj k a 0:=⟨0,by omega,hb.1,hb.2⟩;obtain⟨a',s',r',e1,e6,_,_,p1,p2,p3,_,_,_⟩:=(hF.at m (by omega)).A1 hm hk (Or.inl (by rw[hy''];exact h4))
 have hd':l.drop (i+1+m)=a[m]::(a'++s'::(r'++s::r)):=by
  rw[←List.drop_drop,hdrop,List.drop_append_of_le_length (by omega),e1];simp
 have:=he.inj hl (⟨a[m],a',s',_,hd',Or.inl (by rw[hy''];exact h4),e6,p1,p2,rfl⟩:Ends l (i+1+m) _);omega
theorem qw (l:List aw) (hl:l.length≤1048576) (hb:okB l.length l 0=true):∃r,bY.f l=some r∧r.length≤l.length∧∀x,x∈r↔Wr l (fun j=>¬Az l j) l.length x:=by
 obtain⟨b1,b2,b3⟩:=kg _ _ _ hb;have n1:(0:Int)≤(l.length:Int)∧(l.length:Int)≤(l.length:Int)∧(l.length:Int)*(1:Nat)≤room:=⟨by omega,by omega,by unfold room;omega⟩
 have key9:∀(e i:Nat),e<l.length→dN.f l (i:Int)=some (e:Int)→∀(n j:Nat) (g:List Bool),j+n=e+1→g.length=l.length→∃g',g'.length=l.length∧(∀m,m<l.length→(g'[m]? =some true↔g[m]? =some true∨(j≤m∧m≤e)))∧lp bY.tree (.c9 l g (i:Int) (j:Int) l (l.length:Int) (i:Int))=lp bY.tree (.c5 l g' l (l.length:Int) (wr ((i:Int)+1))):=by
  intro e i he hend n
  induction n with
  | zero=>
    intro j g hj hg;refine⟨g,hg,fun m _=>⟨Or.inl,fun h=>h.elim id fun h=>by omega⟩,?_⟩;rw[aA];have q:decide ((j:Int)≤(e:Int))=false:=decide_eq_false (by omega);simp only[bY.tree,Tr.ag,Tr.af,Tr.ai,dN.told,hend,ae,q,Bool.false_eq_true,↓reduceIte]
  | succ n ih=>
    intro j g hj hg;obtain⟨g',hg',hm',e'⟩:=ih (j+1) (g.set j true) (by omega) (by rw[List.length_set];exact hg);refine⟨g',hg',fun m hm=> ?_,?_⟩
    ·rw[hm' m hm,List.getElem?_set]
     by_cases qm:j=m
     ·subst qm;rw[if_pos rfl,if_pos (by omega)];exact⟨fun _=>Or.inr ⟨by omega,by omega⟩,fun _=>Or.inl rfl⟩
     ·rw[if_neg qm];exact⟨fun h=>h.imp id fun h=>by omega,fun h=>h.imp id fun h=>by omega⟩
    ·rw[aA];have q:decide ((j:Int)≤(e:Int))=true:=decide_eq_true (by omega);have q':j<g.length:=by omega
     simp only[bY.tree,Tr.ag,Tr.af,Tr.al,Tr.ai,dN.told,hend,ae,q,bJ q',and_self,↓reduceIte,Int.toNat_natCast,aH (show j<4611686018427387904 by omega)];exact e'
 have key:=upto l.length (fun i (g:List Bool)=>g.length=l.length∧lj 3 l i∧∀m,m<l.length→(g[m]? =some true↔∃i' e,i'<i∧Aq l i' e∧i'≤m∧m≤e)) (fun i g=>lp bY.tree (.c5 l g l (l.length:Int) (i:Int))) (fun r=>r.length≤l.length∧∀x,x∈r↔Wr l (fun j=>¬Az l j) l.length x) (fun i hi g hs=>by
  obtain⟨hg,hF,hM⟩:=hs
  by_cases q:i<l.length
  ·obtain⟨hok,hF'⟩:=hF.next q
   by_cases h4:l[i].f0=4
   ·obtain⟨a,s,r,e1,e6,_,_,p1,p2,p3,_,_,_⟩:=hF.A1 q (by omega) (Or.inl h4);have hE:Ends l i (i+1+a.length):=⟨l[i],a,s,r,e1,Or.inl h4,e6,p1,p2,rfl⟩;have hI:Aq l i (i+1+a.length):=⟨⟨l[i],List.getElem?_eq_getElem q,h4⟩,hE⟩;obtain⟨g',hg',hm',e'⟩:=key9 (i+1+a.length) i p3 (hE.z8 hl) (i+1+a.length+1-i) i g (by omega) hg;refine Or.inr ⟨q,g',?_,hg',hF',fun m hm=> ?_⟩
    ·rw[aA];simp only[bY.tree,Tr.af,Tr.al,Tr.ai,aX q,bJ q,aP q,and_self,↓reduceIte,decide_eq_true h4,decide_true,e',aH (show i<4611686018427387904 by omega)]
    ·rw[hm' m hm,hM m hm];refine⟨fun h=>h.elim (fun⟨i',e,h1,h2⟩=>⟨i',e,by omega,h2⟩) fun h=>⟨i,_,by omega,hI,h⟩,fun⟨i',e,h1,h2,h3⟩=> ?_⟩
     by_cases qi:i'<i
     ·exact Or.inl ⟨i',e,qi,h2,h3⟩
     ·obtain rfl:i'=i:=by omega
      have:=h2.2.inj hl hE;exact Or.inr (by omega)
   ·refine Or.inr ⟨q,g,?_,hg,hF',fun m hm=> ?_⟩
    ·rw[aA];simp only[bY.tree,Tr.af,Tr.al,Tr.ai,aX q,bJ q,aP q,and_self,↓reduceIte,decide_eq_false h4,decide_true,Bool.false_eq_true,aH (show i<4611686018427387904 by omega)]
    ·rw[hM m hm];refine⟨fun⟨i',e,h1,h2⟩=>⟨i',e,by omega,h2⟩,fun⟨i',e,h1,h2,h3⟩=> ?_⟩
     by_cases qi:i'<i
     ·exact⟨i',e,qi,h2,h3⟩
     ·obtain rfl:i'=i:=by omega
      obtain⟨⟨y,hy,hy4⟩,_⟩:=h2;rw[List.getElem?_eq_getElem q]at hy;cases hy;exact absurd hy4 h4
  ·obtain rfl:i=l.length:=by omega
   obtain⟨r,er,hr,hrm⟩:=sK l g hl hg;refine Or.inl ⟨r.1,?_,hr,fun x=> ?_⟩
   ·rw[aA];simp only[bY.tree,Tr.af,Tr.ag,Tr.ak,cO,Bool.false_eq_true,↓reduceIte,gp.told,er,ae]
   ·rw[hrm];refine CR fun j hj=> ?_;have hj':j<g.length:=by omega
    have:=hM j hj;rw[List.getElem?_eq_getElem hj']at this⊢;cases hgj:g[j]with
    | true=>
      rw[hgj]at this;obtain⟨i',e,h1,h2,h3⟩:=this.mp rfl;exact⟨fun h=>(by cases h),fun h=>(h ⟨i',e,h2,h3⟩).elim⟩
    | false=>
      rw[hgj]at this;refine⟨fun _ hI=> ?_,fun _=>rfl⟩;obtain⟨i',e,h2,h3⟩:=hI;have hi':i'<l.length:=by omega
      have:=this.mpr ⟨i',e,hi',h2,h3⟩;cases this) 0 (by omega) (List.replicate l.length false) ⟨by simp,⟨0,by omega,b1,b2⟩,fun m hm=>⟨fun h=>by simp[List.getElem?_replicate,hm]at h,fun⟨i',e,h,_⟩=>absurd h (by omega)⟩⟩
 obtain⟨r,e,hr⟩:=key;refine⟨r,?_,hr⟩;simp only[bY.f,bY.begin,Tr.ag,Tr.af,Tr.al,Tr.ai,bQ.told,jw l hl,ae,hb,Bool.not_true,Bool.false_eq_true,↓reduceIte,n1,and_self,Int.toNat_natCast];exact e
theorem ir {A:Type} {o:List A} {j:Nat} (q:j<o.length):o.take (j+1)=o.take j++[o[j]]:=by rw[List.take_add_one,List.getElem?_eq_getElem q];rfl
def nm (o a b:Int) (k:Nat):Bool:=pM o a b&&(decide (a= -1-(k:Int)) || decide (b= -1-(k:Int)))
def note (W F R:Nat→Bool) (k:Nat):Bool:=F k || (R k&& !W k)
def nQ (W:Nat→Bool) (v:Int) (k:Nat):Bool:=W k || decide (v=(k:Int))
def hZ (x:aw) (W:Nat→Bool):Nat→Bool:=if x.f0=1∨x.f0=2 then nQ W x.f1 else W
def iz (x:aw) (W F:Nat→Bool):Nat→Bool:=if x.f0=1∨x.f0=3∨x.f0=4 then note W F (nm x.f3.f0 x.f3.f1 x.f3.f2)else F
inductive jK:Nat→List aw→(Nat→Bool)→(Nat→Bool)→(Nat→Bool)→(Nat→Bool)→Prop
 | nil (n W F):jK n [] W F W F
 | plain {n x l W F W' F'}:x.f0≠4→xn x=true→jK n l (hZ x W) (iz x W F) W' F'→jK n (x::l) W F W' F'
 | ifs {n x a s r W F W1 F1 W' F'}:x.f0=4→xn x=true→s.f0=6→inr 1 30 a 1=true→fin a 1=1→jK n a (hZ x W) (iz x W F) W1 F1→jK (n+1) r (hZ x W) F1 W' F'→jK (n+1) (x::(a++s::r)) W F W' F'
theorem sq (o a b:Int):∃r,fw.f o a b=some r∧r.length≤2∧(∀x∈r,0≤x∧x≤7)∧∀k:Nat,(k:Int)∈r↔nm o a b k=true:=by
 cases hx:pM o a b with
 | false=>
   simp only[fw.f,fw.begin,Tr.ag,Tr.af,Tr.ak,cH.told,iD,hx,ae,Bool.not_false,↓reduceIte];exact⟨_,rfl,by simp,by simp,fun k=>by unfold nm;rw[hx];simp⟩
 | true=>
   obtain⟨_,ha,hb⟩:=vF hx
   have key:=upto 2 (fun i (s:List Int)=>s.length≤i∧(∀x∈s,0≤x∧x≤7)∧∀k:Nat,(k:Int)∈s↔∃j,j<i∧cT [a,b] (j:Int)= -1-(k:Int)) (fun i s=>lp fw.tree (.c5 s [a,b] (2:Int) (i:Int))) (fun r=>r.length≤2∧(∀x∈r,0≤x∧x≤7)∧∀k:Nat,(k:Int)∈r↔nm o a b k=true) (fun i hi s hs=>by
    obtain⟨hl,hv,hm⟩:=hs;rw[aA]
    by_cases q:i<2
    ·have q1:decide ((i:Int)<2)=true:=decide_eq_true (by omega);have q2:(0:Int)≤(i:Int)∧(i:Int)<((([a,b]:List Int).length:Nat):Int):=by simp;omega
     have hr: -8≤cT [a,b] (i:Int)∧cT [a,b] (i:Int)≤999:=by
      rcases(show i=0∨i=1 by omega)with rfl | rfl
      ·exact ha
      ·exact hb
     have hsucc:∀k:Nat,(∃j,j<i+1∧cT [a,b] (j:Int)= -1-(k:Int))↔(∃j,j<i∧cT [a,b] (j:Int)= -1-(k:Int))∨cT [a,b] (i:Int)= -1-(k:Int):=fun k=>
      ⟨fun⟨j,h1,h2⟩=>by
       by_cases qj:j<i
       ·exact Or.inl ⟨j,qj,h2⟩
       ·obtain rfl:j=i:=by omega
        exact Or.inr h2,fun h=>h.elim (fun⟨j,h1,h2⟩=>⟨j,by omega,h2⟩) fun h=>⟨i,by omega,h⟩⟩
     by_cases hn:cT [a,b] (i:Int)<0
     ·have w:wr (-1-cT [a,b] (i:Int))= -1-cT [a,b] (i:Int):=bZ (by omega);refine Or.inr ⟨q,s++[-1-cT [a,b] (i:Int)],?_,by rw[List.length_append,List.length_singleton];omega,?_,fun k=> ?_⟩
      ·simp only[fw.tree,Tr.af,Tr.al,Tr.ai,q1,q2,and_self,decide_eq_true hn,w,dH s _ 1048576 (by omega) (by omega) 8 (by omega),decide_true,↓reduceIte,aH (show i<4611686018427387904 by omega)]
      ·intro x hx;rcases List.mem_append.mp hx with hx | hx
       ·exact hv x hx
       ·rw[List.mem_singleton]at hx;omega
      ·rw[iZ,hm,hsucc];exact⟨fun h=>h.imp id fun h=>by omega,fun h=>h.imp id fun h=>by omega⟩
     ·refine Or.inr ⟨q,s,?_,by omega,hv,fun k=> ?_⟩
      ·simp only[fw.tree,Tr.af,Tr.al,Tr.ai,q1,q2,and_self,decide_eq_false hn,Bool.false_eq_true,decide_true,↓reduceIte,aH (show i<4611686018427387904 by omega)]
      ·rw[hm,hsucc];exact⟨Or.inl,fun h=>h.elim id fun h=>by omega⟩
    ·have q1:decide ((i:Int)<2)=false:=decide_eq_false (by omega);obtain⟨m,n,e1,e2,hn,hb⟩:=qJ s (by omega);refine Or.inl ⟨n,?_,by omega,fun x hx=>hv x ((hn x).mp hx),fun k=> ?_⟩
     ·simp only[fw.tree,Tr.af,Tr.ag,Tr.ak,q1,Bool.false_eq_true,↓reduceIte,slices_Sort_int.told,e1,slices_Compact_int.told,e2,ae]
     ·obtain rfl:i=2:=by omega
      rw[hn,hm];unfold nm;rw[hx,Bool.true_and,Bool.or_eq_true,decide_eq_true_eq,decide_eq_true_eq];refine⟨fun⟨j,h1,h2⟩=> ?_,fun h=>h.elim (fun h=>⟨0,by omega,h⟩) fun h=>⟨1,by omega,h⟩⟩;rcases(show j=0∨j=1 by omega)with rfl | rfl
      ·exact Or.inl h2
      ·exact Or.inr h2) 0 (by omega) [] ⟨by simp,by simp,fun k=>⟨fun h=>by simp at h,fun⟨j,h,_⟩=>absurd h (by omega)⟩⟩
   obtain⟨r,e,h⟩:=key;refine⟨r,?_,h⟩;simp only[fw.f,fw.begin,Tr.ag,Tr.af,Tr.ai,cH.told,iD,hx,ae,Bool.not_true,Bool.false_eq_true,↓reduceIte];exact e
set_option maxHeartbeats 8000000 in
theorem lY (o a b:Int) (W F:Nat→Bool):cA.f o a b (W 0) (W 1) (W 2) (W 3) (W 4) (W 5) (W 6) (W 7) (F 0) (F 1) (F 2) (F 3) (F 4) (F 5) (F 6) (F 7)=some (W 0,W 1,W 2,W 3,W 4,W 5,W 6,W 7,note W F (nm o a b) 0,note W F (nm o a b) 1,note W F (nm o a b) 2,note W F (nm o a b) 3,note W F (nm o a b) 4,note W F (nm o a b) 5,note W F (nm o a b) 6,note W F (nm o a b) 7):=by
 obtain⟨l,e,hl,hv,hm⟩:=sq o a b;simp only[cA.f,cA.begin,Tr.ag,Tr.ai,fw.told,e,ae];obtain⟨G,hG⟩:∃G:Nat→Nat→Bool,∀i k,G i k=note W F (fun k=>decide ((k:Int)∈l.take i)) k:=⟨_,fun _ _=>rfl⟩
 have key:∀(n i:Nat),i+n=l.length→lp cA.tree (.c2 l (l.length:Int) (i:Int) (W 0) (W 1) (W 2) (W 3) (W 4) (W 5) (W 6) (W 7) (G i 0) (G i 1) (G i 2) (G i 3) (G i 4) (G i 5) (G i 6) (G i 7))=some (W 0,W 1,W 2,W 3,W 4,W 5,W 6,W 7,G l.length 0,G l.length 1,G l.length 2,G l.length 3,G l.length 4,G l.length 5,G l.length 6,G l.length 7):=by
  intro n
  induction n with
  | zero=>
    intro i hi;obtain rfl:i=l.length:=by omega
    rw[aA];simp only[cA.tree,Tr.af,Tr.ak,cO,Bool.false_eq_true,↓reduceIte]
  | succ n ih=>
    intro i hi;have q:i<l.length:=by omega
    rw[←ih (i+1) (by omega)];have hk:=hv l[i] (List.getElem_mem q);have hr:cT l (i:Int)=l[i]:=aP q
    have hs:∀k:Nat,G (i+1) k=(G i k || (decide (l[i]=(k:Int))&& !W k)):=fun k=>by
     rw[hG,hG];unfold note;dsimp only
     have:decide ((k:Int)∈l.take (i+1))=(decide ((k:Int)∈l.take i) || decide (l[i]=(k:Int))):=by
      rw[Bool.eq_iff_iff,Bool.or_eq_true,decide_eq_true_eq,decide_eq_true_eq,decide_eq_true_eq,List.take_add_one,List.getElem?_eq_getElem q];exact iZ _ _ _
     rw[this,Bool.and_or_distrib_right,Bool.or_assoc]
    clear ih hG hm e hv;generalize l[i]=k at hk hr hs;have w:wr ((i:Int)+1)=((i+1:Nat):Int):=aH (show i<4611686018427387904 by omega);have h0:G (i+1) 0=(G i 0 || (decide (k=(0:Int))&& !W 0)):=hs 0;have h1:G (i+1) 1=(G i 1 || (decide (k=(1:Int))&& !W 1)):=hs 1;have h2:G (i+1) 2=(G i 2 || (decide (k=(2:Int))&& !W 2)):=hs 2;have h3:G (i+1) 3=(G i 3 || (decide (k=(3:Int))&& !W 3)):=hs 3;have h4:G (i+1) 4=(G i 4 || (decide (k=(4:Int))&& !W 4)):=hs 4;have h5:G (i+1) 5=(G i 5 || (decide (k=(5:Int))&& !W 5)):=hs 5;have h6:G (i+1) 6=(G i 6 || (decide (k=(6:Int))&& !W 6)):=hs 6;have h7:G (i+1) 7=(G i 7 || (decide (k=(7:Int))&& !W 7)):=hs 7;clear hs;rw[aA];simp only[cA.tree,Tr.af,Tr.al,Tr.ai,aX q,bJ q,and_self,decide_true,↓reduceIte];rw[hr]
    rcases(show k=0∨k=1∨k=2∨k=3∨k=4∨k=5∨k=6∨k=7 by omega)with rfl | rfl | rfl | rfl | rfl | rfl | rfl | rfl<;>
     (simp only[Int.reduceEq,decide_false,decide_true,Bool.false_and,Bool.true_and,Bool.or_false]at h0 h1 h2 h3 h4 h5 h6 h7
      simp only[Int.reduceEq,decide_false,decide_true,Bool.false_eq_true,↓reduceIte,h0,h1,h2,h3,h4,h5,h6,h7];split
      ·rename_i h;simp only[h,Bool.or_true];rw[aA];simp only[cA.tree,Tr.af,Tr.ai,decide_true,↓reduceIte,Int.reduceEq,decide_false,Bool.false_eq_true];rw[aA];simp only[cA.tree,Tr.ai,w]
      ·rename_i h;simp only[Bool.eq_false_iff.mpr h,Bool.or_false];rw[aA];simp only[cA.tree,Tr.ai,w])
 have e0:∀k,G 0 k=F k:=fun k=>by rw[hG];unfold note;rw[List.take_zero];simp
 have e1:∀k,G l.length k=note W F (nm o a b) k:=fun k=>by
  rw[hG];unfold note;dsimp only;have:decide ((k:Int)∈l.take l.length)=nm o a b k:=by rw[List.take_length,Bool.eq_iff_iff,decide_eq_true_eq,hm]
  rw[this]
 have:=key l.length 0 (by omega);simp only[e0,e1]at this;exact this
theorem Dl (W:Nat→Bool) (v:Int) (k:Nat) (h:v=(k:Int)):nQ W v k=true:=by unfold nQ;rw[decide_eq_true h,Bool.or_true]
theorem C8 (W:Nat→Bool) (v:Int) (k:Nat) (h:¬v=(k:Int)):nQ W v k=W k:=by unfold nQ;rw[decide_eq_false h,Bool.or_false]
set_option maxHeartbeats 8000000 in
theorem vC (self_:Self aO.I aO.A aO.K) (l:List aw) (i:Nat) (hi:i<l.length) (hok:xn l[i]=true) (W F:Nat→Bool):
 lp (aO.tree self_) (.c1 l (i:Int) (W 0) (W 1) (W 2) (W 3) (W 4) (W 5) (W 6) (W 7) (F 0) (F 1) (F 2) (F 3) (F 4) (F 5) (F 6) (F 7))=lp (aO.tree self_) (.c8 l (i:Int) l[i].f0 l[i].f1 l[i].f2 l[i].f3.f0 l[i].f3.f1 l[i].f3.f2 (hZ l[i] W 0) (hZ l[i] W 1) (hZ l[i] W 2) (hZ l[i] W 3) (hZ l[i] W 4) (hZ l[i] W 5) (hZ l[i] W 6) (hZ l[i] W 7) (iz l[i] W F 0) (iz l[i] W F 1) (iz l[i] W F 2) (iz l[i] W F 3) (iz l[i] W F 4) (iz l[i] W F 5) (iz l[i] W F 6) (iz l[i] W F 7)):=by
 rw[aA];have hvar:=qZ hok;generalize hx:l[i]=x at hok hvar;have hr:aj l (i:Int)=x:=(aP hi).trans hx;have sF:(x.f0=1∨x.f0=3∨x.f0=4)→iz x W F=note W F (nm x.f3.f0 x.f3.f1 x.f3.f2):=fun h=>by unfold iz;rw[if_pos h]
 have sF':¬(x.f0=1∨x.f0=3∨x.f0=4)→iz x W F=F:=fun h=>by unfold iz;rw[if_neg h]
 have sW:(x.f0=1∨x.f0=2)→hZ x W=nQ W x.f1:=fun h=>by unfold hZ;rw[if_pos h]
 have sW':¬(x.f0=1∨x.f0=2)→hZ x W=W:=fun h=>by unfold hZ;rw[if_neg h]
 generalize hWW:hZ x W=W' at sW sW';generalize hFF:iz x W F=F' at sF sF';simp only[aO.tree,Tr.af,Tr.al,Tr.ag,aX hi,bJ hi,hr,and_self,decide_true,↓reduceIte,cK.told,uO,bU.told,jd,ae];clear hWW hFF hok hx hr
 by_cases hE:x.f0=1∨x.f0=3∨x.f0=4
 ·simp only[decide_eq_true hE,↓reduceIte,cA.told,lY x.f3.f0 x.f3.f1 x.f3.f2 W F,ae];rw[sF hE]
  by_cases hV:x.f0=1∨x.f0=2
  ·obtain⟨v0,v1⟩:=hvar hV;rw[sW hV];simp only[decide_eq_true hV,↓reduceIte]
   rcases(show x.f1=0∨x.f1=1∨x.f1=2∨x.f1=3∨x.f1=4∨x.f1=5∨x.f1=6∨x.f1=7 by omega)with h | h | h | h | h | h | h | h<;>
    simp[h,nQ,Tr.aZ,Tr.ai]
  ·rw[sW' hV];simp only[decide_eq_false hV,Bool.false_eq_true,↓reduceIte,Tr.ai]
 ·simp only[decide_eq_false hE,Bool.false_eq_true,↓reduceIte];rw[sF' hE]
  by_cases hV:x.f0=1∨x.f0=2
  ·obtain⟨v0,v1⟩:=hvar hV;rw[sW hV];simp only[decide_eq_true hV,↓reduceIte]
   rcases(show x.f1=0∨x.f1=1∨x.f1=2∨x.f1=3∨x.f1=4∨x.f1=5∨x.f1=6∨x.f1=7 by omega)with h | h | h | h | h | h | h | h<;>
    simp[h,nQ,Tr.aZ,Tr.ai]
  ·rw[sW' hV];simp only[decide_eq_false hV,Bool.false_eq_true,↓reduceIte,Tr.ai]
def CK (self_:Self aO.I aO.A aO.K) (n:Nat):Prop:=
 ∀(l:List aw) (W F W1 F1:Nat→Bool),l.length≤1048576→jK n l W F W1 F1→self_.f (l,W 0,W 1,W 2,W 3,W 4,W 5,W 6,W 7,F 0,F 1,F 2,F 3,F 4,F 5,F 6,F 7)=some (W1 0,W1 1,W1 2,W1 3,W1 4,W1 5,W1 6,W1 7,F1 0,F1 1,F1 2,F1 3,F1 4,F1 5,F1 6,F1 7)
set_option maxHeartbeats 4000000 in
theorem uy (self_:Self aO.I aO.A aO.K) (n:Nat) (hs:∀n',n=n'+1→CK self_ n'):CK (aO.step self_) n:=by
 intro l W F W1 F1 hl hR
 have key:∀(n':Nat) (m:List aw) (W F W1 F1:Nat→Bool),jK n' m W F W1 F1→n'=n→∀i,i≤l.length→l.drop i=m→lp (aO.tree self_) (.c1 l (i:Int) (W 0) (W 1) (W 2) (W 3) (W 4) (W 5) (W 6) (W 7) (F 0) (F 1) (F 2) (F 3) (F 4) (F 5) (F 6) (F 7))=some (W1 0,W1 1,W1 2,W1 3,W1 4,W1 5,W1 6,W1 7,F1 0,F1 1,F1 2,F1 3,F1 4,F1 5,F1 6,F1 7):=by
  intro n' m W F W1 F1 h
  induction h with
  | nil n' W F=>
    intro _ i hi hd;have h0:=congrArg List.length hd;rw[List.length_drop,List.length_nil]at h0;obtain rfl:i=l.length:=by omega
    rw[aA];simp only[aO.tree,Tr.af,Tr.ak,cO,Bool.false_eq_true,↓reduceIte]
  | @plain n' x m W F W' F' h4 hok h ih=>
    intro hn i hi hd;obtain⟨q,e,e2⟩:=drop_at (a:=[]) (show l.drop i=[]++x::m from hd);have q':i<l.length:=q;have e':l[i]=x:=e;rw[vC self_ l i q' (by rw[e'];exact hok) W F,e',aA];simp only[aO.tree,Tr.af,Tr.ai,decide_eq_false h4,Bool.false_eq_true,↓reduceIte,aH (show i<4611686018427387904 by omega)];exact ih hn (i+1) (by omega) e2
  | @ifs n' x a s r W F Wa Fa W' F' h4 hok h6 p1 p2 ha hr iha ihr=>
    intro hn i hi hd;obtain⟨q,e,e2⟩:=drop_at (a:=[]) (show l.drop i=[]++x::(a++s::r)from hd);obtain⟨g1,g2,g3⟩:=drop_at (show l.drop i=(x::a)++s::r from hd);simp only[List.length_cons]at g1 g3;have q':i<l.length:=q;have e':l[i]=x:=e;have hE:Ends l i (i+1+a.length):=⟨x,a,s,r,hd,Or.inl h4,h6,p1,p2,rfl⟩
    have hia:(l.take (i+1+a.length)).drop (i+1)=a:=by
     rw[List.drop_take,show i+1+a.length-(i+1)=a.length by omega];have:l.drop (i+1)=a++s::r:=e2;rw[this];simp
    have hn1:(0:Int)≤((i+1:Nat):Int)∧((i+1:Nat):Int)≤((i+1+a.length:Nat):Int)∧((i+1+a.length:Nat):Int)≤(l.length:Int):=by omega
    have et:=hs n' hn.symm a _ _ _ _ (by omega) ha;have we:wr (((i+1+a.length:Nat):Int)+1)=((i+1+a.length+1:Nat):Int):=aH (by omega);rw[vC self_ l i q' (by rw[e'];exact hok) W F,e',aA];simp only[aO.tree,Tr.af,Tr.ag,Tr.ai,decide_eq_true h4,↓reduceIte,dN.told,hE.z8 hl,ae];rw[aA];simp only[aO.tree,Tr.al,Tr.ag,Tr.ai,aH (show i<4611686018427387904 by omega),hn1,and_self,↓reduceIte,Int.toNat_natCast,Self.told,hia,et,ae,we];exact ihr hn (i+1+a.length+1) (by omega) (by rw[show i+1+a.length+1=i+(a.length+1)+1 by omega];exact g3)
 exact key n l W F W1 F1 hR rfl 0 (by omega) rfl
theorem qA (l:List aw) (W F W1 F1:Nat→Bool) (hl:l.length≤1048576) (h:jK 3 l W F W1 F1):aO.f l (W 0) (W 1) (W 2) (W 3) (W 4) (W 5) (W 6) (W 7) (F 0) (F 1) (F 2) (F 3) (F 4) (F 5) (F 6) (F 7)=some (W1 0,W1 1,W1 2,W1 3,W1 4,W1 5,W1 6,W1 7,F1 0,F1 1,F1 2,F1 3,F1 4,F1 5,F1 6,F1 7):=by
 have h0:=uy (Self.iter aO.step 4) 0 (fun n' h=>absurd h (by omega));have h1:=uy (Self.iter aO.step 5) 1 (fun n' h=>by cases h;exact h0);have h2:=uy (Self.iter aO.step 6) 2 (fun n' h=>by cases h;exact h1);have h3:=uy (Self.iter aO.step 7) 3 (fun n' h=>by cases h;exact h2);exact h3 l W F W1 F1 hl h
set_option maxHeartbeats 4000000 in
theorem oo (l:List aw) (a b c:Int) (hl:l.length≤1048576) (hb:okB l.length l 0=true) (hx:pM a b c=true) {W1 F1:Nat→Bool} (h:jK 3 l (fun _=>false) (fun _=>false) W1 F1):
 ∃r,cL.f l a b c=some r∧r.length≤8∧∀x,x∈r↔∃k:Nat,k<8∧note W1 F1 (nm a b c) k=true∧x=(k:Int):=by
 have e1:=qA l _ _ _ _ hl h;have e2:=lY a b c W1 F1;generalize note W1 F1 (nm a b c)=Y at e2
 obtain⟨r,e,hr⟩:=upto 8 (fun i (s:List Int)=>s.length≤i∧∀x,x∈s↔∃k:Nat,k<i∧Y k=true∧x=(k:Int)) (fun i s=>lp cL.tree (.c8 s (Y 0) (Y 1) (Y 2) (Y 3) (Y 4) (Y 5) (Y 6) (Y 7) (i:Int))) (fun r=>r.length≤8∧∀x,x∈r↔∃k:Nat,k<8∧Y k=true∧x=(k:Int)) (fun i hi s hs=>by
  obtain⟨hs,hm⟩:=hs;rw[aA]
  by_cases q:i<8
  ·have q1:decide ((i:Int)<8)=true:=decide_eq_true (by omega);have q2:(0:Int)≤(i:Int)∧(i:Int)<8:=by omega
   have hY:List.getD [Y 0,Y 1,Y 2,Y 3,Y 4,Y 5,Y 6,Y 7] i false=Y i:=by
    rcases(show i=0∨i=1∨i=2∨i=3∨i=4∨i=5∨i=6∨i=7 by omega)with rfl | rfl | rfl | rfl | rfl | rfl | rfl | rfl<;>rfl
   cases hb:Y i with
   | true=>
     rw[hb]at hY;refine Or.inr ⟨q,s++[(i:Int)],?_,by rw[List.length_append,List.length_singleton];omega,fun x=> ?_⟩
     ·simp only[cL.tree,Tr.af,Tr.al,Tr.ai,q1,q2,and_self,decide_true,Int.toNat_natCast,hY,dH s _ 1048576 (by omega) (by omega) 8 (by omega),↓reduceIte,aH (show i<4611686018427387904 by omega)]
     ·rw[iZ,hm];refine⟨fun h=>h.elim (fun⟨k,h1,h2⟩=>⟨k,by omega,h2⟩) fun h=>⟨i,by omega,hb,h.symm⟩,fun⟨k,h1,h2,h3⟩=> ?_⟩
      by_cases qk:k<i
      ·exact Or.inl ⟨k,qk,h2,h3⟩
      ·exact Or.inr (by omega)
   | false=>
     rw[hb]at hY;refine Or.inr ⟨q,s,?_,by omega,fun x=> ?_⟩
     ·simp only[cL.tree,Tr.af,Tr.al,Tr.ai,q1,q2,and_self,decide_true,Int.toNat_natCast,hY,Bool.false_eq_true,↓reduceIte,aH (show i<4611686018427387904 by omega)]
     ·rw[hm];refine⟨fun⟨k,h1,h2⟩=>⟨k,by omega,h2⟩,fun⟨k,h1,h2,h3⟩=> ?_⟩
      by_cases qk:k<i
      ·exact⟨k,qk,h2,h3⟩
      ·obtain rfl:k=i:=by omega
       rw[hb]at h2;cases h2
  ·obtain rfl:i=8:=by omega
   refine Or.inl ⟨s,?_,by omega,hm⟩;simp only[cL.tree,Tr.af,Tr.ak,show decide (((8:Nat):Int)<8)=false from rfl,Bool.false_eq_true,↓reduceIte]) 0 (by omega) [] ⟨by simp,fun x=>⟨fun h=>by simp at h,fun⟨k,h,_⟩=>absurd h (by omega)⟩⟩
 refine⟨r,?_,hr⟩;simp only[cL.f,cL.begin,Tr.ag,Tr.af,Tr.ak,Tr.ai,cX.told,cX.f,cX.begin,bQ.told,jw l hl,cH.told,iD,hx,ae,hb,Bool.not_true,Bool.false_eq_true,↓reduceIte,aO.told,e1,cA.told,e2];exact e
def mu (a b:List Int) (x:Int):Bool:=decide (x∈a) || !decide (x∈b)
theorem na (x:Int) (a b:List Int) (ha:a.length≤1048576) (hb:b.length≤1048576):fl.f x a b=some (!mu a b x,a,b):=by
 simp only[fl.f,fl.begin,Tr.ag,Tr.af,Tr.ak,gA.told,mC a x ha,mC b x hb,ae,mu];cases decide (x∈a)<;>cases decide (x∈b)<;>rfl
theorem lS (l a b:List Int) (hl:l.length≤1048576) (ha:a.length≤1048576) (hb:b.length≤1048576):∃j,bo.f l a b=some (j,a,b)∧((j= -1∧l.filter (mu a b)=l)∨∃n:Nat,j=(n:Int)∧n<l.length∧(l.take (n+1)).filter (mu a b)=l.take n):=by
 have key:=upto l.length (fun i (_:Unit)=>(l.take i).filter (mu a b)=l.take i) (fun i _=>lp bo.tree (.c2 l (l.length:Int) (i:Int) a b)) (fun r=>∃j,r=(j,a,b)∧((j= -1∧l.filter (mu a b)=l)∨∃n:Nat,j=(n:Int)∧n<l.length∧(l.take (n+1)).filter (mu a b)=l.take n)) (fun i hi s hs=>by
  rw[aA]
  by_cases q:i<l.length
  ·have ev:=na (cT l (i:Int)) a b ha hb;have hr:cT l (i:Int)=l[i]:=aP q;rw[hr]at ev;cases hk:mu a b l[i]with
   | false=>
     rw[hk]at ev;refine Or.inl ⟨((i:Int),a,b),?_,_,rfl,Or.inr ⟨i,rfl,q,?_⟩⟩
     ·simp only[bo.tree,Tr.af,Tr.al,Tr.ag,Tr.ak,aX q,bJ q,hr,and_self,decide_true,↓reduceIte,fl.told,ev,ae,Bool.not_false]
     ·rw[List.take_add_one,List.getElem?_eq_getElem q,List.filter_append,hs];simp[hk]
   | true=>
     rw[hk]at ev;refine Or.inr ⟨q,(),?_,?_⟩
     ·simp only[bo.tree,Tr.af,Tr.al,Tr.ag,Tr.ai,aX q,bJ q,hr,and_self,decide_true,↓reduceIte,fl.told,ev,ae,Bool.not_true,Bool.false_eq_true,aH (show i<4611686018427387904 by omega)]
     ·rw[List.take_add_one,List.getElem?_eq_getElem q,List.filter_append,hs];simp[hk]
  ·obtain rfl:i=l.length:=by omega
   rw[List.take_length]at hs;refine Or.inl ⟨(-1,a,b),?_,_,rfl,Or.inl ⟨rfl,hs⟩⟩;simp only[bo.tree,Tr.af,Tr.ak,cO,Bool.false_eq_true,↓reduceIte]) 0 (by omega) () (by simp)
 obtain⟨r,e,j,rfl,h⟩:=key;exact⟨j,e,h⟩
theorem ly (l a b:List Int) (hl:l.length≤1048576) (ha:a.length≤1048576) (hb:b.length≤1048576):∃r,aM.f l a b=some r∧r.1=l.filter (mu a b):=by
 obtain⟨j,ej,hj⟩:=lS l a b hl ha hb;rcases hj with⟨rfl,h⟩ | ⟨n,rfl,hn,hf⟩
 ·simp only[aM.f,aM.begin,Tr.ag,Tr.af,Tr.ak,bo.told,ej,ae,decide_true,↓reduceIte];exact⟨_,rfl,h.symm⟩
 ·have key:=upto l.length (fun i (s:List Int×Nat)=>s.1.length=l.length∧s.2<i∧s.1.take s.2=(l.take i).filter (mu a b)∧s.1.drop i=l.drop i) (fun i s=>lp aM.tree (.c5 s.1 (s.2:Int) (i:Int) a b)) (fun r=>r.1=l.filter (mu a b)) (fun i hi s hs=>by
   obtain⟨s1,s2⟩:=s;obtain⟨hs1,hs2,hs3,hs4⟩:=hs;simp only at hs1 hs2 hs3 hs4;rw[aA]
   by_cases q:i<l.length
   ·have q1:i<s1.length:=by omega
    have q2:s2<s1.length:=by omega
    have hel:s1[i]=l[i]:=by
     have:=congrArg (fun z=>z[0]?) hs4;simp only[List.getElem?_drop,Nat.add_zero,List.getElem?_eq_getElem q1,List.getElem?_eq_getElem q]at this;exact Option.some.inj this
    have hr:cT s1 (i:Int)=l[i]:=(aP q1).trans hel;have ev:=na l[i] a b ha hb;cases hk:mu a b l[i]with
    | true=>
      rw[hk]at ev;refine Or.inr ⟨q,(s1.set s2 l[i],s2+1),?_,by rw[List.length_set];exact hs1,by show s2+1<i+1;omega,?_,?_⟩
      ·simp only[aM.tree,Tr.af,Tr.al,Tr.ag,Tr.ai,aX q1,bJ q1,bJ q2,hr,and_self,decide_true,↓reduceIte,fl.told,ev,ae,Bool.not_true,Bool.not_false,Int.toNat_natCast,aH (show i<4611686018427387904 by omega),aH (show s2<4611686018427387904 by omega)]
      ·show(s1.set s2 l[i]).take (s2+1)=_;rw[List.take_add_one,List.take_set_of_le (Nat.le_refl s2),hs3,List.getElem?_set_self q2,List.take_add_one,List.getElem?_eq_getElem q,List.filter_append];simp[hk]
      ·show(s1.set s2 l[i]).drop (i+1)=_;rw[List.drop_set_of_lt (by omega),←List.drop_drop,hs4,List.drop_drop]
    | false=>
      rw[hk]at ev;refine Or.inr ⟨q,(s1,s2),?_,hs1,by show s2<i+1;omega,?_,?_⟩
      ·simp only[aM.tree,Tr.af,Tr.al,Tr.ag,Tr.ai,aX q1,bJ q1,hr,and_self,decide_true,↓reduceIte,fl.told,ev,ae,Bool.not_false,Bool.not_true,Bool.false_eq_true,aH (show i<4611686018427387904 by omega)]
      ·show s1.take s2=_;rw[hs3,List.take_add_one,List.getElem?_eq_getElem q,List.filter_append];simp[hk]
      ·show s1.drop (i+1)=_;rw[←List.drop_drop,hs4,List.drop_drop]
   ·obtain rfl:i=s1.length:=by omega
    have q2:s2<s1.length:=hs2;have hlen:(List.take s2 s1++List.replicate (List.length s1-s2) (0:Int)).length=s1.length:=by rw[List.length_append,List.length_take,List.length_replicate];omega
    have n1:(0:Int)≤0∧(0:Int)≤(s2:Int)∧(s2:Int)≤(s1.length:Int):=by omega
    refine Or.inl ⟨(List.take s2 (List.take s2 s1++List.replicate (List.length s1-s2) (0:Int)),a,b),?_,?_⟩
    ·simp only[aM.tree,Tr.af,Tr.al,Tr.fZ,Tr.ak,cO,Bool.false_eq_true,↓reduceIte,bJ q2,and_self,Int.toNat_natCast,hlen,n1]
    ·show List.take s2 _=_;rw[List.take_left' (by rw[List.length_take];omega),hs3,hs1,List.take_length]) (n+1) (by omega) (l,n) ⟨rfl,by show n<n+1;omega,hf.symm,rfl⟩
  obtain⟨r,e,h⟩:=key;have hn1:decide ((n:Int)= -1)=false:=decide_eq_false (by omega);have w:wr ((n:Int)+1)=((n+1:Nat):Int):=aH (by omega);refine⟨r,?_,h⟩;simp only[aM.f,aM.begin,Tr.ag,Tr.af,Tr.ai,bo.told,ej,ae,hn1,Bool.false_eq_true,↓reduceIte,w];exact e
def DH (l:List aw) (Y:Nat→Bool) (x:Int):Prop:=Wr l (fun _=>True) l.length x∧((∃k:Nat,k<8∧Y k=true∧x=(k:Int))∨¬Wr l (fun j=>¬Az l j) l.length x)
theorem sx (l:List aw) (a b c:Int) (hl:l.length≤1048576) (hb:okB l.length l 0=true) (hx:pM a b c=true) {W1 F1:Nat→Bool} (h:jK 3 l (fun _=>false) (fun _=>false) W1 F1):∃r,gn.f l a b c=some r∧r.length≤l.length+8∧∀x,x∈r↔DH l (note W1 F1 (nm a b c)) x:=by
 obtain⟨r1,e1,h1,m1⟩:=oo l a b c hl hb hx h;obtain⟨r2,e2,h2,m2⟩:=qw l hl hb;obtain⟨r3,e3,h3,m3⟩:=rX l hl hb;obtain⟨r4,e4,h4⟩:=ly r3 r1 r2 (by omega) (by omega) (by omega)
 have key:lp gn.tree (.c4 l a b c r1 r2)=some r4.1:=by
  rw[aA];simp only[gn.tree,Tr.ag,Tr.ak,iB.told,e3,aM.told,e4,ae]
 refine⟨r4.1,?_,by rw[h4];have:=List.length_filter_le (mu r1 r2) r3;omega,fun x=> ?_⟩
 ·simp only[gn.f,gn.begin,Tr.ag,Tr.af,Tr.fe,Tr.aZ,Tr.ai,cX.told,cX.f,cX.begin,Tr.ak,bQ.told,jw l hl,cH.told,iD,hb,hx,ae,Bool.not_true,Bool.false_eq_true,↓reduceIte,cL.told,e1,bY.told,e2,cr,key]
 ·rw[h4,List.mem_filter,m3];unfold mu DH;rw[Bool.or_eq_true,decide_eq_true_eq,m1,Bool.not_eq_true',decide_eq_false_iff_not,m2]
theorem kQ (l:List Int) (k:Int) (hl:l.length≤1048576):cm.f l k=some (decide (k∈l)):=by
 simp only[cm.f,cm.begin,Tr.ai]
 have key:∀(n i:Nat),i+n=l.length→lp cm.tree (.c2 l k (i:Int))=some (decide (k∈l.drop i)):=by
  intro n
  induction n with
  | zero=>
    intro i hi;obtain rfl:i=l.length:=by omega
    rw[aA,List.drop_length];simp only[cm.tree,Tr.af,Tr.ak,cO,Bool.false_eq_true,↓reduceIte];simp
  | succ n ih=>
    intro i hi;have q:i<l.length:=by omega
    rw[aA,List.drop_eq_getElem_cons q];simp only[cm.tree,Tr.af,Tr.al,Tr.ak,Tr.ai,aX q,bJ q,aP q,and_self,↓reduceIte,aH (show i<4611686018427387904 by omega),ih (i+1) (by omega),decide_eq_true_eq]
    by_cases e:l[i]=k
    ·rw[if_pos e];simp[e]
    ·rw[if_neg e];congr 1;rw[Bool.eq_iff_iff,decide_eq_true_eq,decide_eq_true_eq,List.mem_cons];exact⟨Or.inr,fun h=>h.elim (fun h=>absurd h.symm e) id⟩
 exact key l.length 0 (by omega)
theorem ug (a b c d e f:Int):dQ.f a b c d e f=some (decide (a=4∨a=5)):=by
 simp only[dQ.f,dQ.begin,Tr.af,Tr.ak]
 by_cases h4:a=4
 ·simp[h4]
 ·simp[h4]
theorem mE (l:List aw) (i:Nat) (d:Int) (hi:i<l.length) (hl:l.length≤1048576) (h0:0≤d) (h1:d≤30):
 lp ca.tree (.c3 l d (i:Int))=if l[i].f0=6∧dep l[i].f0 d=0 then some (i:Int)else lp ca.tree (.c3 l (dep l[i].f0 d) ((i+1:Nat):Int)):=by
 rw[aA];obtain⟨w1,w2,w3⟩:=Bk (x:=0) h0 h1;have w7:wr ((i:Int)+1)=((i+1:Nat):Int):=aH (by omega);simp only[ca.tree,Tr.af,Tr.ag,Tr.al,Tr.ak,Tr.ai,dQ.told,ug,ae,aX hi,bJ hi,aP hi,and_self,↓reduceIte,w1,w2,w3,w7,decide_eq_true_eq];unfold dep
 by_cases h4:l[i].f0=4∨l[i].f0=5
 ·have h6:¬l[i].f0=6:=by omega
  simp only[h4,h6,↓reduceIte,false_and]
 ·by_cases h6:l[i].f0=6
  ·simp only[h6,show¬((6:Int)=4∨(6:Int)=5) by omega,↓reduceIte,true_and]
  ·simp only[h4,h6,↓reduceIte,false_and]
theorem vU (l:List aw) (hl:l.length≤1048576) (k:Int) (hk:k≤30):∀(a:List aw) (d:Int) (j:Nat) (s:aw) (r:List aw),l.drop j=a++s::r→s.f0=6→1≤d→d≤k→inr 1 k a d=true→fin a d=1→
 lp ca.tree (.c3 l d (j:Int))=some ((j+a.length:Nat):Int)
 | [],d,j,s,r,hd,h6,h1,hk',_,hf=>by
   obtain⟨h',e,_⟩:=drop_at (a:=[]) hd;have hd1:d=1:=hf;rw[mE l j d h' hl (by omega) (by omega)];rw[show l[j]=s from e,h6,hd1];rfl
 | x::a,d,j,s,r,hd,h6,h1,hk',hp,hf=>by
   obtain⟨h',e,e2⟩:=drop_at (a:=[]) (show l.drop j=[]++x::(a++s::r)from hd);rw[mE l j d h' hl (by omega) (by omega)];rw[show l[j]=x from e];unfold inr at hp;rw[Bool.and_eq_true,Bool.and_eq_true,ba]at hp;rw[if_neg (by omega),vU l hl k hk a (dep x.f0 d) (j+1) s r e2 h6 hp.2.1.1 hp.2.1.2 hp.2.2 hf,List.length_cons];congr 2;omega
theorem Ends.xU {l:List aw} {i e:Nat} (h:Ends l i e) (hl:l.length≤1048576):ca.f l (i:Int)=some (e:Int):=by
 obtain⟨x,a,s,r,hd,hx,h6,hp,hf,rfl⟩:=h;simp only[ca.f,ca.begin,Tr.ai];obtain⟨h',e,e2⟩:=drop_at (a:=[]) (show l.drop i=[]++x::(a++s::r)from hd);rw[mE l i 0 h' hl (by omega) (by omega),show l[i]=x from e];have hdep:dep x.f0 0=1:=by unfold dep;rw[if_pos hx];rfl
 rw[hdep,if_neg (by omega)];exact vU l hl 30 (by omega) a 1 (i+1) s r e2 h6 (by omega) (by omega) hp hf
def L8 (F:Nat→Bool):List Bool:=[F 0,F 1,F 2,F 3,F 4,F 5,F 6,F 7]
theorem mP (F:Nat→Bool):(L8 F).length=8:=rfl
theorem AS (F:Nat→Bool) (k:Nat) (h:k<8):(L8 F)[k]? =some (F k):=by
 rcases(show k=0∨k=1∨k=2∨k=3∨k=4∨k=5∨k=6∨k=7 by omega)with rfl | rfl | rfl | rfl | rfl | rfl | rfl | rfl<;>rfl
theorem CA (F:Nat→Bool) (x:Int) (h:0≤x∧x≤7):D2 (L8 F) x=F x.toNat:=by
 show(L8 F).getD x.toNat false=_;rw[List.getD_eq_getElem?_getD,AS F x.toNat (by omega)];rfl
theorem rO {F G:Nat→Bool} (h:∀k,k<8→F k=G k):L8 F=L8 G:=by
 unfold L8;rw[h 0 (by omega),h 1 (by omega),h 2 (by omega),h 3 (by omega),h 4 (by omega),h 5 (by omega),h 6 (by omega),h 7 (by omega)]
theorem u4 (F:Nat→Bool) (x:Int) (h:0≤x∧x≤7):(L8 F).set x.toNat true=L8 (nQ F x):=by
 refine List.ext_getElem? (fun k=> ?_);rw[List.getElem?_set,mP]
 by_cases q:k<8
 ·rw[AS _ k q,AS _ k q]
  by_cases e:x.toNat=k
  ·rw[if_pos e,if_pos (by omega),Dl F x k (by omega)]
  ·rw[if_neg e,C8 F x k (by omega)]
 ·rw[if_neg (by omega),List.getElem?_eq_none (by rw[mP];omega),List.getElem?_eq_none (by rw[mP];omega)]
theorem xL:List.replicate (Int.toNat 8) false=L8 (fun _=>false):=rfl
theorem lV (F:Nat→Bool):∃r,bP.f (L8 F)=some r∧r.length≤8∧∀x,x∈r↔∃k:Nat,k<8∧F k=true∧x=(k:Int):=by
 simp only[bP.f,bP.begin,Tr.ai]
 exact upto 8 (fun i (s:List Int)=>s.length≤i∧∀x,x∈s↔∃k:Nat,k<i∧F k=true∧x=(k:Int)) (fun i s=>lp bP.tree (.c3 (L8 F) s (i:Int))) (fun r=>r.length≤8∧∀x,x∈r↔∃k:Nat,k<8∧F k=true∧x=(k:Int)) (fun i hi s hs=>by
  obtain⟨hs,hm⟩:=hs;rw[aA];have hl8:((L8 F).length:Int)=8:=rfl
  by_cases q:i<8
  ·have q1:decide ((i:Int)<8)=true:=decide_eq_true (by omega);have q2:(0:Int)≤(i:Int)∧(i:Int)<8:=by omega
   have hY:D2 (L8 F) (i:Int)=F i:=by rw[CA F _ (by omega),Int.toNat_natCast]
   cases hb:F i with
   | true=>
     rw[hb]at hY;refine Or.inr ⟨q,s++[(i:Int)],?_,by rw[List.length_append,List.length_singleton];omega,fun x=> ?_⟩
     ·simp only[bP.tree,Tr.af,Tr.al,Tr.ai,hl8,q1,q2,and_self,decide_true,hY,dH s _ 1048576 (by omega) (by omega) 8 (by omega),↓reduceIte,aH (show i<4611686018427387904 by omega)]
     ·rw[iZ,hm];refine⟨fun h=>h.elim (fun⟨k,h1,h2⟩=>⟨k,by omega,h2⟩) fun h=>⟨i,by omega,hb,h.symm⟩,fun⟨k,h1,h2,h3⟩=> ?_⟩
      by_cases qk:k<i
      ·exact Or.inl ⟨k,qk,h2,h3⟩
      ·exact Or.inr (by omega)
   | false=>
     rw[hb]at hY;refine Or.inr ⟨q,s,?_,by omega,fun x=> ?_⟩
     ·simp only[bP.tree,Tr.af,Tr.al,Tr.ai,hl8,q1,q2,and_self,decide_true,hY,Bool.false_eq_true,↓reduceIte,aH (show i<4611686018427387904 by omega)]
     ·rw[hm];refine⟨fun⟨k,h1,h2⟩=>⟨k,by omega,h2⟩,fun⟨k,h1,h2,h3⟩=> ?_⟩
      by_cases qk:k<i
      ·exact⟨k,qk,h2,h3⟩
      ·obtain rfl:k=i:=by omega
       rw[hb]at h2;cases h2
  ·obtain rfl:i=8:=by omega
   refine Or.inl ⟨s,?_,by omega,hm⟩;simp only[bP.tree,Tr.af,Tr.ak,hl8,show decide (((8:Nat):Int)<8)=false from rfl,Bool.false_eq_true,↓reduceIte]) 0 (by omega) [] ⟨by simp,fun x=>⟨fun h=>by simp at h,fun⟨k,h,_⟩=>absurd h (by omega)⟩⟩
theorem jy (a b c d e f:Int):cw.f a b c d e f=some (decide (a=1∨a=2)):=by
 simp only[cw.f,cw.begin,Tr.af,Tr.ak]
 by_cases h4:a=1
 ·simp[h4]
 ·simp[h4]
theorem lj.var {k:Int} {l:List aw} {i:Nat} (h:lj k l i) (hi:i<l.length) (hv:l[i].f0=1∨l[i].f0=2):0≤l[i].f1∧l[i].f1≤7:=qZ (h.next hi).1 hv
theorem yI (F:Nat→Bool) (x:Int) (k:Nat):nQ F x k=true↔F k=true∨x=(k:Int):=by unfold nQ;rw[Bool.or_eq_true,decide_eq_true_eq]
theorem D0 {l:List aw} {g:Nat→Prop} {x:Int} {k:Int} (hF:lj k l 0) {i:Nat} (hi:i≤l.length) (h:Wr l g i x):0≤x∧x≤7:=by
 obtain⟨j,y,h1,h2,h3,h4,rfl⟩:=h;have hj:j<l.length:=by omega
 rw[List.getElem?_eq_getElem hj]at h2;cases h2;exact(hF.at j (by omega)).var hj h4
theorem Cc {l:List aw} {g:Nat→Prop} {k:Int} (hF:lj k l 0) {F:Nat→Bool} (h:∀k:Nat,k<8→(F k=true↔Wr l g l.length (k:Int))) (x:Int):(∃k:Nat,k<8∧F k=true∧x=(k:Int))↔Wr l g l.length x:=by
 refine⟨fun⟨k,h1,h2,h3⟩=> ?_,fun hw=> ?_⟩
 ·rw[h3];exact(h k h1).mp h2
 ·have:=D0 hF (Nat.le_refl _) hw;refine⟨x.toNat,by omega,(h x.toNat (by omega)).mpr ?_,by omega⟩;rw[show((x.toNat:Nat):Int)=x by omega];exact hw
theorem rh (l:List aw) (hl:l.length≤1048576) (hb:okB l.length l 0=true):∃r,cN.f l=some r∧r.length≤8∧∀x,x∈r↔Wr l (fun _=>True) l.length x:=by
 obtain⟨b1,b2,b3⟩:=kg _ _ _ hb;have hF0:lj 3 l 0:=⟨0,by omega,b1,b2⟩;have eb:=ko l hl;rw[hb]at eb
 have key:=upto l.length (fun i (F:Nat→Bool)=>∀k:Nat,k<8→(F k=true↔Wr l (fun _=>True) i (k:Int))) (fun i F=>lp cN.tree (.c3 l (L8 F) (i:Int))) (fun r=>r.length≤8∧∀x,x∈r↔Wr l (fun _=>True) l.length x) (fun i hi F hM=>by
  rw[aA]
  by_cases q:i<l.length
  ·by_cases hv:l[i].f0=1∨l[i].f0=2
   ·have hx:=(hF0.at i (by omega)).var q hv;have n1:(0:Int)≤l[i].f1∧l[i].f1<((L8 F).length:Int):=by rw[mP];omega
    refine Or.inr ⟨q,nQ F l[i].f1,?_,fun k hk=> ?_⟩
    ·simp only[cN.tree,Tr.af,Tr.al,Tr.ag,Tr.ai,aX q,bJ q,aP q,and_self,↓reduceIte,bm.told,eb,cw.told,jy,ae,hv,decide_true,n1,u4 F l[i].f1 hx,aH (show i<4611686018427387904 by omega)]
    ·rw[yI,hM k hk,lG q];exact⟨fun h=>h.imp id fun h=>⟨trivial,hv,h⟩,fun h=>h.imp id fun h=>h.2.2⟩
   ·refine Or.inr ⟨q,F,?_,fun k hk=> ?_⟩
    ·simp only[cN.tree,Tr.af,Tr.al,Tr.ag,Tr.ai,aX q,bJ q,aP q,and_self,↓reduceIte,bm.told,eb,cw.told,jy,ae,hv,decide_false,decide_true,Bool.false_eq_true,aH (show i<4611686018427387904 by omega)]
    ·rw[hM k hk,lG q];exact⟨Or.inl,fun h=>h.elim id fun h=>absurd h.2.1 hv⟩
  ·obtain rfl:i=l.length:=by omega
   obtain⟨r,er,hr,hm⟩:=lV F;refine Or.inl ⟨r,?_,hr,fun x=>by rw[hm];exact Cc hF0 hM x⟩;simp only[cN.tree,Tr.af,Tr.ag,Tr.ak,cO,Bool.false_eq_true,↓reduceIte,bP.told,er,ae]) 0 (by omega) (fun _=>false) (fun k _=>⟨fun h=>(by cases h),fun h=>absurd h uz⟩)
 obtain⟨r,e,h⟩:=key;refine⟨r,?_,h⟩;have n0:(0:Int)≤8∧(8:Int)≤8∧(8:Int)*(1:Nat)≤room:=⟨by omega,by omega,by unfold room;omega⟩;simp only[cN.f,cN.begin,Tr.al,Tr.ai,n0,and_self,↓reduceIte,xL];exact e
theorem qy (l:List aw) (hl:l.length≤1048576) (hb:okB l.length l 0=true):∃r,cd.f l=some r∧r.length≤8∧∀x,x∈r↔Wr l (fun j=>¬Az l j) l.length x:=by
 obtain⟨b1,b2,b3⟩:=kg _ _ _ hb;have hF0:lj 3 l 0:=⟨0,by omega,b1,b2⟩;have eb:=ko l hl;rw[hb]at eb
 have key:∀(n i:Nat) (F:Nat→Bool),i+n=l.length→(∀k:Nat,k<8→(F k=true↔Wr l (fun j=>¬Az l j) i (k:Int)))→(∀i' e,i'<i→Aq l i' e→e<i)→∃r,lp cd.tree (.c3 l (L8 F) (i:Int))=some r∧r.length≤8∧∀x,x∈r↔Wr l (fun j=>¬Az l j) l.length x:=by
  intro n
  induction n using Nat.strongRecOn with
  | _ n ih=>
    intro i F hi hM hA;rw[aA]
    by_cases q:i<l.length
    ·have hF:=hF0.at i (by omega)
     by_cases h4:l[i].f0=4
     ·obtain⟨a,s,r,e1,e6,_,hbal,p1,p2,p3,_,_,_⟩:=hF.A1 q (by omega) (Or.inl h4);have hE:Ends l i (i+1+a.length):=⟨l[i],a,s,r,e1,Or.inl h4,e6,p1,p2,rfl⟩;have hI:Aq l i (i+1+a.length):=⟨⟨l[i],List.getElem?_eq_getElem q,h4⟩,hE⟩
      obtain⟨rr,er,hr⟩:=ih (l.length-(i+1+a.length+1)) (by omega) (i+1+a.length+1) F (by omega) (fun k hk=>by
       rw[hM k hk];refine⟨fun⟨j,y,h1,h2⟩=>⟨j,y,by omega,h2⟩,fun⟨j,y,h1,h2,h3,h5⟩=>⟨j,y,?_,h2,h3,h5⟩⟩
       by_cases qj:j<i
       ·exact qj
       ·exact(h3 ⟨i,_,hI,by omega,by omega⟩).elim) (fun i' e' h1 h2=>by
       by_cases qi:i'<i
       ·have:=hA i' e' qi h2;omega
       ·by_cases qe:i'=i
        ·subst qe;have:=h2.2.inj hl hE;omega
        ·have:=nested hl e1 e6 hbal (by omega) (show i<i' by omega) (by omega) h2;omega)
      refine⟨rr,?_,hr⟩;simp only[cd.tree,Tr.af,Tr.al,Tr.ag,Tr.ai,aX q,bJ q,aP q,and_self,↓reduceIte,bm.told,eb,ae,decide_eq_true h4,ca.told,hE.xU hl,aH (show i+1+a.length<4611686018427387904 by omega)];exact er
     ·have hnot:¬Az l i:=fun⟨i',e,h1,h2,h3⟩=>by
       by_cases qi:i'<i
       ·have:=hA i' e qi h1;omega
       ·obtain rfl:i'=i:=by omega
        obtain⟨⟨y,hy,hy4⟩,_⟩:=h1;rw[List.getElem?_eq_getElem q]at hy;cases hy;exact h4 hy4
      have hA':∀i' e,i'<i+1→Aq l i' e→e<i+1:=fun i' e h1 h2=>by
       by_cases qi:i'<i
       ·have:=hA i' e qi h2;omega
       ·obtain rfl:i'=i:=by omega
        obtain⟨⟨y,hy,hy4⟩,_⟩:=h2;rw[List.getElem?_eq_getElem q]at hy;cases hy;exact absurd hy4 h4
      by_cases hv:l[i].f0=1∨l[i].f0=2
      ·have hx:=hF.var q hv;have n1:(0:Int)≤l[i].f1∧l[i].f1<((L8 F).length:Int):=by rw[mP];omega
       obtain⟨rr,er,hr⟩:=ih (l.length-(i+1)) (by omega) (i+1) (nQ F l[i].f1) (by omega) (fun k hk=>by
        rw[yI,hM k hk,lG q];exact⟨fun h=>h.imp id fun h=>⟨hnot,hv,h⟩,fun h=>h.imp id fun h=>h.2.2⟩) hA'
       refine⟨rr,?_,hr⟩;simp only[cd.tree,Tr.af,Tr.al,Tr.ag,Tr.ai,aX q,bJ q,aP q,and_self,↓reduceIte,bm.told,eb,ae,decide_eq_false h4,Bool.false_eq_true,cw.told,jy,hv,decide_true,n1,u4 F l[i].f1 hx,aH (show i<4611686018427387904 by omega)];exact er
      ·obtain⟨rr,er,hr⟩:=ih (l.length-(i+1)) (by omega) (i+1) F (by omega) (fun k hk=>by
        rw[hM k hk,lG q];exact⟨Or.inl,fun h=>h.elim id fun h=>absurd h.2.1 hv⟩) hA'
       refine⟨rr,?_,hr⟩;simp only[cd.tree,Tr.af,Tr.al,Tr.ag,Tr.ai,aX q,bJ q,aP q,and_self,↓reduceIte,bm.told,eb,ae,decide_eq_false h4,Bool.false_eq_true,cw.told,jy,hv,decide_false,aH (show i<4611686018427387904 by omega)];exact er
    ·obtain rfl:i=l.length:=by omega
     obtain⟨r,er,hr,hm⟩:=lV F;refine⟨r,?_,hr,fun x=>by rw[hm];exact Cc hF0 hM x⟩;simp only[cd.tree,Tr.af,Tr.ag,Tr.ak,cO,Bool.false_eq_true,↓reduceIte,bP.told,er,ae]
 obtain⟨r,e,h⟩:=key l.length 0 (fun _=>false) (by omega) (fun k _=>⟨fun h=>(by cases h),fun h=>absurd h uz⟩) (fun i' e h=>absurd h (by omega));refine⟨r,?_,h⟩;have n0:(0:Int)≤8∧(8:Int)≤8∧(8:Int)*(1:Nat)≤room:=⟨by omega,by omega,by unfold room;omega⟩;simp only[cd.f,cd.begin,Tr.al,Tr.ai,n0,and_self,↓reduceIte,xL];exact e
theorem sL (o a b:Int):∃r,cJ.f o a b=some r∧r.length≤8∧(∀x∈r,0≤x∧x≤7)∧∀k:Nat,(k:Int)∈r↔nm o a b k=true:=by
 simp only[cJ.f,cJ.begin,Tr.ai];cases hx:pM o a b with
 | false=>
   refine⟨[],?_,by simp,by simp,fun k=>by unfold nm;rw[hx];simp⟩;rw[aA];simp only[cJ.tree,Tr.af,Tr.ag,Tr.ak,cb.told,gO,hx,ae,Bool.false_eq_true,show decide ((0:Int)<8)=true from rfl,↓reduceIte]
 | true=>
   obtain⟨_,ha,hb⟩:=vF hx
   exact upto 8 (fun i (s:List Int)=>s.length≤i∧(∀x∈s,0≤x∧x≤7)∧∀k:Nat,(k:Int)∈s↔k<i∧nm o a b k=true) (fun i s=>lp cJ.tree (.c3 o a b s (i:Int))) (fun r=>r.length≤8∧(∀x∈r,0≤x∧x≤7)∧∀k:Nat,(k:Int)∈r↔nm o a b k=true) (fun i hi s hs=>by
    obtain⟨hl,hv,hm⟩:=hs
    have hr:nm o a b i=true↔a= -1-(i:Int)∨b= -1-(i:Int):=by
     unfold nm;rw[hx,Bool.true_and,Bool.or_eq_true,decide_eq_true_eq,decide_eq_true_eq]
    have w:wr (-1-(i:Int))= -1-(i:Int):=bZ (by omega);rw[aA]
    by_cases q:i<8
    ·have q1:decide ((i:Int)<8)=true:=decide_eq_true (by omega)
     have step:∀k:Nat,k<i+1∧nm o a b k=true↔(k<i∧nm o a b k=true)∨(k=i∧nm o a b i=true):=fun k=>
      ⟨fun⟨h1,h2⟩=>by
       by_cases qk:k<i
       ·exact Or.inl ⟨qk,h2⟩
       ·obtain rfl:k=i:=by omega
        exact Or.inr ⟨rfl,h2⟩,fun h=>h.elim (fun h=>⟨by omega,h.2⟩) fun h=>⟨by omega,by rw[h.1];exact h.2⟩⟩
     have yes:nm o a b i=true→(s++[(i:Int)]).length≤i+1∧(∀x∈s++[(i:Int)],0≤x∧x≤7)∧∀k:Nat,(k:Int)∈s++[(i:Int)]↔k<i+1∧nm o a b k=true:=fun h=>
      ⟨by rw[List.length_append,List.length_singleton];omega,fun x hx=>by
       rcases List.mem_append.mp hx with hx | hx
       ·exact hv x hx
       ·rw[List.mem_singleton]at hx;omega,fun k=>by
       rw[iZ,hm,step];exact⟨fun h'=>h'.imp id fun h'=>⟨by omega,h⟩,fun h'=>h'.imp id fun h'=>by omega⟩⟩
     have fit:=dH s (i:Int) 1048576 (by omega) (by omega) 8 (by omega)
     by_cases h1:a= -1-(i:Int)
     ·refine Or.inr ⟨q,s++[(i:Int)],?_,yes (hr.mpr (Or.inl h1))⟩;simp only[cJ.tree,Tr.af,Tr.al,Tr.ag,Tr.ai,q1,cb.told,gO,hx,ae,w,decide_eq_true h1,fit,↓reduceIte,aH (show i<4611686018427387904 by omega)]
     ·by_cases h2:b= -1-(i:Int)
      ·refine Or.inr ⟨q,s++[(i:Int)],?_,yes (hr.mpr (Or.inr h2))⟩;simp only[cJ.tree,Tr.af,Tr.al,Tr.ag,Tr.ai,q1,cb.told,gO,hx,ae,w,decide_eq_false h1,decide_eq_true h2,Bool.false_eq_true,fit,↓reduceIte,aH (show i<4611686018427387904 by omega)]
      ·refine Or.inr ⟨q,s,?_,by omega,hv,fun k=> ?_⟩
       ·simp only[cJ.tree,Tr.af,Tr.al,Tr.ag,Tr.ai,q1,cb.told,gO,hx,ae,w,decide_eq_false h1,decide_eq_false h2,Bool.false_eq_true,↓reduceIte,aH (show i<4611686018427387904 by omega)]
       ·rw[hm,step];exact⟨Or.inl,fun h=>h.elim id fun h=>absurd (hr.mp h.2) (by omega)⟩
    ·obtain rfl:i=8:=by omega
     refine Or.inl ⟨s,?_,by omega,hv,fun k=> ?_⟩
     ·simp only[cJ.tree,Tr.af,Tr.ak,show decide (((8:Nat):Int)<8)=false from rfl,Bool.false_eq_true,↓reduceIte]
     ·rw[hm];refine⟨fun h=>h.2,fun h=>⟨?_,h⟩⟩;unfold nm at h;rw[hx,Bool.true_and,Bool.or_eq_true,decide_eq_true_eq,decide_eq_true_eq]at h;omega) 0 (by omega) [] ⟨by simp,by simp,fun k=>⟨fun h=>by simp at h,fun h=>absurd h.1 (by omega)⟩⟩
theorem ku (o a b:Int) (W F:Nat→Bool):b6.f o a b (L8 F) (L8 W)=some (L8 (note W F (nm o a b)),L8 W):=by
 obtain⟨l,e,hl,hv,hm⟩:=sL o a b;simp only[b6.f,b6.begin,Tr.ag,Tr.ai,cJ.told,e,ae];obtain⟨G,hG⟩:∃G:Nat→Nat→Bool,∀i k,G i k=note W F (fun k=>decide ((k:Int)∈l.take i)) k:=⟨_,fun _ _=>rfl⟩
 have key:∀(n i:Nat),i+n=l.length→lp b6.tree (.c3 l (i:Int) (L8 (G i)) (L8 W))=some (L8 (G l.length),L8 W):=by
  intro n
  induction n with
  | zero=>
    intro i hi;obtain rfl:i=l.length:=by omega
    rw[aA];simp only[b6.tree,Tr.af,Tr.ak,cO,Bool.false_eq_true,↓reduceIte]
  | succ n ih=>
    intro i hi;have q:i<l.length:=by omega
    rw[←ih (i+1) (by omega),aA];have hk:=hv l[i] (List.getElem_mem q)
    have hs:∀k:Nat,G (i+1) k=(G i k || (decide (l[i]=(k:Int))&& !W k)):=fun k=>by
     rw[hG,hG];unfold note;dsimp only
     have:decide ((k:Int)∈l.take (i+1))=(decide ((k:Int)∈l.take i) || decide (l[i]=(k:Int))):=by
      rw[Bool.eq_iff_iff,Bool.or_eq_true,decide_eq_true_eq,decide_eq_true_eq,decide_eq_true_eq,List.take_add_one,List.getElem?_eq_getElem q];exact iZ _ _ _
     rw[this,Bool.and_or_distrib_right,Bool.or_assoc]
    have n1:(0:Int)≤l[i]∧l[i]<((L8 W).length:Int):=by rw[mP];omega
    have n2:(0:Int)≤l[i]∧l[i]<((L8 (G i)).length:Int):=by rw[mP];omega
    cases hW:W l[i].toNat with
    | true=>
      have hgg:L8 (G (i+1))=L8 (G i):=rO fun k hk8=>by
       rw[hs k]
       by_cases e:l[i]=(k:Int)
       ·have:W k=true:=by rw[←hW];congr 1;omega
        rw[this];simp
       ·rw[decide_eq_false e];simp
      rw[hgg];simp only[b6.tree,Tr.af,Tr.al,Tr.ai,aX q,bJ q,aP q,n1,and_self,decide_true,↓reduceIte,CA W l[i] hk,hW,Bool.not_true,Bool.false_eq_true,aH (show i<4611686018427387904 by omega)]
    | false=>
      have hgg:L8 (G (i+1))=L8 (nQ (G i) l[i]):=rO fun k hk8=>by
       rw[hs k];unfold nQ
       by_cases e:l[i]=(k:Int)
       ·have:W k=false:=by rw[←hW];congr 1;omega
        rw[this,decide_eq_true e];rfl
       ·rw[decide_eq_false e];simp
      rw[hgg];simp only[b6.tree,Tr.af,Tr.al,Tr.ai,aX q,bJ q,aP q,n1,n2,and_self,decide_true,↓reduceIte,CA W l[i] hk,hW,Bool.not_false,u4 (G i) l[i] hk,aH (show i<4611686018427387904 by omega)]
 have e0:L8 F=L8 (G 0):=rO fun k _=>by rw[hG];unfold note;rw[List.take_zero];simp
 have e1:L8 (note W F (nm o a b))=L8 (G l.length):=rO fun k _=>by
  rw[hG];unfold note;dsimp only;have:decide ((k:Int)∈l.take l.length)=nm o a b k:=by rw[List.take_length,Bool.eq_iff_iff,decide_eq_true_eq,hm]
  rw[this]
 rw[e0,e1];exact key l.length 0 (by omega)
theorem jK.append {n:Nat} {l:List aw} {W F W1 F1:Nat→Bool} (h:jK n l W F W1 F1):∀{r:List aw} {W2 F2:Nat→Bool},jK n r W1 F1 W2 F2→jK n (l++r) W F W2 F2:=by
 induction h with
 | nil n W F=>intro r W2 F2 h;exact h
 | plain h4 hok h ih=>intro r W2 F2 h';exact .plain h4 hok (ih h')
 | ifs h4 hok h6 p1 p2 ha hr iha ihr=>
   intro r W2 F2 h';have:=jK.ifs h4 hok h6 p1 p2 ha (ihr h');rw[List.cons_append,List.append_assoc,List.cons_append];exact this
theorem jK.more {n:Nat} {l:List aw} {W F W1 F1:Nat→Bool} (h:jK n l W F W1 F1):jK (n+1) l W F W1 F1:=by
 induction h with
 | nil n W F=>exact .nil _ _ _
 | plain h4 hok h ih=>exact .plain h4 hok ih
 | ifs h4 hok h6 p1 p2 ha hr iha ihr=>exact .ifs h4 hok h6 p1 p2 iha ihr
def DF (self_:Self bf.I bf.A bf.K) (n:Nat):Prop:=
 ∀(l:List aw) (i b:Nat) (W F:Nat→Bool) (m:List aw),l.length≤1048576→l.drop i=m++l.drop b→i+m.length=b→b≤l.length→inr 0 (n:Int) m 0=true→fin m 0=0→∃W1 F1,self_.f (l,(i:Int),(b:Int),L8 W,L8 F)=some (L8 W1,L8 F1)∧jK n m W F W1 F1
set_option maxHeartbeats 4000000 in
theorem nG (self_:Self bf.I bf.A bf.K) (n:Nat) (hn30:n≤30) (hs:∀n',n=n'+1→DF self_ n'):DF (bf.step self_) n:=by
 intro l i b W F m hl hd hib hbl hp hf
 have key:∀(N:Nat) (m:List aw) (d:Int) (i:Nat) (W F:Nat→Bool),m.length=N→0≤d→l.drop i=m++l.drop b→i+m.length=b→inr 0 (n:Int) m d=true→fin m d=0→∃W1 F1,lp (bf.tree self_) (.c1 l (b:Int) (i:Int) (L8 W) (L8 F))=some (L8 W1,L8 F1)∧jK n m W F W1 F1:=by
  intro N
  induction N using Nat.strongRecOn with
  | _ N ih=>
    intro m d i W F hN hd0 hd hib hp hf;cases m with
    | nil=>
      obtain rfl:i=b:=by simpa using hib
      refine⟨W,F,?_,.nil _ _ _⟩;rw[aA];simp only[bf.tree,Tr.af,Tr.ak,cO,Bool.false_eq_true,↓reduceIte]
    | cons x m=>
      obtain⟨q,e,e2⟩:=drop_at (a:=[]) (show l.drop i=[]++x::(m++l.drop b)from hd);have q':i<l.length:=q;have e':l[i]=x:=e;have e2':l.drop (i+1)=m++l.drop b:=e2;rw[List.length_cons]at hib;have hr:aj l (i:Int)=x:=(aP q').trans e';have qb:decide ((i:Int)<(b:Int))=true:=decide_eq_true (by omega);have w:wr ((i:Int)+1)=((i+1:Nat):Int):=aH (by omega)
      have hok:xn x=true∧inr 0 (n:Int) m (dep x.f0 d)=true∧0≤dep x.f0 d:=by
       unfold inr at hp;rw[Bool.and_eq_true,Bool.and_eq_true,ba]at hp;exact⟨hp.1,hp.2.2,hp.2.1.1⟩
      have hfm:fin m (dep x.f0 d)=0:=hf
      by_cases hop:x.f0=4∨x.f0=5
      ·obtain⟨a,s,r,em,e6,k1,hbal,p1,p2,p3,p4⟩:=qE hd0 hop hp hf;obtain⟨n',rfl⟩:∃n',n=n'+1:=⟨n-1,by omega⟩;subst em;have hdd:l.drop i=x::(a++s::(r++l.drop b)):=by rw[hd];simp
       have hE:Ends l i (i+1+a.length):=⟨x,a,s,_,hdd,hop,e6,mX (by omega) (by omega) a 1 p1,p2,rfl⟩;obtain⟨g1,g2,g3⟩:=drop_at (show l.drop (i+1)=a++s::(r++l.drop b) by rw[e2'];simp);have hlen:(a++s::r).length=a.length+1+r.length:=by simp;omega
       have hbal1:inr 0 (n':Int) a 0=true:=by rw[show(n':Int)=((n'+1:Nat):Int)-1 by omega];exact hbal.1
       have hee:=hE.xU hl;have hwe:wr (((i+1+a.length:Nat):Int)+1)=((i+1+a.length+1:Nat):Int):=aH (by omega)
       have hda:l.drop (i+1)=a++l.drop (i+1+a.length):=by
        rw[show l.drop (i+1+a.length)=s::(r++l.drop b) by rw[←List.drop_drop,e2'];simp,e2'];simp
       by_cases h4:x.f0=4
       ·have n1:¬x.f0=1:=by omega
        have n2:¬x.f0=2:=by omega
        have n3:¬x.f0=3:=by omega
        have sW:hZ x W=W:=by unfold hZ;rw[if_neg (by omega)]
        have sF:iz x W F=note W F (nm x.f3.f0 x.f3.f1 x.f3.f2):=by unfold iz;rw[if_pos (by omega)]
        have fit:((List.length ([]:List Bool):Int)+((L8 W).length:Int))*(1:Nat)≤room:=by rw[mP];unfold room;simp
        obtain⟨W1,F1,es,hR1⟩:=hs n' rfl l (i+1) (i+1+a.length) W (note W F (nm x.f3.f0 x.f3.f1 x.f3.f2)) a hl hda rfl (by omega) hbal1 hbal.2;obtain⟨W2,F2,er,hR2⟩:=ih r.length (by rw[←hN,List.length_cons,hlen];omega) r d (i+1+a.length+1) W F1 rfl hd0 g3 (by omega) p3 p4;refine⟨W2,F2,?_,.ifs h4 hok.1 e6 (mX (by omega) (by omega) a 1 p1) p2 (by rw[sW,sF];exact hR1) (by rw[sW];exact hR2)⟩;rw[aA];simp only[bf.tree,Tr.af,Tr.al,Tr.ag,Tr.ai,qb,bJ q',hr,and_self,↓reduceIte,decide_eq_false n1,decide_eq_false n2,decide_eq_false n3,decide_eq_true h4,Bool.false_eq_true,b6.told,ku x.f3.f0 x.f3.f1 x.f3.f2 W F,ae,ca.told,hee,fit,List.nil_append,w,Self.told,es,hwe];exact er
       ·have h5:x.f0=5:=by omega
        have n1:¬x.f0=1:=by omega
        have n2:¬x.f0=2:=by omega
        have n3:¬x.f0=3:=by omega
        have sW:hZ x W=W:=by unfold hZ;rw[if_neg (by omega)]
        have sF:iz x W F=F:=by unfold iz;rw[if_neg (by omega)]
        obtain⟨W1,F1,es,hR1⟩:=hs n' rfl l (i+1) (i+1+a.length) W F a hl hda rfl (by omega) hbal1 hbal.2;obtain⟨W2,F2,er,hR2⟩:=ih r.length (by rw[←hN,List.length_cons,hlen];omega) r d (i+1+a.length+1) W1 F1 rfl hd0 g3 (by omega) p3 p4
        have oks:xn s=true:=by
         have h1:=hok.2.1
         have:∀(a:List aw) (d:Int),inr 0 ((n'+1:Nat):Int) (a++s::r) d=true→xn s=true:=by
          intro a
          induction a with
          | nil=>intro d h;exact(Bool.and_eq_true _ _▸h:xn s=true∧_).1
          | cons y a iha=>intro d h;unfold inr at h;rw[List.cons_append]at h;simp only[inr,Bool.and_eq_true]at h;exact iha _ h.2.2
         exact this a _ h1
        have sWs:∀W:Nat→Bool,hZ s W=W:=fun W=>by unfold hZ;rw[if_neg (by omega)]
        have sFs:∀W F:Nat→Bool,iz s W F=F:=fun W F=>by unfold iz;rw[if_neg (by omega)]
        refine⟨W2,F2,?_,.plain h4 hok.1 (by rw[sW,sF];exact hR1.more.append (.plain (by omega) oks (by rw[sWs,sFs];exact hR2)))⟩;rw[aA];simp only[bf.tree,Tr.af,Tr.al,Tr.ag,Tr.ai,qb,bJ q',hr,and_self,↓reduceIte,decide_eq_false n1,decide_eq_false n2,decide_eq_false n3,decide_eq_false h4,decide_eq_true h5,Bool.false_eq_true,ae,ca.told,hee,w,Self.told,es,hwe];exact er
      ·have n4:¬x.f0=4:=by omega
       have n5:¬x.f0=5:=by omega
       by_cases n1:x.f0=1
       ·have hv:=qZ hok.1 (Or.inl n1);have sW:hZ x W=nQ W x.f1:=by unfold hZ;rw[if_pos (by omega)]
        have sF:iz x W F=note W F (nm x.f3.f0 x.f3.f1 x.f3.f2):=by unfold iz;rw[if_pos (by omega)]
        have nb:(0:Int)≤x.f1∧x.f1<((L8 W).length:Int):=by rw[mP];omega
        obtain⟨W2,F2,er,hR2⟩:=ih m.length (by rw[←hN,List.length_cons];omega) m _ (i+1) (nQ W x.f1) (note W F (nm x.f3.f0 x.f3.f1 x.f3.f2)) rfl hok.2.2 e2' (by omega) hok.2.1 hfm;refine⟨W2,F2,?_,.plain n4 hok.1 (by rw[sW,sF];exact hR2)⟩;rw[aA];simp only[bf.tree,Tr.af,Tr.al,Tr.ag,Tr.ai,qb,bJ q',hr,and_self,↓reduceIte,decide_eq_true n1,b6.told,ku x.f3.f0 x.f3.f1 x.f3.f2 W F,ae,nb,u4 W x.f1 hv,w];exact er
       ·by_cases n2:x.f0=2
        ·have hv:=qZ hok.1 (Or.inr n2);have sW:hZ x W=nQ W x.f1:=by unfold hZ;rw[if_pos (by omega)]
         have sF:iz x W F=F:=by unfold iz;rw[if_neg (by omega)]
         have nb:(0:Int)≤x.f1∧x.f1<((L8 W).length:Int):=by rw[mP];omega
         obtain⟨W2,F2,er,hR2⟩:=ih m.length (by rw[←hN,List.length_cons];omega) m _ (i+1) (nQ W x.f1) F rfl hok.2.2 e2' (by omega) hok.2.1 hfm;refine⟨W2,F2,?_,.plain n4 hok.1 (by rw[sW,sF];exact hR2)⟩;rw[aA];simp only[bf.tree,Tr.af,Tr.al,Tr.ag,Tr.ai,qb,bJ q',hr,and_self,↓reduceIte,decide_eq_false n1,decide_eq_true n2,Bool.false_eq_true,ae,nb,u4 W x.f1 hv,w];exact er
        ·by_cases n3:x.f0=3
         ·have sW:hZ x W=W:=by unfold hZ;rw[if_neg (by omega)]
          have sF:iz x W F=note W F (nm x.f3.f0 x.f3.f1 x.f3.f2):=by unfold iz;rw[if_pos (by omega)]
          obtain⟨W2,F2,er,hR2⟩:=ih m.length (by rw[←hN,List.length_cons];omega) m _ (i+1) W (note W F (nm x.f3.f0 x.f3.f1 x.f3.f2)) rfl hok.2.2 e2' (by omega) hok.2.1 hfm;refine⟨W2,F2,?_,.plain n4 hok.1 (by rw[sW,sF];exact hR2)⟩;rw[aA];simp only[bf.tree,Tr.af,Tr.al,Tr.ag,Tr.ai,qb,bJ q',hr,and_self,↓reduceIte,decide_eq_false n1,decide_eq_false n2,decide_eq_true n3,Bool.false_eq_true,b6.told,ku x.f3.f0 x.f3.f1 x.f3.f2 W F,ae,w];exact er
         ·have sW:hZ x W=W:=by unfold hZ;rw[if_neg (by omega)]
          have sF:iz x W F=F:=by unfold iz;rw[if_neg (by omega)]
          obtain⟨W2,F2,er,hR2⟩:=ih m.length (by rw[←hN,List.length_cons];omega) m _ (i+1) W F rfl hok.2.2 e2' (by omega) hok.2.1 hfm;refine⟨W2,F2,?_,.plain n4 hok.1 (by rw[sW,sF];exact hR2)⟩;rw[aA];simp only[bf.tree,Tr.af,Tr.al,Tr.ag,Tr.ai,qb,bJ q',hr,and_self,↓reduceIte,decide_eq_false n1,decide_eq_false n2,decide_eq_false n3,decide_eq_false n4,decide_eq_false n5,Bool.false_eq_true,ae,w];exact er
 exact key m.length m 0 i W F rfl (Int.le_refl _) hd hib hp hf
theorem vh (l:List aw) (W F:Nat→Bool) (hl:l.length≤1048576) (hb:okB l.length l 0=true):∃W1 F1,bf.f l 0 (l.length:Int) (L8 W) (L8 F)=some (L8 W1,L8 F1)∧jK 3 l W F W1 F1:=by
 have h0:=nG (Self.iter bf.step 4) 0 (by omega) (fun n' h=>absurd h (by omega));have h1:=nG (Self.iter bf.step 5) 1 (by omega) (fun n' h=>by cases h;exact h0);have h2:=nG (Self.iter bf.step 6) 2 (by omega) (fun n' h=>by cases h;exact h1);have h3:=nG (Self.iter bf.step 7) 3 (by omega) (fun n' h=>by cases h;exact h2);obtain⟨c1,c2,_⟩:=kg _ _ _ hb;exact h3 l 0 l.length W F l hl (by simp) (by omega) (Nat.le_refl _) c1 c2
theorem yu (l:List aw) (a b c:Int) (hl:l.length≤1048576) (hb:okB l.length l 0=true) (hx:pM a b c=true):∃mi ms,gn.f l a b c=some mi∧cU.f l a b c=some ms∧mi.length≤1048576∧ms.length≤1048576∧∀x,x∈mi↔x∈ms:=by
 obtain⟨b1,b2,b3⟩:=kg _ _ _ hb;obtain⟨W1,F1,ep,hR⟩:=vh l (fun _=>false) (fun _=>false) hl hb;obtain⟨mi,ei,hil,him⟩:=sx l a b c hl hb hx hR;have en:=ku a b c W1 F1;generalize note W1 F1 (nm a b c)=Y at him en;obtain⟨r1,e1,h1,m1⟩:=lV Y;obtain⟨r2,e2,h2,m2⟩:=qy l hl hb;obtain⟨r3,e3,h3,m3⟩:=rh l hl hb;have eb:=ko l hl;rw[hb]at eb;have n0:(0:Int)≤8∧(8:Int)≤8∧(8:Int)*(1:Nat)≤room:=⟨by omega,by omega,by unfold room;omega⟩
 have e4:cz.f l a b c=some r1:=by
  simp only[cz.f,cz.begin,Tr.al,Tr.ag,Tr.af,Tr.ak,n0,and_self,↓reduceIte,bm.told,eb,cb.told,gO,hx,ae,xL,bf.told,ep,b6.told,en,bP.told,e1]
 obtain⟨ms,es,hsl,hsm⟩:=upto r3.length (fun i (s:List Int)=>s.length≤i∧∀x,x∈s↔x∈r3.take i∧(x∈r1∨¬x∈r2)) (fun i s=>lp cU.tree (.c8 s r3 r2 r1 (i:Int))) (fun r=>r.length≤8∧∀x,x∈r↔x∈r3∧(x∈r1∨¬x∈r2)) (fun i hi s hs=>by
  obtain⟨hs,hm⟩:=hs;rw[aA]
  by_cases q:i<r3.length
  ·have v1:=kQ r1 r3[i] (by omega);have v2:=kQ r2 r3[i] (by omega);have fit:=dH s r3[i] 1048576 (by omega) (by omega) 8 (by omega);have tk:∀x,x∈r3.take (i+1)↔x∈r3.take i∨r3[i]=x:=fun x=>by rw[ir q,iZ]
   by_cases h1:r3[i]∈r1
   ·refine Or.inr ⟨q,s++[r3[i]],?_,by rw[List.length_append,List.length_singleton];omega,fun x=> ?_⟩
    ·simp only[cU.tree,Tr.af,Tr.al,Tr.ag,Tr.ai,aX q,bJ q,aP q,and_self,decide_true,↓reduceIte,cm.told,v1,ae,decide_eq_true h1,fit,aH (show i<4611686018427387904 by omega)]
    ·rw[iZ,hm,tk];exact⟨fun h=>h.elim (fun h=>⟨Or.inl h.1,h.2⟩) fun h=>⟨Or.inr h,Or.inl (by rw[←h];exact h1)⟩,fun⟨h,h'⟩=>h.elim (fun h=>Or.inl ⟨h,h'⟩) Or.inr⟩
   ·by_cases h2:r3[i]∈r2
    ·refine Or.inr ⟨q,s,?_,by omega,fun x=> ?_⟩
     ·simp only[cU.tree,Tr.af,Tr.al,Tr.ag,Tr.ai,aX q,bJ q,aP q,and_self,decide_true,↓reduceIte,cm.told,v1,v2,ae,decide_eq_false h1,decide_eq_true h2,Bool.not_true,Bool.false_eq_true,aH (show i<4611686018427387904 by omega)]
     ·rw[hm,tk];refine⟨fun h=>⟨Or.inl h.1,h.2⟩,fun⟨h,h'⟩=>h.elim (fun h=>⟨h,h'⟩) fun h=> ?_⟩;rw[←h]at h';exact absurd h2 (h'.elim (fun h=>absurd h h1) id)
    ·refine Or.inr ⟨q,s++[r3[i]],?_,by rw[List.length_append,List.length_singleton];omega,fun x=> ?_⟩
     ·simp only[cU.tree,Tr.af,Tr.al,Tr.ag,Tr.ai,aX q,bJ q,aP q,and_self,decide_true,↓reduceIte,cm.told,v1,v2,ae,decide_eq_false h1,decide_eq_false h2,Bool.not_false,Bool.false_eq_true,fit,aH (show i<4611686018427387904 by omega)]
     ·rw[iZ,hm,tk];exact⟨fun h=>h.elim (fun h=>⟨Or.inl h.1,h.2⟩) fun h=>⟨Or.inr h,Or.inr (by rw[←h];exact h2)⟩,fun⟨h,h'⟩=>h.elim (fun h=>Or.inl ⟨h,h'⟩) Or.inr⟩
  ·obtain rfl:i=r3.length:=by omega
   rw[List.take_length]at hm;refine Or.inl ⟨s,?_,by omega,hm⟩;simp only[cU.tree,Tr.af,Tr.ak,cO,Bool.false_eq_true,↓reduceIte]) 0 (by omega) [] ⟨by simp,by simp⟩
 refine⟨mi,ms,ei,?_,by omega,by omega,fun x=> ?_⟩
 ·simp only[cU.f,cU.begin,Tr.ag,Tr.af,Tr.ai,gj.told,gj.f,gj.begin,Tr.ak,bm.told,eb,cb.told,gO,hx,ae,Bool.not_true,Bool.false_eq_true,↓reduceIte,cN.told,e3,cd.told,e2,cz.told,e4];exact es
 ·rw[him,hsm,m3,m1,m2];rfl
theorem l5 (c:Int) (vs se u li rd:List Int) (at_:Int) (lv:Bool) (o:List aL) (ms lg:List Int) (t tl:Int) (ho:o.length≤1000000):dA.f c vs se u li rd at_ lv o ms lg t tl=some (vs,se,u,li,rd,at_,lv,o++[(⟨c,-1,0⟩:aL)],ms,lg,t,tl):=by
 simp only[dA.f,dA.begin,Tr.al,Tr.ak,dH o _ 1048576 (by omega) (by omega) 24 (by omega),↓reduceIte]
theorem ij (a v:Int) (vs se u li rd:List Int) (at_:Int) (lv:Bool) (o:List aL) (ms lg:List Int) (t tl:Int) (ho:o.length≤1000000):bS.f a v vs se u li rd at_ lv o ms lg t tl=some (vs,se,u,li,rd,at_,lv,o++[(⟨3,a,v⟩:aL)],ms,lg,t,tl):=by
 simp only[bS.f,bS.begin,Tr.al,Tr.ak,dH o _ 1048576 (by omega) (by omega) 24 (by omega),↓reduceIte]
def Sy (mi ms lg:List Int) (f:List Bool):Prop:=(∀x,x∈mi↔x∈ms)∧∀k:Nat,k<8→(k:Int)∈mi→(f[k]? =some true↔(k:Int)∈lg)
set_option maxHeartbeats 4000000 in
theorem vv (mi:List Int) (k v:Int) (o:List aL) (u:List Int) (t tl sn:Int) (lg:List Int) (f0 f1 f2 f3 f4 f5 f6 f7:Bool) (vs:List Int) (hk:0≤k∧k≤7) (hm:mi.length≤1048576):
 bb.f mi k v o u t tl sn lg f0 f1 f2 f3 f4 f5 f6 f7 vs=if k∈mi∧([f0,f1,f2,f3,f4,f5,f6,f7]:List Bool)[k.toNat]? =some false then lp bb.tree (.c1 k v o u t tl sn lg f0 f1 f2 f3 f4 f5 f6 f7 vs)else lp bb.tree (.c6 k v o u t tl sn lg f0 f1 f2 f3 f4 f5 f6 f7 vs):=by
 have eh:=mC mi k hm
 by_cases h:k∈mi
 ·rw[decide_eq_true h]at eh;simp only[bb.f,bb.begin,Tr.ag,Tr.af,Tr.ai,gA.told,eh,ae,↓reduceIte];rcases(show k=0∨k=1∨k=2∨k=3∨k=4∨k=5∨k=6∨k=7 by omega)with rfl | rfl | rfl | rfl | rfl | rfl | rfl | rfl
  ·simp only[decide_true,↓reduceIte,Int.reduceEq,decide_false,Bool.false_eq_true];cases f0 with
   | false=>exact(if_pos ⟨h,rfl⟩).symm
   | true=>exact(if_neg (fun h'=>by cases h'.2)).symm
  ·simp only[decide_true,↓reduceIte,Int.reduceEq,decide_false,Bool.false_eq_true];cases f1 with
   | false=>exact(if_pos ⟨h,rfl⟩).symm
   | true=>exact(if_neg (fun h'=>by cases h'.2)).symm
  ·simp only[decide_true,↓reduceIte,Int.reduceEq,decide_false,Bool.false_eq_true];cases f2 with
   | false=>exact(if_pos ⟨h,rfl⟩).symm
   | true=>exact(if_neg (fun h'=>by cases h'.2)).symm
  ·simp only[decide_true,↓reduceIte,Int.reduceEq,decide_false,Bool.false_eq_true];cases f3 with
   | false=>exact(if_pos ⟨h,rfl⟩).symm
   | true=>exact(if_neg (fun h'=>by cases h'.2)).symm
  ·simp only[decide_true,↓reduceIte,Int.reduceEq,decide_false,Bool.false_eq_true];cases f4 with
   | false=>exact(if_pos ⟨h,rfl⟩).symm
   | true=>exact(if_neg (fun h'=>by cases h'.2)).symm
  ·simp only[decide_true,↓reduceIte,Int.reduceEq,decide_false,Bool.false_eq_true];cases f5 with
   | false=>exact(if_pos ⟨h,rfl⟩).symm
   | true=>exact(if_neg (fun h'=>by cases h'.2)).symm
  ·simp only[decide_true,↓reduceIte,Int.reduceEq,decide_false,Bool.false_eq_true];cases f6 with
   | false=>exact(if_pos ⟨h,rfl⟩).symm
   | true=>exact(if_neg (fun h'=>by cases h'.2)).symm
  ·simp only[decide_true,↓reduceIte,Int.reduceEq,decide_false,Bool.false_eq_true];cases f7 with
   | false=>exact(if_pos ⟨h,rfl⟩).symm
   | true=>exact(if_neg (fun h'=>by cases h'.2)).symm
 ·rw[decide_eq_false h]at eh;rw[if_neg (fun h'=>h h'.1)];simp only[bb.f,bb.begin,Tr.ag,Tr.af,Tr.ai,gA.told,eh,ae,Bool.false_eq_true,↓reduceIte]
theorem tD {n:Nat} {M:List Int} {B:Nat} (k v:Int) (o:List aL) (u:List Int) (t tl sn:Int) (lg:List Int) (f0 f1 f2 f3 f4 f5 f6 f7:Bool) (vs:List Int) (b:pw n t tl M) (hB:B≤900000) (h:TI n t tl M B o u sn lg (([f0,f1,f2,f3,f4,f5,f6,f7]:List Bool).set k.toNat true) vs) (hk:0≤k∧k≤7) (hv:isVal v=true):
 ∃g0 g1 g2 g3 g4 g5 g6 g7,[g0,g1,g2,g3,g4,g5,g6,g7]=([f0,f1,f2,f3,f4,f5,f6,f7]:List Bool).set k.toNat true∧lp bb.tree (.c6 k v o u t tl sn lg f0 f1 f2 f3 f4 f5 f6 f7 vs)=some (o++[(⟨3,k,v⟩:aL)],u,t,tl,sn,lg,g0,g1,g2,g3,g4,g5,g6,g7,vs.set k.toNat v)∧TI n t tl M (B+1) (o++[(⟨3,k,v⟩:aL)]) u sn lg [g0,g1,g2,g3,g4,g5,g6,g7] (vs.set k.toNat v):=by
 obtain⟨g0,g1,g2,g3,g4,g5,g6,g7,e,e'⟩:=BF k v o u t tl sn lg f0 f1 f2 f3 f4 f5 f6 f7 vs hk;rw[←e]at h;have hvl:=(nN.mp h.Bf).2;have n1:(0:Int)≤k∧k<(vs.length:Int):=by omega
 have hw:=fT k v o u t tl sn lg g0 g1 g2 g3 g4 g5 g6 g7 (vs.set k.toNat v) (by have:=h.mU;omega);refine⟨g0,g1,g2,g3,g4,g5,g6,g7,e,?_,h.push b _ ⟨by show(0:Int)≤3∧(3:Int)≤5;omega,by show -1≤k∧k<49;omega⟩ ?_ (by have:=h.BY;omega) h.Ds (Dv h.Bf hv)⟩
 ·rw[e',aA];simp only[bb.tree,Tr.al,Tr.ag,Tr.ak,n1,and_self,↓reduceIte,bO.told,hw,ae]
 ·rw[nC _ _ _ _ hk.1];exact h.run.set (by omega) (by omega) (fun _=>hv) (Or.inl (by omega)) (Or.inl (by omega))
theorem ov (k v:Int) (vs se u li rd:List Int) (at_:Int) (lv:Bool) (o:List aL) (ms lg:List Int) (t tl:Int) (hk:0≤k∧k≤7) (hvl:vs.length=8) (ho:o.length≤1000000):
 lp bK.tree (.c6 k v vs se u li rd at_ lv o ms lg t tl)=some (vs.set k.toNat v,se,u,li,rd,at_,lv,o++[(⟨3,k,v⟩:aL)],ms,lg,t,tl):=by
 have n1:(0:Int)≤k∧k<(vs.length:Int):=by omega
 rw[aA];simp only[bK.tree,Tr.al,Tr.ag,Tr.ak,n1,and_self,↓reduceIte,bS.told,ij k v (vs.set k.toNat v) se u li rd at_ lv o ms lg t tl ho,ae]
theorem rV {f:List Bool} {j:Nat} (h:j<f.length):f[j]? =some true∨f[j]? =some false:=by
 rw[List.getElem?_eq_getElem h];cases f[j]with
 | true=>exact Or.inl rfl
 | false=>exact Or.inr rfl
set_option maxHeartbeats 4000000 in
theorem th {n:Nat} {M:List Int} {B:Nat} (mi ms:List Int) (k v:Int) (o:List aL) (u:List Int) (t tl sn:Int) (lg:List Int) (f0 f1 f2 f3 f4 f5 f6 f7:Bool) (vs:List Int) (se rd:List Int) (at_:Int) (b:pw n t tl M) (hB:B≤800000) (h:TI n t tl M B o u sn lg [f0,f1,f2,f3,f4,f5,f6,f7] vs) (hk:0≤k∧k≤7) (hv:isVal v=true) (hm:mi.length≤1048576) (hms:ms.length≤1048576) (hS:Sy mi ms lg [f0,f1,f2,f3,f4,f5,f6,f7]):
 ∃o' lg' g0 g1 g2 g3 g4 g5 g6 g7,bb.f mi k v o u t tl sn lg f0 f1 f2 f3 f4 f5 f6 f7 vs=some (o',u,t,tl,sn,lg',g0,g1,g2,g3,g4,g5,g6,g7,vs.set k.toNat v)∧TI n t tl M (B+4) o' u sn lg' [g0,g1,g2,g3,g4,g5,g6,g7] (vs.set k.toNat v)∧
  bK.f k v vs se u [] rd at_ true o ms lg t tl=some (vs.set k.toNat v,se,u,[],rd,at_,true,o',ms,lg',t,tl)∧Sy mi ms lg' [g0,g1,g2,g3,g4,g5,g6,g7]:=by
 have hb8:k.toNat<([f0,f1,f2,f3,f4,f5,f6,f7]:List Bool).length:=by simp;omega
 have hk8:=hS.2 k.toNat (by omega);rw[show((k.toNat:Nat):Int)=k by omega]at hk8;have hvl:=(nN.mp h.Bf).2;have ho:=h.mU;have hlgl:=h.Ds;have hc8':=xq ([f0,f1,f2,f3,f4,f5,f6,f7]:List Bool);simp only[List.length_cons,List.length_nil]at hc8';have eI:=vv mi k v o u t tl sn lg f0 f1 f2 f3 f4 f5 f6 f7 vs hk hm;have e1:=kQ ms k hms;have e2:=kQ lg k (by omega)
 by_cases hc:k∈mi∧([f0,f1,f2,f3,f4,f5,f6,f7]:List Bool)[k.toNat]? =some false
 ·rw[if_pos hc]at eI;have hf:([f0,f1,f2,f3,f4,f5,f6,f7]:List Bool).getD k.toNat true=false:=by rw[List.getD_eq_getElem?_getD,hc.2];rfl
  have hnl:¬k∈lg:=fun hl=>by
   have:=(hk8 hc.1).mpr hl;rw[hc.2]at this;cases this
  rw[decide_eq_true ((hS.1 k).mp hc.1)]at e1;rw[decide_eq_false hnl]at e2;obtain⟨hva,_⟩:=nN.mp h.Bf;have n1:(0:Int)≤k∧k<(vs.length:Int):=by omega
  have hcn:=wR ([f0,f1,f2,f3,f4,f5,f6,f7]:List Bool) k.toNat hb8 hf;have hc8:=xq (([f0,f1,f2,f3,f4,f5,f6,f7]:List Bool).set k.toNat true);rw[List.length_set]at hc8;have hlg7:lg.length≤7:=by simp only[List.length_cons,List.length_nil]at hc8;omega
  have w1:wr (2*(lg.length:Int))=2*(lg.length:Int):=bZ (by omega);have w2:wr (9+2*(lg.length:Int))=9+2*(lg.length:Int):=bZ (by omega);have w3:wr (9+2*(lg.length:Int)+1)=9+2*(lg.length:Int)+1:=bZ (by omega);have w4':wr ((lg.length:Int)+1)=(lg.length:Int)+1:=bZ (by omega);have w4:wr ((lg.length:Int)+1)=((lg++[k]).length:Int):=w4'.trans (by rw[List.length_append,List.length_singleton];rfl);have hw1:=fT (9+2*(lg.length:Int)) k o u t tl sn lg f0 f1 f2 f3 f4 f5 f6 f7 vs (by omega);have hw2:=fT (9+2*(lg.length:Int)+1) (cT vs k) (o++[(⟨3,9+2*(lg.length:Int),k⟩:aL)]) u t tl sn lg f0 f1 f2 f3 f4 f5 f6 f7 vs (by rw[List.length_append,List.length_singleton];omega);have hw3:=fT 8 (pack t ((lg++[k]).length:Int) tl) ((o++[(⟨3,9+2*(lg.length:Int),k⟩:aL)])++[(⟨3,9+2*(lg.length:Int)+1,cT vs k⟩:aL)]) u t tl sn (lg++[k]) f0 f1 f2 f3 f4 f5 f6 f7 vs (by rw[List.length_append,List.length_append,List.length_singleton,List.length_singleton];omega);have hx1:=ij (9+2*(lg.length:Int)) k vs se u [] rd at_ true o ms lg t tl (by omega);have hx2:=ij (9+2*(lg.length:Int)+1) (cT vs k) vs se u [] rd at_ true (o++[(⟨3,9+2*(lg.length:Int),k⟩:aL)]) ms lg t tl (by rw[List.length_append,List.length_singleton];omega)
  have hx3:=ij 8 (pack t ((lg++[k]).length:Int) tl) vs se u [] rd at_ true ((o++[(⟨3,9+2*(lg.length:Int),k⟩:aL)])++[(⟨3,9+2*(lg.length:Int)+1,cT vs k⟩:aL)]) ms lg t tl (by rw[List.length_append,List.length_append,List.length_singleton,List.length_singleton];omega);have hx6:=ov k v vs se u [] rd at_ true (((o++[(⟨3,9+2*(lg.length:Int),k⟩:aL)])++[(⟨3,9+2*(lg.length:Int)+1,cT vs k⟩:aL)])++[(⟨3,8,pack t ((lg++[k]).length:Int) tl⟩:aL)]) ms (lg++[k]) t tl hk hvl (by rw[List.length_append,List.length_append,List.length_append,List.length_singleton,List.length_singleton,List.length_singleton];omega);have hkv:isVal k=true:=by unfold isVal;rw[ba];omega
  have hrv:isVal (cT vs k)=true:=Bq hva k
  have r1:wB t tl M lg.length sn (mw (cG M o) (⟨3,9+2*(lg.length:Int),k⟩:aL)):=by
   rw[nC _ _ _ _ (by omega)];exact h.run.set (by omega) (by omega) (fun _=>hkv) (Or.inr (by omega)) (Or.inl (by omega))
  have h1:=h.push b _ (vs':=vs) (lg':=lg) (f':=[f0,f1,f2,f3,f4,f5,f6,f7]) ⟨by show(0:Int)≤3∧(3:Int)≤5;omega,by show -1≤9+2*(lg.length:Int)∧9+2*(lg.length:Int)<49;omega⟩ r1 (by have:=h.BY;omega) h.Ds h.Bf
  have r2:wB t tl M lg.length sn (mw (cG M (o++[(⟨3,9+2*(lg.length:Int),k⟩:aL)])) (⟨3,9+2*(lg.length:Int)+1,cT vs k⟩:aL)):=by
   rw[nC _ _ _ _ (by omega)];exact h1.run.set (by omega) (by omega) (fun _=>hrv) (Or.inr (by omega)) (Or.inl (by omega))
  have h2:=h1.push b _ (vs':=vs) (lg':=lg) (f':=[f0,f1,f2,f3,f4,f5,f6,f7]) ⟨by show(0:Int)≤3∧(3:Int)≤5;omega,by show -1≤9+2*(lg.length:Int)+1∧9+2*(lg.length:Int)+1<49;omega⟩ r2 (by have:=h.BY;omega) h.Ds h.Bf
  have hp:jg (cG M ((o++[(⟨3,9+2*(lg.length:Int),k⟩:aL)])++[(⟨3,9+2*(lg.length:Int)+1,cT vs k⟩:aL)])) lg.length=true:=by
   have l0:=h.run.len;rw[mx,iO,iO,nC _ _ _ _ (by omega),nC _ _ _ _ (by omega)];have l1:(List.set (cG M o) (9+2*(lg.length:Int)).toNat k).length=49:=by rw[List.length_set];exact l0
   rw[fy (by omega),fy (by omega),fy (by omega),if_neg (by omega),if_pos (by omega),if_pos (by omega),hrv];rw[(ba (x:=k)).mpr hk];rfl
  have r3:wB t tl M (lg++[k]).length sn (mw (cG M ((o++[(⟨3,9+2*(lg.length:Int),k⟩:aL)])++[(⟨3,9+2*(lg.length:Int)+1,cT vs k⟩:aL)])) (⟨3,8,pack t ((lg++[k]).length:Int) tl⟩:aL)):=by
   rw[nC _ _ _ _ (by omega),List.length_append,List.length_singleton];exact h2.run.E3 (by omega) hp
  have h3:=h2.push b _ (vs':=vs) (lg':=lg++[k]) (f':=([f0,f1,f2,f3,f4,f5,f6,f7]:List Bool).set k.toNat true) ⟨by show(0:Int)≤3∧(3:Int)≤5;omega,by show(-1:Int)≤8∧(8:Int)<49;omega⟩ r3 (by have:=h.BY;omega) (by rw[List.length_append,List.length_singleton];omega) h.Bf;obtain⟨g0,g1,g2,g3,g4,g5,g6,g7,eg,e7,t7⟩:=tD k v _ u t tl sn (lg++[k]) f0 f1 f2 f3 f4 f5 f6 f7 vs b (by omega) h3 hk hv;refine⟨_,lg++[k],g0,g1,g2,g3,g4,g5,g6,g7,?_,t7,?_,hS.1,fun j hj hjm=> ?_⟩
  ·rw[eI,aA];simp only[bb.tree,Tr.ag,Tr.al,Tr.aZ,Tr.ai,bO.told,bd.told,iR,w1,w2,w3,hw1,hw2,hw3,ae,n1,and_self,dH lg _ 1048576 (by omega) (by omega) 8 (by omega),↓reduceIte];exact e7
  ·simp only[bK.f,bK.begin,Tr.ag,Tr.af,Tr.al,Tr.aZ,Tr.ai,cm.told,e1,e2,ae,Bool.not_false,↓reduceIte,bS.told,bn.told,iW,w1,w2,w3,w4,hx1,hx2,hx3,n1,and_self,dH lg _ 1048576 (by omega) (by omega) 8 (by omega)];exact hx6
  ·rw[eg,List.getElem?_set,iZ]
   by_cases q:k.toNat=j
   ·rw[if_pos q,if_pos hb8];exact⟨fun _=>Or.inr (by omega),fun _=>rfl⟩
   ·rw[if_neg q,hS.2 j hj hjm];exact⟨Or.inl,fun h=>h.elim id fun h=>by omega⟩
 ·rw[if_neg hc]at eI;have h':TI n t tl M B o u sn lg (([f0,f1,f2,f3,f4,f5,f6,f7]:List Bool).set k.toNat true) vs:={h with Ds:=Nat.le_trans h.Ds (xZ _ _)};obtain⟨g0,g1,g2,g3,g4,g5,g6,g7,eg,e7,t7⟩:=tD k v _ u t tl sn lg f0 f1 f2 f3 f4 f5 f6 f7 vs b (by omega) h' hk hv;have hx6:=ov k v vs se u [] rd at_ true o ms lg t tl hk hvl (by omega);refine⟨_,lg,g0,g1,g2,g3,g4,g5,g6,g7,eI.trans e7,t7.mono (by omega),?_,hS.1,fun j hj hjm=> ?_⟩
  ·by_cases hms':k∈ms
   ·have hmi:=(hS.1 k).mpr hms';have hl:k∈lg:=(hk8 hmi).mp ((rV hb8).elim id fun hfalse=>absurd ⟨hmi,hfalse⟩ hc);rw[decide_eq_true hms']at e1;rw[decide_eq_true hl]at e2;simp only[bK.f,bK.begin,Tr.ag,Tr.af,Tr.ai,cm.told,e1,e2,ae,Bool.not_true,Bool.false_eq_true,↓reduceIte];exact hx6
   ·rw[decide_eq_false hms']at e1;simp only[bK.f,bK.begin,Tr.ag,Tr.af,Tr.ai,cm.told,e1,ae,Bool.false_eq_true,↓reduceIte];exact hx6
  ·rw[eg,List.getElem?_set]
   by_cases q:k.toNat=j
   ·rw[if_pos q,if_pos hb8];subst q;rw[show((k.toNat:Nat):Int)=k by omega]at hjm⊢;exact⟨fun _=>(hk8 hjm).mp ((rV hb8).elim id fun hfalse=>absurd ⟨hjm,hfalse⟩ hc),fun _=>rfl⟩
   ·rw[if_neg q,hS.2 j hj hjm]
theorem xk (s:aw) (h:xn s=true):∃c,gM.f s.f0 s.f1 s.f2 s.f3.f0 s.f3.f1 s.f3.f2=some c∧eA.f s.f0 s.f1 s.f2 s.f3.f0 s.f3.f1 s.f3.f2=some c∧0≤c∧c≤5:=by
 obtain⟨⟨h1,h2⟩,_⟩:=uL h;have n1:(0:Int)≤s.f0∧s.f0<((([0,2,5,4,1,1,0]:List Int).length:Nat):Int):=⟨by omega,by simp;omega⟩;have hs:jO s.f0 s.f1 s.f2 s.f3.f0 s.f3.f1 s.f3.f2=true:=h;simp only[gM.f,gM.begin,Tr.ag,Tr.af,Tr.al,Tr.ak,dm.told,qh,hs,ae,Bool.not_true,Bool.false_eq_true,↓reduceIte,n1,and_self];refine⟨_,rfl,?_⟩;simp only[eA.f,eA.begin,Tr.af,Tr.ak];rcases(show s.f0=1∨s.f0=2∨s.f0=3∨s.f0=4∨s.f0=5∨s.f0=6 by omega)with e | e | e | e | e | e<;>(rw[e];exact⟨rfl,by decide⟩)
theorem tQ (rd:List Int) (s n:Int):∃v,dt.f rd s n=some v∧bD.f rd s n=some v∧isVal v=true:=by
 by_cases h0:(rd.length:Int)=0
 ·simp only[dt.f,dt.begin,bD.f,bD.begin,Tr.af,Tr.ak,decide_eq_true h0,↓reduceIte];exact⟨0,rfl,rfl,rfl⟩
 ·cases hs:fF s 0 3 with
  | false=>
    simp only[dt.f,dt.begin,bD.f,bD.begin,Tr.af,Tr.ag,Tr.ak,decide_eq_false h0,bT.told,bT.f,bT.begin,aG.told,cV,aC.told,dk,hs,ae,Bool.not_false,Bool.false_eq_true,↓reduceIte];exact⟨0,rfl,rfl,rfl⟩
  | true=>
    by_cases hn:n<0
    ·simp only[dt.f,dt.begin,bD.f,bD.begin,Tr.af,Tr.ag,Tr.ak,decide_eq_false h0,decide_eq_true hn,bT.told,bT.f,bT.begin,aG.told,cV,aC.told,dk,hs,ae,Bool.not_true,Bool.false_eq_true,↓reduceIte];exact⟨0,rfl,rfl,rfl⟩
    ·have h1:(0:Int)≤Int.tmod n (rd.length:Int)∧Int.tmod n (rd.length:Int)<(rd.length:Int):=by
      rw[Int.tmod_eq_emod_of_nonneg (by omega)];exact⟨Int.emod_nonneg _ h0,Int.emod_lt_of_pos _ (by omega)⟩
     simp only[dt.f,dt.begin,bD.f,bD.begin,Tr.af,Tr.ag,Tr.al,Tr.ak,decide_eq_false h0,decide_eq_false hn,bT.told,bT.f,bT.begin,aG.told,cV,aC.told,dk,hs,ae,Bool.not_true,Bool.false_eq_true,↓reduceIte,ne_eq,h0,not_false_eq_true,h1,and_self,fR.told,nu,cR.told,mZ];exact⟨_,rfl,rfl,BZ _⟩
theorem qW (s:Int) (vs se u li rd:List Int) (at_:Int) (o:List aL) (ms lg:List Int) (t tl:Int) (hu:u.length≤1000000) {v:Int} (ev:bD.f rd s (wr (at_+(u.length:Int)))=some v):
 dE.f s vs se u li rd at_ true o ms lg t tl=some (v,vs,se,u++[v],li,rd,at_,true,o,ms,lg,t,tl):=by
 simp only[dE.f,dE.begin,Tr.af,Tr.aZ,Tr.ag,Tr.ai,↓reduceIte,bD.told,ev,ae];rw[aA];simp only[dE.tree,Tr.al,Tr.ak,dH u v 1048576 (by omega) (by omega) 8 (by omega),↓reduceIte]
theorem pD {vs:List Int} (o a b:Int) (hv:Ao vs=true) (hx:pM o a b=true):∃v,dV.f vs o a b=some v∧cf.f vs o a b=some v∧isVal v=true:=by
 obtain⟨_,ha,hb⟩:=vF hx;have hl:=(nN.mp hv).2;refine⟨D8 vs o a b,?_,vj vs o a b hl ha.1 hb.1,Db hv hx⟩;rw[ue vs o a b (by omega),if_pos hv,if_pos hx]
theorem zm {s:aw} (h:xn s=true) (hv:s.f0=1∨s.f0=3∨s.f0=4):pM s.f3.f0 s.f3.f1 s.f3.f2=true:=by
 unfold xn jO at h;rcases hv with e | e | e
 ·rw[if_pos e]at h;simp only[Bool.and_eq_true]at h;exact h.2.2
 ·rw[if_neg (by omega),if_neg (by omega),if_pos (Or.inl e)]at h;simp only[Bool.and_eq_true]at h;exact h.2.2
 ·rw[if_neg (by omega),if_neg (by omega),if_pos (Or.inr e)]at h;simp only[Bool.and_eq_true]at h;exact h.2.2
set_option maxHeartbeats 8000000 in
theorem BJ {n:Nat} {M:List Int} {B:Nat} (sS:Self aq.I aq.A aq.K) (L:List aw) (i e:Nat) (hi:i<L.length) (hie:i<e) (hLl:L.length≤1048576) (mi ms rd:List Int) (at_:Int) (o:List aL) (u:List Int) (t tl sn:Int) (lg:List Int) (f0 f1 f2 f3 f4 f5 f6 f7:Bool) (vs se:List Int) (b:pw n t tl M) (hB:B≤700000) (h:TI n t tl M B o u sn lg [f0,f1,f2,f3,f4,f5,f6,f7] vs) (hx:xn L[i]=true) (h6:L[i].f0≠6) (hop:¬(L[i].f0=4∨L[i].f0=5)) (hm:mi.length≤1048576) (hms:ms.length≤1048576) (hS:Sy mi ms lg [f0,f1,f2,f3,f4,f5,f6,f7]) (hse:(se.length:Int)=sn):
 ∃r o' u' sn' lg' g0 g1 g2 g3 g4 g5 g6 g7 vs' se',cu.f L[i].f0 L[i].f1 L[i].f2 L[i].f3.f0 L[i].f3.f1 L[i].f3.f2 mi rd at_ o u t tl sn lg f0 f1 f2 f3 f4 f5 f6 f7 vs=some (r,mi,rd,at_,o',u',t,tl,sn',lg',g0,g1,g2,g3,g4,g5,g6,g7,vs')∧TI n t tl M (B+6) o' u' sn' lg' [g0,g1,g2,g3,g4,g5,g6,g7] vs'∧
  lp (aq.tree sS) (.c1 L (e:Int) (i:Int) vs se u [] rd at_ true o ms lg t tl)=lp (aq.tree sS) (.c1 L (e:Int) ((i+1:Nat):Int) vs' se' u' [] rd at_ true o' ms lg' t tl)∧Sy mi ms lg' [g0,g1,g2,g3,g4,g5,g6,g7]∧(se'.length:Int)=sn':=by
 have hr:aj L (i:Int)=L[i]:=aP hi;generalize L[i]=x at hx h6 hop hr;obtain⟨c,ec,es,c0,c5⟩:=xk x hx;obtain⟨⟨k1,k6⟩,_⟩:=uL hx;have hvar:=qZ hx;have hexp:=zm hx;have ho:=h.mU;have hul:=h.uK;have ew:=jS c o u t tl sn lg f0 f1 f2 f3 f4 f5 f6 f7 vs (by omega);have eW:=l5 c vs se u [] rd at_ true o ms lg t tl (by omega);have hW:=h.work b ⟨c0,c5⟩;have qi:decide ((i:Int)<(e:Int))=true:=decide_eq_true (by omega);have wi:wr ((i:Int)+1)=((i+1:Nat):Int):=aH (by omega)
 have c2:∀(vs se u:List Int) (o:List aL) (lg:List Int),lp (aq.tree sS) (.c2 L (e:Int) (i:Int) vs se u [] rd at_ true o ms lg t tl)=lp (aq.tree sS) (.c1 L (e:Int) ((i+1:Nat):Int) vs se u [] rd at_ true o ms lg t tl):=fun vs se u o lg=>by
  rw[aA];simp only[aq.tree,Tr.ai,wi]
 have h1:lp (aq.tree sS) (.c1 L (e:Int) (i:Int) vs se u [] rd at_ true o ms lg t tl)=lp (aq.tree sS) (.c6 L (e:Int) (i:Int) x.f0 x.f1 x.f2 x.f3.f0 x.f3.f1 x.f3.f2 vs se u [] rd at_ true (o++[(⟨c,-1,0⟩:aL)]) ms lg t tl):=by
  rw[aA];simp only[aq.tree,Tr.af,Tr.al,Tr.ag,Tr.ai,qi,bJ hi,hr,and_self,↓reduceIte,decide_eq_false h6,Bool.not_false,eA.told,es,ae,dA.told,eW]
 simp only[cu.f,cu.begin,Tr.aZ,Tr.ag,Tr.af,gM.told,ec,ae,eM.told,ew];have q4:¬x.f0=4:=by omega
 by_cases q1:x.f0=1
 ·obtain⟨v,ev,esv,hv⟩:=pD x.f3.f0 x.f3.f1 x.f3.f2 h.Bf (hexp (Or.inl q1));obtain⟨o',lg',g0,g1,g2,g3,g4,g5,g6,g7,ea,ta,esa,hS'⟩:=th mi ms x.f1 v _ u t tl sn lg f0 f1 f2 f3 f4 f5 f6 f7 vs se rd at_ b (by omega) hW (hvar (Or.inl q1)) hv hm hms hS;simp only[decide_eq_true q1,↓reduceIte,dV.told,ev,ae,bb.told,ea,Tr.ai];refine⟨true,o',u,sn,lg',g0,g1,g2,g3,g4,g5,g6,g7,vs.set x.f1.toNat v,se,?_,ta.mono (by omega),?_,hS',hse⟩
  ·rw[aA];simp only[cu.tree,Tr.ak]
  ·rw[←c2,h1,aA];simp only[aq.tree,Tr.af,Tr.ag,Tr.aZ,Tr.ai,↓reduceIte,ae,decide_eq_true q1,cf.told,esv,bK.told,esa]
 by_cases q2:x.f0=2
 ·obtain⟨v,ev,esv,hv⟩:=tQ rd x.f2 (wr (at_+(u.length:Int)));obtain⟨o',lg',g0,g1,g2,g3,g4,g5,g6,g7,ea,ta,esa,hS'⟩:=th mi ms x.f1 v _ (u++[v]) t tl sn lg f0 f1 f2 f3 f4 f5 f6 f7 vs se rd at_ b (by omega) (hW.EG hv) (hvar (Or.inr q2)) hv hm hms hS;simp only[decide_eq_false q1,decide_eq_true q2,Bool.false_eq_true,↓reduceIte,dt.told,ev,ae,Tr.fe,Tr.aZ,Tr.al,cr,dH u v 1048576 (by have:=h.uK;omega) (by omega) 8 (by omega),Tr.ai];refine⟨true,o',u++[v],sn,lg',g0,g1,g2,g3,g4,g5,g6,g7,vs.set x.f1.toNat v,se,?_,ta.mono (by omega),?_,hS',hse⟩
  ·rw[aA];simp only[cu.tree,Tr.ag,bb.told,ea,ae,Tr.ai];rw[aA];simp only[cu.tree,Tr.ak]
  ·rw[←c2,h1,aA];simp only[aq.tree,Tr.af,Tr.al,Tr.ag,Tr.aZ,Tr.fe,cr,Tr.ai,↓reduceIte,Bool.false_eq_true,ae,decide_eq_false q1,decide_eq_true q2,dE.told,qW x.f2 vs se u [] rd at_ (o++[(⟨c,-1,0⟩:aL)]) ms lg t tl (by omega) esv,bK.told,esa]
 have q3:x.f0=3:=by omega
 obtain⟨v,ev,esv,hv⟩:=pD x.f3.f0 x.f3.f1 x.f3.f2 h.Bf (hexp (Or.inr (Or.inl q3)));simp only[decide_eq_false q1,decide_eq_false q2,decide_eq_true q3,Bool.false_eq_true,↓reduceIte,dV.told,ev,ae,Tr.aZ,Tr.ag];have hs0:=h.run.s0;have hsB:=h.BY;have htl:=b.EN;have w1:wr (tl+sn)=tl+sn:=bZ (by omega);have w2:wr (sn+1)=sn+1:=bZ (by omega);have hse':((se++[v]).length:Int)=sn+1:=by rw[List.length_append,List.length_singleton];omega
 have fit:=dH se v 1048576 (by omega) (by omega) 8 (by omega);rw[hse]at fit
 by_cases q:tl+sn<24
 ·have w3:wr (25+(tl+sn))=25+(tl+sn):=bZ (by omega);have hw:=fT (25+(tl+sn)) v (o++[(⟨c,-1,0⟩:aL)]) u t tl sn lg f0 f1 f2 f3 f4 f5 f6 f7 vs (by rw[List.length_append,List.length_singleton];omega);have hx:=ij (25+(tl+sn)) v vs (se++[v]) u [] rd at_ true (o++[(⟨c,-1,0⟩:aL)]) ms lg t tl (by rw[List.length_append,List.length_singleton];omega);refine⟨true,_,u,sn+1,lg,f0,f1,f2,f3,f4,f5,f6,f7,vs,se++[v],?_,(hW.push b (⟨3,25+(tl+sn),v⟩:aL) (sn':=sn+1) (lg':=lg) (f':=[f0,f1,f2,f3,f4,f5,f6,f7]) (vs':=vs) ⟨by show(0:Int)≤3∧(3:Int)≤5;omega,by show -1≤25+(tl+sn)∧25+(tl+sn)<49;omega⟩ ?_ (by omega) h.Ds h.Bf).mono (by omega),?_,hS,hse'⟩
  ·simp only[fz.told,fz.f,fz.begin,Tr.af,Tr.ag,Tr.ak,w1,w2,w3,decide_eq_true q,bO.told,hw,ae,↓reduceIte,Tr.ai];rw[aA];simp only[cu.tree,Tr.ak]
  ·rw[nC _ _ _ _ (by omega)];have:=hW.run.box (j:=(tl+sn).toNat) htl.1 (by omega) (by omega) hv;rw[show 25+(tl+sn).toNat=(25+(tl+sn)).toNat by omega]at this;exact this
  ·rw[←c2,h1,aA];simp only[aq.tree,Tr.af,Tr.al,Tr.ag,Tr.aZ,Tr.ai,↓reduceIte,Bool.false_eq_true,ae,decide_eq_false q1,decide_eq_false q2,decide_eq_true q3,cf.told,esv,fit,hse,w1,w3,decide_eq_true q,bS.told,hx]
 ·refine⟨true,o++[(⟨c,-1,0⟩:aL)],u,sn+1,lg,f0,f1,f2,f3,f4,f5,f6,f7,vs,se++[v],?_,{hW.mono (show B+1≤B+6 by omega)with run:=hW.run.E8 (by omega),BY:=by omega},?_,hS,hse'⟩
  ·simp only[fz.told,fz.f,fz.begin,Tr.af,Tr.ak,w1,w2,decide_eq_false q,Bool.false_eq_true,↓reduceIte,ae,Tr.ai];rw[aA];simp only[cu.tree,Tr.ak]
  ·rw[←c2,h1,aA];simp only[aq.tree,Tr.af,Tr.al,Tr.ag,Tr.aZ,Tr.ai,↓reduceIte,Bool.false_eq_true,ae,decide_eq_false q1,decide_eq_false q2,decide_eq_true q3,cf.told,esv,fit,hse,w1,decide_eq_false q]
set_option maxHeartbeats 8000000 in
theorem By {n:Nat} {M:List Int} {B:Nat} (sS:Self aq.I aq.A aq.K) (L:List aw) (i e z:Nat) (hi:i<L.length) (hie:i<e) (hLl:L.length≤1048576) (hz:ca.f L (i:Int)=some (z:Int)) (mi ms rd:List Int) (at_:Int) (o:List aL) (u:List Int) (t tl sn:Int) (lg:List Int) (f0 f1 f2 f3 f4 f5 f6 f7:Bool) (vs se:List Int) (b:pw n t tl M) (hB:B≤700000) (h:TI n t tl M B o u sn lg [f0,f1,f2,f3,f4,f5,f6,f7] vs) (hx:xn L[i]=true) (hop:L[i].f0=4∨L[i].f0=5):
 ∃r o' times,cu.f L[i].f0 L[i].f1 L[i].f2 L[i].f3.f0 L[i].f3.f1 L[i].f3.f2 mi rd at_ o u t tl sn lg f0 f1 f2 f3 f4 f5 f6 f7 vs=some (r,mi,rd,at_,o',u,t,tl,sn,lg,f0,f1,f2,f3,f4,f5,f6,f7,vs)∧TI n t tl M (B+6) o' u sn lg [f0,f1,f2,f3,f4,f5,f6,f7] vs∧
  (if L[i].f0=4 then kr.f r else some L[i].f2)=some ((times:Nat):Int)∧times≤5∧
  lp (aq.tree sS) (.c1 L (e:Int) (i:Int) vs se u [] rd at_ true o ms lg t tl)=lp (aq.tree sS) (.c24 L (e:Int) (i:Int) (z:Int) (times:Int) 0 vs se u [] rd at_ true o' ms lg t tl):=by
 have hr:aj L (i:Int)=L[i]:=aP hi;generalize L[i]=x at hx hop hr;obtain⟨c,ec,es,c0,c5⟩:=xk x hx;obtain⟨⟨k1,k6⟩,k5⟩:=uL hx;have hexp:=zm hx;have ho:=h.mU;have ew:=jS c o u t tl sn lg f0 f1 f2 f3 f4 f5 f6 f7 vs (by omega);have eW:=l5 c vs se u [] rd at_ true o ms lg t tl (by omega);have hW:=h.work b ⟨c0,c5⟩;have qi:decide ((i:Int)<(e:Int))=true:=decide_eq_true (by omega);have h6:¬x.f0=6:=by omega
 have h1:lp (aq.tree sS) (.c1 L (e:Int) (i:Int) vs se u [] rd at_ true o ms lg t tl)=lp (aq.tree sS) (.c6 L (e:Int) (i:Int) x.f0 x.f1 x.f2 x.f3.f0 x.f3.f1 x.f3.f2 vs se u [] rd at_ true (o++[(⟨c,-1,0⟩:aL)]) ms lg t tl):=by
  rw[aA];simp only[aq.tree,Tr.af,Tr.al,Tr.ag,Tr.ai,qi,bJ hi,hr,and_self,↓reduceIte,decide_eq_false h6,Bool.not_false,eA.told,es,ae,dA.told,eW]
 have q1:¬x.f0=1:=by omega
 have q2:¬x.f0=2:=by omega
 have q3:¬x.f0=3:=by omega
 simp only[cu.f,cu.begin,Tr.aZ,Tr.ag,Tr.af,gM.told,ec,ae,eM.told,ew,decide_eq_false q1,decide_eq_false q2,decide_eq_false q3,Bool.false_eq_true,↓reduceIte]
 by_cases q4:x.f0=4
 ·obtain⟨v,ev,esv,hv⟩:=pD x.f3.f0 x.f3.f1 x.f3.f2 h.Bf (hexp (Or.inr (Or.inr q4)))
  have hbt:∃times:Nat,Bz (!decide (v=0))=(times:Int)∧times≤5:=by
   cases(!decide (v=0))
   ·exact⟨0,rfl,by omega⟩
   ·exact⟨1,rfl,by omega⟩
  obtain⟨times,ht,ht5⟩:=hbt;refine⟨!decide (v=0),_,times,?_,hW.mono (by omega),?_,ht5,?_⟩
  ·simp only[decide_eq_true q4,↓reduceIte,dV.told,ev,ae,Tr.ak,Tr.aZ,Tr.ag]
  ·rw[if_pos q4,vB,ht]
  ·rw[h1,aA];simp only[aq.tree,Tr.af,Tr.ag,Tr.aZ,Tr.ai,↓reduceIte,Bool.false_eq_true,ae,decide_eq_false q1,decide_eq_false q2,decide_eq_false q3,decide_eq_true q4,ca.told,hz,cf.told,esv,fg.told,p8,ht]
 ·have q5:x.f0=5:=by omega
  have hN:=k5 q5;refine⟨true,_,x.f2.toNat,?_,hW.mono (by omega),?_,by omega,?_⟩
  ·simp only[decide_eq_false q4,Bool.false_eq_true,↓reduceIte,Tr.ai,Tr.aZ];rw[aA];simp only[cu.tree,Tr.ak]
  ·rw[if_neg q4,show((x.f2.toNat:Nat):Int)=x.f2 by omega]
  ·rw[h1,aA];simp only[aq.tree,Tr.af,Tr.ag,Tr.aZ,Tr.ai,↓reduceIte,Bool.false_eq_true,ae,decide_eq_false q1,decide_eq_false q2,decide_eq_false q3,decide_eq_false q4,decide_eq_true q5,ca.told,hz,show((x.f2.toNat:Nat):Int)=x.f2 by omega]
def Cz (n:Nat) (M:List Int) (t tl:Int) (sI:Self cM.I cM.A cM.K) (sS:Self aq.I aq.A aq.K) (k:Nat):Prop:=
 ∀(L:List aw) (i0 e0:Nat) (l:List aw) (mi ms rd:List Int) (at_:Int) (o:List aL) (u:List Int) (sn:Int) (lg:List Int) (f0 f1 f2 f3 f4 f5 f6 f7:Bool) (vs se:List Int) (B:Nat),L.length≤1048576→L.drop i0=l++L.drop e0→i0+l.length=e0→e0≤L.length→lj (k:Int) l 0→mi.length≤1048576→ms.length≤1048576→B+W5 k*l.length≤600000→TI n t tl M B o u sn lg [f0,f1,f2,f3,f4,f5,f6,f7] vs→Sy mi ms lg [f0,f1,f2,f3,f4,f5,f6,f7]→(se.length:Int)=sn→
  ∃o' u' sn' lg' g0 g1 g2 g3 g4 g5 g6 g7 vs' se',sI.f (l,mi,rd,at_,o,u,t,tl,sn,lg,f0,f1,f2,f3,f4,f5,f6,f7,vs)=some (mi,rd,at_,o',u',t,tl,sn',lg',g0,g1,g2,g3,g4,g5,g6,g7,vs')∧TI n t tl M (B+W5 k*l.length) o' u' sn' lg' [g0,g1,g2,g3,g4,g5,g6,g7] vs'∧
   sS.f (L,(i0:Int),(e0:Int),vs,se,u,[],rd,at_,true,o,ms,lg,t,tl)=some (vs',se',u',[],rd,at_,true,o',ms,lg',t,tl)∧Sy mi ms lg' [g0,g1,g2,g3,g4,g5,g6,g7]∧(se'.length:Int)=sn'
set_option maxHeartbeats 4000000 in
theorem zZ {n:Nat} {M:List Int} {t tl:Int} (sI:Self cM.I cM.A cM.K) (sS:Self aq.I aq.A aq.K) (k:Nat) (hs:Cz n M t tl sI sS k) (L:List aw) (i0 e0:Nat) (l:List aw) (hLl:L.length≤1048576) (hd:L.drop i0=l++L.drop e0) (hle:i0+l.length=e0) (he0:e0≤L.length) (mi ms rd:List Int) (at_:Int) (i e times:Nat) (hie:i<e) (hel:e<l.length) (hF:lj (k:Int) ((l.take e).drop (i+1)) 0) (hm:mi.length≤1048576) (hms:ms.length≤1048576) (ht:times≤5):
 ∀(m j:Nat),j+m=times→∀(o:List aL) (u:List Int) (sn:Int) (lg:List Int) (f0 f1 f2 f3 f4 f5 f6 f7:Bool) (vs se:List Int) (B:Nat),TI n t tl M B o u sn lg [f0,f1,f2,f3,f4,f5,f6,f7] vs→Sy mi ms lg [f0,f1,f2,f3,f4,f5,f6,f7]→(se.length:Int)=sn→B+m*(W5 k*((l.take e).drop (i+1)).length)≤600000→
 ∃o' u' sn' lg' g0 g1 g2 g3 g4 g5 g6 g7 vs' se',lp (cM.tree sI) (.c12 l (i:Int) (e:Int) (times:Int) (j:Int) mi rd at_ o u t tl sn lg f0 f1 f2 f3 f4 f5 f6 f7 vs)=lp (cM.tree sI) (.c1 l ((e+1:Nat):Int) mi rd at_ o' u' t tl sn' lg' g0 g1 g2 g3 g4 g5 g6 g7 vs')∧TI n t tl M (B+m*(W5 k*((l.take e).drop (i+1)).length)) o' u' sn' lg' [g0,g1,g2,g3,g4,g5,g6,g7] vs'∧
  lp (aq.tree sS) (.c24 L (e0:Int) ((i0+i:Nat):Int) ((i0+e:Nat):Int) (times:Int) (j:Int) vs se u [] rd at_ true o ms lg t tl)=lp (aq.tree sS) (.c1 L (e0:Int) ((i0+e+1:Nat):Int) vs' se' u' [] rd at_ true o' ms lg' t tl)∧Sy mi ms lg' [g0,g1,g2,g3,g4,g5,g6,g7]∧(se'.length:Int)=sn':=by
 intro m;have hll:l.length≤1048576:=by omega
 have we:wr ((e:Int)+1)=((e+1:Nat):Int):=aH (by omega);have wi:wr ((i:Int)+1)=((i+1:Nat):Int):=aH (by omega);have we0:wr (((i0+e:Nat):Int)+1)=((i0+e+1:Nat):Int):=aH (by omega);have wi0:wr (((i0+i:Nat):Int)+1)=((i0+i+1:Nat):Int):=aH (by omega);have hn1:(0:Int)≤((i+1:Nat):Int)∧((i+1:Nat):Int)≤(e:Int)∧(e:Int)≤(l.length:Int):=by omega
 have hA:((l.take e).drop (i+1)).length=e-(i+1):=by rw[List.length_drop,List.length_take];omega
 have hdA:L.drop (i0+i+1)=(l.take e).drop (i+1)++L.drop (i0+e):=by
  have h1:L.drop (i0+e)=l.drop e++L.drop e0:=by rw[←List.drop_drop,hd,List.drop_append_of_le_length (by omega)]
  rw[h1,show i0+i+1=i0+(i+1) by omega,←List.drop_drop,hd,List.drop_append_of_le_length (by omega),←List.append_assoc];congr 1
  conv=>lhs;rw[←List.take_append_drop e l]
  rw[List.drop_append_of_le_length (by rw[List.length_take];omega)]
 induction m with
 | zero=>
   intro j hj o u sn lg f0 f1 f2 f3 f4 f5 f6 f7 vs se B hT hS hse hB;obtain rfl:j=times:=by omega
   refine⟨o,u,sn,lg,f0,f1,f2,f3,f4,f5,f6,f7,vs,se,?_,hT.mono (by omega),?_,hS,hse⟩
   ·rw[aA];simp only[cM.tree,Tr.af,Tr.ai,cO,Bool.false_eq_true,↓reduceIte,we]
   ·rw[aA];simp only[aq.tree,Tr.af,Tr.ai,cO,Bool.false_eq_true,↓reduceIte];rw[aA];simp only[aq.tree,Tr.ai,we0]
 | succ m ih=>
   intro j hj o u sn lg f0 f1 f2 f3 f4 f5 f6 f7 vs se B hT hS hse hB;rw[Nat.succ_mul]at hB;obtain⟨o',u',sn',lg',g0,g1,g2,g3,g4,g5,g6,g7,vs',se',e1,t1,s1,hS1,hse1⟩:=hs L (i0+i+1) (i0+e) ((l.take e).drop (i+1)) mi ms rd at_ o u sn lg f0 f1 f2 f3 f4 f5 f6 f7 vs se B hLl hdA (by rw[hA];omega) (by omega) hF hm hms (by omega) hT hS hse;obtain⟨o2,u2,sn2,lg2,y0,y1,y2,y3,y4,y5,y6,y7,vs2,se2,e2,t2,s2,hS2,hse2⟩:=ih (j+1) (by omega) o' u' sn' lg' g0 g1 g2 g3 g4 g5 g6 g7 vs' se' _ t1 hS1 hse1 (by omega);have q:j<times:=by omega
   refine⟨o2,u2,sn2,lg2,y0,y1,y2,y3,y4,y5,y6,y7,vs2,se2,?_,t2.mono (by rw[Nat.succ_mul];omega),?_,hS2,hse2⟩
   ·rw[aA];simp only[cM.tree,Tr.af,Tr.al,Tr.ag,Tr.ai,aX q,↓reduceIte,wi,hn1,and_self,Int.toNat_natCast,Self.told,e1,ae,aH (show j<4611686018427387904 by omega)];exact e2
   ·rw[aA];simp only[aq.tree,Tr.af,Tr.ag,Tr.ai,aX q,↓reduceIte,wi0,Self.told,s1,ae,aH (show j<4611686018427387904 by omega)];exact s2
set_option maxHeartbeats 4000000 in
theorem nR {n:Nat} {M:List Int} {t tl:Int} (b:pw n t tl M) (sI:Self cM.I cM.A cM.K) (sS:Self aq.I aq.A aq.K) (k:Nat) (hk:k≤6) (hs:∀k',k=k'+1→Cz n M t tl sI sS k'):Cz n M t tl (cM.step sI) (aq.step sS) k:=by
 intro L i0 e0 l mi ms rd at_ o u sn lg f0 f1 f2 f3 f4 f5 f6 f7 vs se B hLl hd hle he0 hF hm hms hB hT hS hse;have hl:l.length≤1048576:=by omega
 have hget:∀(i:Nat) (q:i<l.length) (q':i0+i<L.length),L[i0+i]=l[i]:=fun i q q'=>by
  have:(L.drop i0)[i]? =some l[i]:=by rw[hd,List.getElem?_append_left q,List.getElem?_eq_getElem q]
  rw[List.getElem?_drop,List.getElem?_eq_getElem q']at this;exact Option.some.inj this
 have key:∀(r i:Nat),i+r=l.length→lj (k:Int) l i→∀(o:List aL) (u:List Int) (sn:Int) (lg:List Int) (f0 f1 f2 f3 f4 f5 f6 f7:Bool) (vs se:List Int) (B':Nat),TI n t tl M B' o u sn lg [f0,f1,f2,f3,f4,f5,f6,f7] vs→Sy mi ms lg [f0,f1,f2,f3,f4,f5,f6,f7]→(se.length:Int)=sn→B'+W5 k*r≤600000→
  ∃o' u' sn' lg' g0 g1 g2 g3 g4 g5 g6 g7 vs' se',lp (cM.tree sI) (.c1 l (i:Int) mi rd at_ o u t tl sn lg f0 f1 f2 f3 f4 f5 f6 f7 vs)=some (mi,rd,at_,o',u',t,tl,sn',lg',g0,g1,g2,g3,g4,g5,g6,g7,vs')∧TI n t tl M (B'+W5 k*r) o' u' sn' lg' [g0,g1,g2,g3,g4,g5,g6,g7] vs'∧
   lp (aq.tree sS) (.c1 L (e0:Int) ((i0+i:Nat):Int) vs se u [] rd at_ true o ms lg t tl)=some (vs',se',u',[],rd,at_,true,o',ms,lg',t,tl)∧Sy mi ms lg' [g0,g1,g2,g3,g4,g5,g6,g7]∧(se'.length:Int)=sn':=by
  intro r
  induction r using Nat.strongRecOn with
  | _ r ih=>
    intro i hi hF o u sn lg f0 f1 f2 f3 f4 f5 f6 f7 vs se B' hT hS hse hB'
    by_cases q:i<l.length
    ·obtain⟨hok,hF'⟩:=hF.next q;have qL:i0+i<L.length:=by omega
     have hgL:=hget i q qL;have w:wr ((i:Int)+1)=((i+1:Nat):Int):=aH (by omega);have w0:wr (((i0+i:Nat):Int)+1)=((i0+(i+1):Nat):Int):=aH (by omega);have hW:=DM k;obtain⟨r',rfl⟩:∃r',r=r'+1:=⟨r-1,by omega⟩;have hr':W5 k*(r'+1)=W5 k*r'+W5 k:=Nat.mul_succ _ _
     by_cases h6:l[i].f0=6
     ·obtain⟨o2,u2,sn2,lg2,y0,y1,y2,y3,y4,y5,y6,y7,vs2,se2,e2,t2,s2,hS2,hse2⟩:=ih r' (by omega) (i+1) (by omega) hF' o u sn lg f0 f1 f2 f3 f4 f5 f6 f7 vs se B' hT hS hse (by omega);refine⟨o2,u2,sn2,lg2,y0,y1,y2,y3,y4,y5,y6,y7,vs2,se2,?_,t2.mono (by omega),?_,hS2,hse2⟩
      ·rw[aA];simp only[cM.tree,Tr.af,Tr.al,Tr.ai,aX q,bJ q,aP q,and_self,decide_eq_true h6,decide_true,↓reduceIte,w];exact e2
      ·have hrL:aj L ((i0+i:Nat):Int)=l[i]:=(aP qL).trans hgL;have qi:decide (((i0+i:Nat):Int)<(e0:Int))=true:=decide_eq_true (by omega);have n1:¬l[i].f0=1:=by omega
       have n2:¬l[i].f0=2:=by omega
       have n3:¬l[i].f0=3:=by omega
       have n4:¬l[i].f0=4:=by omega
       have n5:¬l[i].f0=5:=by omega
       rw[aA];simp only[aq.tree,Tr.af,Tr.al,Tr.ai,qi,bJ qL,hrL,and_self,↓reduceIte,decide_eq_true h6,Bool.not_true,Bool.false_eq_true];rw[aA];simp only[aq.tree,Tr.af,Tr.ai,↓reduceIte,Bool.false_eq_true,decide_eq_false n1,decide_eq_false n2,decide_eq_false n3,decide_eq_false n4,decide_eq_false n5];rw[aA];simp only[aq.tree,Tr.ai,w0];exact s2
     ·by_cases hop:l[i].f0=4∨l[i].f0=5
      ·obtain⟨a,s,rr,ed,e6,k1,hbal,p1,p2,p3,hia,hdr,hFe⟩:=hF.A1 q (by omega) hop;have hE:Ends l i (i+1+a.length):=⟨l[i],a,s,rr,ed,hop,e6,p1,p2,rfl⟩;have hEL:Ends L (i0+i) (i0+(i+1+a.length)):=⟨l[i],a,s,rr++L.drop e0,by rw[←List.drop_drop,hd,List.drop_append_of_le_length (by omega),ed];simp,hop,e6,p1,p2,by omega⟩;have hend:=hE.z8 hl;have hz:=hEL.xU hLl;obtain⟨k',rfl⟩:∃k',k=k'+1:=⟨k-1,by omega⟩;rw[show((k'+1:Nat):Int)-1=(k':Int) by omega]at hbal;generalize he:i+1+a.length=e at hend hz p3 hia hdr hFe;have hFi:lj (k':Int) ((l.take e).drop (i+1)) 0:=by rw[hia];exact⟨0,by omega,hbal.1,hbal.2⟩
       obtain⟨rb,o1,times,e1,t1,htm,ht5,s1⟩:=By (B:=B') sS L (i0+i) e0 (i0+e) qL (by omega) hLl hz mi ms rd at_ o u t tl sn lg f0 f1 f2 f3 f4 f5 f6 f7 vs se b (by omega) hT (by rw[hgL];exact hok) (by rw[hgL];exact hop);rw[hgL]at e1 htm;have hAl:((l.take e).drop (i+1)).length=a.length:=by rw[hia]
       have hmul:times*(W5 k'*a.length)≤W5 (k'+1)*a.length:=by
        rw[C1,Nat.mul_assoc];exact Nat.mul_le_mul_right _ ht5
       have hsplit:W5 (k'+1)*(r'+1)=W5 (k'+1)*a.length+W5 (k'+1)*2+W5 (k'+1)*(l.length-(e+1)):=by
        rw[←Nat.mul_add,←Nat.mul_add];congr 1;omega
       obtain⟨o2,u2,sn2,lg2,y0,y1,y2,y3,y4,y5,y6,y7,vs2,se2,e2,t2,s2,hS2,hse2⟩:=zZ sI sS k' (hs k' rfl) L i0 e0 l hLl hd hle he0 mi ms rd at_ i e times (by omega) p3 hFi hm hms ht5 times 0 (by omega) o1 u sn lg f0 f1 f2 f3 f4 f5 f6 f7 vs se _ t1 hS hse (by rw[hAl];omega);rw[hAl]at t2;obtain⟨o3,u3,sn3,lg3,p0,p1,p2,p3,p4,p5,p6,p7,vs3,se3,e3,t3,s3,hS3,hse3⟩:=ih (l.length-(e+1)) (by omega) (e+1) (by omega) hFe o2 u2 sn2 lg2 y0 y1 y2 y3 y4 y5 y6 y7 vs2 se2 _ t2 hS2 hse2 (by omega);refine⟨o3,u3,sn3,lg3,p0,p1,p2,p3,p4,p5,p6,p7,vs3,se3,?_,t3.mono (by omega),s1.trans (s2.trans s3),hS3,hse3⟩;rw[aA]
       by_cases h4:l[i].f0=4
       ·rw[if_pos h4]at htm;simp only[cM.tree,Tr.af,Tr.al,Tr.ag,Tr.ai,aX q,bJ q,aP q,and_self,decide_eq_false h6,decide_eq_true hop,decide_eq_true h4,decide_true,Bool.not_true,Bool.false_eq_true,↓reduceIte,cu.told,e1,bI.told,jC,dN.told,hend,kr.told,htm,ae];exact e2.trans e3
       ·rw[if_neg h4]at htm;have htm':l[i].f2=(times:Int):=Option.some.inj htm;rw[htm']at e1;simp only[cM.tree,Tr.af,Tr.al,Tr.ag,Tr.ai,aX q,bJ q,aP q,and_self,decide_eq_false h6,decide_eq_true hop,decide_eq_false h4,decide_true,Bool.not_true,Bool.false_eq_true,↓reduceIte,cu.told,e1,bI.told,jC,dN.told,hend,htm',ae];exact e2.trans e3
      ·obtain⟨rb,o1,u1,sn1,lg1,g0,g1,g2,g3,g4,g5,g6,g7,vs1,se1,e1,t1,s1,hS1,hse1⟩:=BJ (B:=B') sS L (i0+i) e0 qL (by omega) hLl mi ms rd at_ o u t tl sn lg f0 f1 f2 f3 f4 f5 f6 f7 vs se b (by omega) hT (by rw[hgL];exact hok) (by rw[hgL];exact h6) (by rw[hgL];exact hop) hm hms hS hse;rw[hgL]at e1;obtain⟨o2,u2,sn2,lg2,y0,y1,y2,y3,y4,y5,y6,y7,vs2,se2,e2,t2,s2,hS2,hse2⟩:=ih r' (by omega) (i+1) (by omega) hF' o1 u1 sn1 lg1 g0 g1 g2 g3 g4 g5 g6 g7 vs1 se1 _ t1 hS1 hse1 (by omega);refine⟨o2,u2,sn2,lg2,y0,y1,y2,y3,y4,y5,y6,y7,vs2,se2,?_,t2.mono (by omega),s1.trans s2,hS2,hse2⟩;rw[aA];simp only[cM.tree,Tr.af,Tr.al,Tr.ag,Tr.ai,aX q,bJ q,aP q,and_self,decide_eq_false h6,decide_eq_false hop,decide_true,Bool.not_false,Bool.false_eq_true,↓reduceIte,cu.told,e1,bI.told,jC,ae,w];exact e2
    ·obtain rfl:i=l.length:=by omega
     refine⟨o,u,sn,lg,f0,f1,f2,f3,f4,f5,f6,f7,vs,se,?_,hT.mono (by omega),?_,hS,hse⟩
     ·rw[aA];simp only[cM.tree,Tr.af,Tr.ak,cO,Bool.false_eq_true,↓reduceIte]
     ·rw[aA,hle];simp only[aq.tree,Tr.af,Tr.ak,cO,Bool.false_eq_true,↓reduceIte]
 exact key l.length 0 (by omega) hF o u sn lg f0 f1 f2 f3 f4 f5 f6 f7 vs se B hT hS hse hB
theorem B2 {n:Nat} {M:List Int} {t tl:Int} (b:pw n t tl M) (l:List aw) (mi ms rd:List Int) (at_:Int) (o:List aL) (u:List Int) (sn:Int) (lg:List Int) (f0 f1 f2 f3 f4 f5 f6 f7:Bool) (vs se:List Int) (hb:okB l.length l 0=true) (hm:mi.length≤1048576) (hms:ms.length≤1048576) (hT:TI n t tl M 0 o u sn lg [f0,f1,f2,f3,f4,f5,f6,f7] vs) (hS:Sy mi ms lg [f0,f1,f2,f3,f4,f5,f6,f7]) (hse:(se.length:Int)=sn):
 ∃o' u' sn' lg' g0 g1 g2 g3 g4 g5 g6 g7 vs' se',cM.f l mi rd at_ o u t tl sn lg f0 f1 f2 f3 f4 f5 f6 f7 vs=some (mi,rd,at_,o',u',t,tl,sn',lg',g0,g1,g2,g3,g4,g5,g6,g7,vs')∧TI n t tl M 18000 o' u' sn' lg' [g0,g1,g2,g3,g4,g5,g6,g7] vs'∧
  aq.f l 0 (l.length:Int) vs se u [] rd at_ true o ms lg t tl=some (vs',se',u',[],rd,at_,true,o',ms,lg',t,tl)∧(se'.length:Int)=sn':=by
 have h0:=nR b (Self.iter cM.step 4) (Self.iter aq.step 4) 0 (by omega) (fun k' h=>absurd h (by omega));have h1:=nR b (Self.iter cM.step 5) (Self.iter aq.step 5) 1 (by omega) (fun k' h=>by cases h;exact h0);have h2:=nR b (Self.iter cM.step 6) (Self.iter aq.step 6) 2 (by omega) (fun k' h=>by cases h;exact h1);have h3:=nR b (Self.iter cM.step 7) (Self.iter aq.step 7) 3 (by omega) (fun k' h=>by cases h;exact h2);obtain⟨c1,c2,c3⟩:=kg _ _ _ hb;have hW:W5 3=750:=rfl;obtain⟨o',u',sn',lg',g0,g1,g2,g3,g4,g5,g6,g7,vs',se',e,t',s',_,hse'⟩:=h3 l 0 l.length l mi ms rd at_ o u sn lg f0 f1 f2 f3 f4 f5 f6 f7 vs se 0 (by omega) (by simp) (by omega) (Nat.le_refl _) ⟨0,by omega,c1,c2⟩ hm hms (by rw[hW];omega) hT hS hse;exact⟨o',u',sn',lg',g0,g1,g2,g3,g4,g5,g6,g7,vs',se',e,t'.mono (by rw[hW];omega),s',hse'⟩
theorem zK {p:List bR} (hp:tJ p=true) {t:Int} (ht:0≤t∧t<(p.length:Int)):pM (cS p t).f1.f0 (cS p t).f1.f1 (cS p t).f1.f2=true:=by
 obtain⟨i,rfl⟩:∃i:Nat,t=i:=⟨t.toNat,by omega⟩;have hi:i<p.length:=by omega
 have e:cS p (i:Int)=p[i]:=aP hi;unfold tJ at hp;rw[Bool.and_eq_true,List.all_eq_true]at hp;have:=hp.1 _ (List.getElem_mem hi);unfold Dp at this;rw[Bool.and_eq_true]at this;rw[e];exact this.2
theorem wD {p:List bR} {vs:List Int} {t:Int} (hp:tJ p=true) (hl:p.length≤1048576) (hs:∀t∈p,t.f0.length≤1048576) (hv:Ao vs=true) (ht:0≤t∧t<(p.length:Int)):∃v,gm.f p vs t=some v∧dB.f p vs t=some v∧0≤v∧v<(p.length:Int):=by
 obtain⟨v1,v2⟩:=nN.mp hv;obtain⟨e,ee,es,he⟩:=pD (vs:=vs) (cS p t).f1.f0 (cS p t).f1.f1 (cS p t).f1.f2 hv (zK hp ht);have w1:wr ((p.length:Int)-1)=(p.length:Int)-1:=bZ (by omega);have n0:¬(p.length:Int)=0:=by omega
 have hb:fF t 0 ((p.length:Int)-1)=true:=by rw[ba];omega
 have hvv:(vs.all isVal&&decide ((vs.length:Int)=8))=true:=by rw[v1,decide_eq_true (by omega)];rfl
 have r1: -(p.length:Int)<Int.tmod e (p.length:Int)∧Int.tmod e (p.length:Int)<(p.length:Int):=by
  refine⟨?_,Int.tmod_lt_of_pos _ (by omega)⟩;have:=Int.tmod_lt_of_pos (-e) (show 0<(p.length:Int) by omega);rw[Int.neg_tmod]at this;omega
 have w2:wr (Int.tmod e (p.length:Int)+(p.length:Int))=Int.tmod e (p.length:Int)+(p.length:Int):=bZ (by omega);generalize hr:Int.tmod e (p.length:Int)=r at r1 w2
 have hv2:Int.tmod (r+(p.length:Int)) (p.length:Int)=if r<0 then r+(p.length:Int)else r:=by
  rw[Int.tmod_eq_emod_of_nonneg (by omega)];split
  ·exact Int.emod_eq_of_lt (by omega) (by omega)
  ·rw[Int.add_emod_right];exact Int.emod_eq_of_lt (by omega) (by omega)
 have hv3:0≤(if r<0 then r+(p.length:Int)else r)∧(if r<0 then r+(p.length:Int)else r)<(p.length:Int):=by
  by_cases q:r<0
  ·rw[if_pos q];omega
  ·rw[if_neg q];omega
 refine⟨if r<0 then r+(p.length:Int)else r,?_,?_,hv3⟩
 ·simp only[gm.f,gm.begin,Tr.ag,Tr.af,Tr.al,Tr.fZ,Tr.ak,jH.told,jH.f,jH.begin,cQ.told,np p hl hs,hp,ae,aG.told,cV,w1,hb,iv.told,qq vs (by omega),hvv,Bool.not_true,Bool.false_eq_true,↓reduceIte,ht,and_self,dV.told,ee,ne_eq,n0,not_false_eq_true,hr,w2,hv2]
 ·by_cases q:r<0
  ·simp only[dB.f,dB.begin,Tr.al,Tr.aZ,Tr.ag,Tr.af,Tr.ak,ht,and_self,↓reduceIte,cf.told,es,ae,ne_eq,n0,not_false_eq_true,hr,w2,q,decide_true,↓reduceIte]
  ·simp only[dB.f,dB.begin,Tr.al,Tr.aZ,Tr.ag,Tr.af,Tr.ak,ht,and_self,↓reduceIte,cf.told,es,ae,ne_eq,n0,not_false_eq_true,hr,q,decide_false,Bool.false_eq_true,↓reduceIte]
set_option maxHeartbeats 4000000 in
theorem u7 {p:List bR} {m:List Int} (rd:List Int) (at_:Int) (hp:tJ p=true) (hl:p.length≤6) (hs:∀t∈p,t.f0.length≤1048576) (hm:Clean p.length m):∃o u,fQ.f p m rd at_=some (o,u)∧DO p.length m o u∧dD.f p m rd at_=some (o,u):=by
 obtain⟨t,tl,hu,hb,hr⟩:=hm.base;have htn:(0:Int)≤t∧t<(p.length:Int):=⟨hb.t0.1,hb.t0.2.1⟩;obtain⟨c1,c2⟩:=Cd hp htn;obtain⟨mi,ms,em,ems,hmi,hms,hmm⟩:=yu (cS p t).f0 (cS p t).f1.f0 (cS p t).f1.f1 (cS p t).f1.f2 (by omega) c1 (zK hp htn);obtain⟨_,_,_,_,_,_,_,_,_,h8,_⟩:=kK hm.1;have hm49:=hb.len;have hmv:dx.f m=some (m.take 8):=by rw[oZ,if_pos hm49]
 have hsv:eE.f m=some (m.take 8):=by rw[vG,if_pos hm49]
 have hT:TI p.length t tl m 0 [] [] 0 [] [false,false,false,false,false,false,false,false] (m.take 8):=⟨⟨by simp,fun k=>by rw[List.take_nil];exact hr.gw hb⟩,hr,by simp,by simp,by simp,by omega,by simp,nN.mpr ⟨h8,by rw[List.length_take];omega⟩⟩
 have hS0:Sy mi ms [] [false,false,false,false,false,false,false,false]:=⟨hmm,fun k hk _=>⟨fun h=>(by
  rcases(show k=0∨k=1∨k=2∨k=3∨k=4∨k=5∨k=6∨k=7 by omega)with rfl | rfl | rfl | rfl | rfl | rfl | rfl | rfl<;>cases h),fun h=>(by simp at h)⟩⟩
 obtain⟨o1,u1,sn1,lg1,f0,f1,f2,f3,f4,f5,f6,f7,vs1,se1,e1,t1,s1,hse⟩:=B2 hb (cS p t).f0 mi ms rd at_ [] [] 0 [] false false false false false false false false (m.take 8) [] c1 hmi hms hT hS0 rfl;have e2:=jS 1 o1 u1 t tl sn1 lg1 f0 f1 f2 f3 f4 f5 f6 f7 vs1 (by have:=t1.mU;omega);have s2:=l5 1 vs1 se1 u1 [] rd at_ true o1 ms lg1 t tl (by have:=t1.mU;omega);have t2:=t1.work hb (c:=1) (by omega);obtain⟨nt,e3,s3,nt0,nt1⟩:=wD hp (by omega) hs t1.Bf htn;have hsn:=t1.run.s0;have hsB:=t1.BY;have htl:=hb.EN;have w1:wr (tl+sn1)=tl+sn1:=bZ (by omega);have e4:=fT 8 (pack nt 0 (if tl+sn1<24 then tl+sn1 else 24)) (o1++[(⟨1,-1,0⟩:aL)]) u1 t tl sn1 lg1 f0 f1 f2 f3 f4 f5 f6 f7 vs1 (by have:=t2.mU;omega);have s4:=ij 8 (pack nt 0 (if tl+sn1<24 then tl+sn1 else 24)) vs1 se1 u1 [] rd at_ true (o1++[(⟨1,-1,0⟩:aL)]) ms lg1 t tl (by have:=t2.mU;omega);have n1:(0:Int)≤8∧(8:Int)<(m.length:Int):=by omega
 obtain⟨hG,hU⟩:=t2.run.last hb hl ⟨nt0,nt1⟩ (tl':=if tl+sn1<24 then tl+sn1 else 24) rfl
 have hap:cG m ((o1++[(⟨1,-1,0⟩:aL)])++[(⟨3,8,pack nt 0 (if tl+sn1<24 then tl+sn1 else 24)⟩:aL)])=(cG m (o1++[(⟨1,-1,0⟩:aL)])).set 8 (pack nt 0 (if tl+sn1<24 then tl+sn1 else 24)):=by
  rw[iO,nC _ _ _ _ (by omega)];rfl
 have ho:=t2.mU;have hul:=t1.uK;refine⟨(o1++[(⟨1,-1,0⟩:aL)])++[(⟨3,8,pack nt 0 (if tl+sn1<24 then tl+sn1 else 24)⟩:aL)],u1,?_,⟨t2.safe.snoc ⟨by show(0:Int)≤3∧(3:Int)≤5;omega,by show(-1:Int)≤8∧(8:Int)<49;omega⟩ ?_,?_,t1.used,by omega,?_⟩,?_⟩
 ·simp only[fQ.f,fQ.begin,Tr.al,Tr.ag,Tr.fe,Tr.aZ,Tr.fZ,Tr.ai,n1,and_self,↓reduceIte,aS.told,gB,hu,ae,dx.told,hmv,htn,gn.told,em,cM.told,e1,eM.told,e2,gm.told,e3,bd.told,iR,w1,bO.told,e4,cr];rw[aA];simp only[fQ.tree,Tr.ak]
 ·have:=hG;rw[nC _ _ _ _ (by omega)];exact this
 ·rw[List.length_append,List.length_singleton];omega
 ·rw[hap];exact⟨hG.1,by rw[hU]⟩
 ·have fit:((List.length ([]:List Int):Int)+(u1.length:Int))*(8:Nat)≤room:=by unfold room;simp;omega
  simp only[dD.f,dD.begin,Tr.al,Tr.ag,Tr.fe,Tr.aZ,Tr.fZ,Tr.ai,n1,and_self,↓reduceIte,bc.told,iu,hu,ae,eE.told,hsv,htn,cU.told,ems,aq.told,s1,dA.told,s2,dB.told,s3,bn.told,iW,hse,w1,bS.told,s4,cr];rw[aA];simp only[dD.tree,Tr.fe,Tr.aZ,Tr.al,Tr.ak,fit,↓reduceIte,List.nil_append,cr]
theorem lH {p:List bR} (h:tJ p=true):p.length≤6∧1≤p.length∧∀t∈p,t.f0.length≤1048576:=by
 have h':=h;unfold tJ at h';rw[Bool.and_eq_true,List.all_eq_true,ba]at h';refine⟨by omega,by omega,fun t ht=> ?_⟩;have:=h'.1 t ht;unfold Dp at this;rw[Bool.and_eq_true]at this;have:=(kg _ _ _ this.1).2.2;omega
theorem gD (c:Int) (m:List Int) (a:Int) (us:List (List Int)) (left:Int) (hc:0≤c) (hl:0≤left) (hb:left≤9223372036854775807):bC.f c m a us left=some (if left<c then(false,m,a,us,left)else(true,m,a,us,left-c)):=by
 by_cases q:left<c
 ·simp only[bC.f,bC.begin,Tr.af,Tr.ak,decide_eq_true q,q,decide_true,↓reduceIte]
 ·have w:wr (left-c)=left-c:=bZ (by omega);simp only[bC.f,bC.begin,Tr.af,Tr.ak,decide_eq_false q,q,w,decide_false,Bool.false_eq_true,↓reduceIte]
theorem td (m:List Int):∀(i:Nat) (acc:List fG),(∀j,j<i→jg m j=true)→(∀w∈acc,(0≤w.f0∧w.f0≤7)∧isVal w.f1=true)→∃l,sc m i acc=some l∧∀w∈l,(0≤w.f0∧w.f0≤7)∧isVal w.f1=true
 | 0,acc,_,ha=>⟨acc,rfl,ha⟩
 | i+1,acc,h,ha=>by
   have hp:=h i (by omega);unfold jg at hp;rw[Bool.and_eq_true]at hp
   obtain⟨l,e,hl⟩:=td m i (acc++[(⟨cT m (9+2*(i:Int)),cT m (9+2*(i:Int)+1)⟩:fG)]) (fun j hj=>h j (by omega)) (fun w hw=>by
    rcases List.mem_append.mp hw with hw | hw
    ·exact ha w hw
    ·rw[List.mem_singleton]at hw;rw[hw];exact⟨ba.mp hp.1,hp.2⟩)
   refine⟨l,?_,hl⟩;unfold sc;rw[if_pos hp.1];exact e
structure xX (M m:List Int):Prop where
 len:m.length=49
 rest:∀i:Nat,8≤i→m.getD i 0=M.getD i 0
 var:∀i:Nat,i<8→isVal (m.getD i 0)=true
theorem xf {m:List Int} (hm:m.length=49) (h:∀i:Nat,i<8→isVal (m.getD i 0)=true):(m.take 8).all isVal=true:=by
 rw[List.all_eq_true];intro x hx;obtain⟨i,hi,rfl⟩:=List.mem_iff_getElem.mp hx;rw[List.length_take]at hi;have:=h i (by omega);rw[List.getD_eq_getElem?_getD,List.getElem?_eq_getElem (by omega)]at this;rw[List.getElem_take];exact this
theorem xX.gw {n:Nat} {M m:List Int} (hM:ji n M=true) (h:xX M m):jq n M m:=by
 obtain⟨t,c,tl,hu,hc,hm,ht,hcc,htl,h8,hs,hl,hw⟩:=kK hM
 have e8:cT m 8=cT M 8:=by
  have:=h.rest 8 (by omega);rw[show(8:Int)=((8:Nat):Int)from rfl,ni,ni];exact this
 have hu':unpack (cT m 8)=(t,c,tl):=by rw[e8,hu]
 refine⟨pa h.len hu' ⟨ht.1,ht.2.1⟩ (xf h.len h.var) ?_ ?_,?_⟩
 ·rw[ng (tl:=tl) (by rw[hu']) htl.1];exact ux (fun i hi=>by rw[h.rest _ (by omega)];exact hs i hi)
 ·rw[List.all_eq_true];intro i hi;rw[List.mem_range]at hi;have:=hl i (by omega);rw[mx]at this⊢;rw[h.rest _ (by omega),h.rest _ (by omega)];exact this
 ·rw[jY h.len hu' htl.1,hw,yt h.len hm (fun i _=>h.rest _ (by omega))];exact List.prefix_rfl
theorem xX.set {M m:List Int} (h:xX M m) {j:Nat} {v:Int} (hj:j<8) (hv:isVal v=true):xX M (m.set j v) where
 len:=by rw[List.length_set];exact h.len
 rest:=fun i hi=>by have:=h.len;rw[fy (by omega),if_neg (by omega)];exact h.rest i hi
 var:=fun i hi=>by
  have:=h.len;rw[fy (by omega)];split
  ·exact hv
  ·exact h.var i hi
theorem xX.last {n:Nat} {M m:List Int} (hM:ji n M=true) (h:xX M m) {t c tl:Int} (hu:unpack (cT M 8)=(t,c,tl)):jq n M (m.set 8 (pack t 0 tl))∧Clean n (m.set 8 (pack t 0 tl)):=by
 obtain⟨t',c',tl',hu',hc,hm,ht,hcc,htl,h8,hs,hl,hw⟩:=kK hM;rw[hu]at hu';obtain⟨rfl,rfl,rfl⟩:t=t'∧c=c'∧tl=tl':=⟨congrArg Prod.fst hu',congrArg (fun x=>x.2.1) hu',congrArg (fun x=>x.2.2) hu'⟩;have hlen:=h.len;have hg:∀i:Nat,i≠8→(m.set 8 (pack t 0 tl)).getD i 0=m.getD i 0:=fun i hi=>by rw[fy (by omega),if_neg hi]
 have hl':(m.set 8 (pack t 0 tl)).length=49:=by rw[List.length_set];exact hlen
 have hu2:unpack (cT (m.set 8 (pack t 0 tl)) 8)=(t,0,tl):=by rw[show cT (m.set 8 (pack t 0 tl)) 8=pack t 0 tl from yf (by omega) rfl];exact mv (by omega) (by omega) (by omega)
 have ho:ji n (m.set 8 (pack t 0 tl))=true:=by
  refine pa hl' hu2 ⟨ht.1,ht.2.1⟩ (xf hl' (fun i hi=>by rw[hg i (by omega)];exact h.var i hi)) ?_ rfl;rw[ng (tl:=tl) (by rw[hu2]) htl.1];exact ux (fun i hi=>by rw[hg _ (by omega),h.rest _ (by omega)];exact hs i hi)
 refine⟨⟨ho,?_⟩,ho,by rw[hu2]⟩;rw[jY hl' hu2 htl.1,hw,yt hl' hm (fun i _=>by rw[hg _ (by omega)];exact h.rest _ (by omega))];exact List.prefix_rfl
theorem pg {n:Nat} {m:List Int} (hm:ji n m=true) (a:Int) (us:List (List Int)) (left:Int) (h0:0≤left) (hb:left≤1000000000):
 ∃b m' left',bj.f m a us left=some (b,m',a,us,left')∧jq n m m'∧(0≤left'∧left'≤left)∧(b=true→Clean n m'):=by
 obtain⟨t,c,tl,hu,hc,h49,ht,hcc,htl,h8,hs,hl,hw⟩:=kK hm;have hI:xX m m:=⟨h49,fun _ _=>rfl,fun i hi=>vd h49 h8 i hi⟩;simp only[bj.f,bj.begin,Tr.ag,Tr.ai,cP.told,kA,ae];have hrec:lD m=if c<1 then[]else sC m (sc m c.toNat []):=by unfold lD;rw[if_pos h49,hu]
 by_cases q1:c<1
 ·rw[hrec,if_pos q1,aA];simp only[bj.tree,Tr.af,Tr.ak,List.length_nil,cO,show decide ((0:Int)<((0:Nat):Int))=false from rfl,Bool.false_eq_true,↓reduceIte];exact⟨_,_,_,rfl,hI.gw hm,by omega,fun _=>⟨hm,by rw[hu];show c=0;omega⟩⟩
 ·obtain⟨l,el,hlv⟩:=td m c.toNat [] (fun j hj=>hl j (by omega)) (by simp);have hrl:lD m=l++[(⟨8,pack t 0 tl⟩:fG)]:=by rw[hrec,if_neg q1,el,sC,hu]
  have hlen:=wc m;generalize lD m=W at hrl hlen;have hWl:W.length=l.length+1:=by rw[hrl,List.length_append,List.length_singleton]
  have key:=upto W.length (fun j (s:List Int×Int)=>(j≤l.length→xX m s.1)∧(j=l.length+1→Clean n s.1)∧jq n m s.1∧0≤s.2∧s.2≤left) (fun j s=>lp bj.tree (.c2 W (W.length:Int) (j:Int) s.1 a us s.2)) (fun r=>∃b m' left',r=(b,m',a,us,left')∧jq n m m'∧(0≤left'∧left'≤left)∧(b=true→Clean n m')) (fun j hj s hs=>by
   obtain⟨s1,s2⟩:=s;obtain⟨hR,hC,hG,hl0,hl1⟩:=hs;simp only at hR hC hG hl0 hl1;rw[aA]
   by_cases q:j<W.length
   ·have hRj:=hR (by omega);have esp:=gD 3 s1 a us s2 (by omega) hl0 (by omega)
    by_cases q3:s2<3
    ·rw[if_pos q3]at esp;refine Or.inl ⟨(false,s1,a,us,s2),?_,_,_,_,rfl,hG,⟨hl0,hl1⟩,fun h=>by cases h⟩;simp only[bj.tree,Tr.af,Tr.al,Tr.ag,Tr.ak,aX q,bJ q,and_self,decide_true,↓reduceIte,bC.told,esp,ae,Bool.not_false]
    ·rw[if_neg q3]at esp
     have hjj:(0:Int)≤W[j].f0∧W[j].f0<(s1.length:Int)∧(j<l.length→W[j].f0≤7∧isVal W[j].f1=true)∧(j=l.length→W[j]=(⟨8,pack t 0 tl⟩:fG)):=by
      have:=hRj.len
      by_cases qj:j<l.length
      ·have e:W[j]=l[j]:=by
        have:W[j]? =some l[j]:=by rw[hrl,List.getElem?_append_left qj,List.getElem?_eq_getElem qj]
        rw[List.getElem?_eq_getElem q]at this;exact Option.some.inj this
       have hv:=hlv l[j] (List.getElem_mem qj);rw[e];exact⟨hv.1.1,by omega,fun _=>⟨hv.1.2,hv.2⟩,fun h=>absurd h (by omega)⟩
      ·have e:W[j]=(⟨8,pack t 0 tl⟩:fG):=by
        have:W[j]? =some (⟨8,pack t 0 tl⟩:fG):=by rw[hrl,List.getElem?_append_right (by omega),show j-l.length=0 by omega];rfl
        rw[List.getElem?_eq_getElem q]at this;exact Option.some.inj this
       rw[e];exact⟨by show(0:Int)≤8;omega,by show(8:Int)<_;omega,fun h=>absurd h (by omega),fun _=>rfl⟩
     obtain⟨p0,p1,p2,p3⟩:=hjj;refine Or.inr ⟨q,(s1.set W[j].f0.toNat W[j].f1,s2-3),?_,?_,?_,?_,by show 0≤s2-3;omega,by show s2-3≤left;omega⟩
     ·simp only[bj.tree,Tr.af,Tr.al,Tr.ag,Tr.aZ,Tr.ai,aX q,bJ q,aP q,and_self,decide_true,↓reduceIte,bC.told,esp,ae,Bool.not_true,Bool.false_eq_true,p0,p1,aH (show j<4611686018427387904 by omega)]
     ·intro hj1;have:=p2 (by omega);exact hRj.set (by omega) this.2
     ·intro hj1;have e:=p3 (by omega);simp only[e];exact(hRj.last hm hu).2
     ·by_cases qj:j<l.length
      ·exact(hRj.set (by have:=(p2 qj).1;omega) (p2 qj).2).gw hm
      ·have e:=p3 (by omega);simp only[e];exact(hRj.last hm hu).1
   ·refine Or.inl ⟨(true,s1,a,us,s2),?_,_,_,_,rfl,hG,⟨hl0,hl1⟩,fun _=>hC (by omega)⟩;obtain rfl:j=W.length:=by omega
    simp only[bj.tree,Tr.af,Tr.ak,cO,Bool.false_eq_true,↓reduceIte]) 0 (by omega) (m,left) ⟨fun _=>hI,fun h=>absurd h (by omega),hI.gw hm,h0,Int.le_refl _⟩
  obtain⟨r,e,b,m',left',rfl,h⟩:=key;exact⟨b,m',left',e,h⟩
theorem jq.trans {n:Nat} {a b c:List Int} (h:jq n a b) (g:jq n b c):jq n a c:=⟨g.1,h.2.trans g.2⟩
theorem rG {p:List bR} {m:List Int} (rd:List Int) (a:Int) (us:List (List Int)) (left:Int) (hp:tJ p=true) (hl:p.length≤6) (hs:∀t∈p,t.f0.length≤1048576) (hm:Clean p.length m)
 (ha:0≤a∧a≤1000000000) (hu:us.length≤10000) (h0:0≤left∧left≤1000000000):
 ∃b m' a' us' left',bB.f p rd m a us left=some (b,m',a',us',left')∧jq p.length m m'∧(0≤left'∧left'≤left)∧(a≤a'∧a'-a≤left-left')∧(b=false→us'=us)∧
  (b=true→Clean p.length m'∧∃u,us'=us++[u]∧u.length≤20000∧∀x∈u,isVal x=true):=by
 obtain⟨o,u,eo,ho,_⟩:=u7 (m:=m) rd a hp hl hs hm;have holen:=ho.mU;have hm49:∀k,(cG m (o.take k)).length=49:=fun k=>(fh (ho.safe.2 k).1).1
 have key:=upto o.length (fun j (s:Int×Int)=>(a≤s.1∧s.1-a≤left-s.2)∧(0≤s.2∧s.2≤left)) (fun j s=>lp bB.tree (.c3 o u (o.length:Int) (j:Int) (cG m (o.take j)) s.1 us s.2)) (fun r=>∃b m' a' us' left',r=(b,m',a',us',left')∧jq p.length m m'∧(0≤left'∧left'≤left)∧(a≤a'∧a'-a≤left-left')∧(b=false→us'=us)∧(b=true→Clean p.length m'∧∃u,us'=us++[u]∧u.length≤20000∧∀x∈u,isVal x=true)) (fun j hj s hs=>by
  obtain⟨s1,s2⟩:=s;obtain⟨hA,hL⟩:=hs;simp only at hA hL;rw[aA]
  by_cases q:j<o.length
  ·obtain⟨⟨k0,k1⟩,k2,k3⟩:=ho.safe.1 o[j] (List.getElem_mem q);have esp:=gD o[j].f0 (cG m (o.take j)) s1 us s2 k0 hL.1 (by omega)
   by_cases q3:s2<o[j].f0
   ·rw[if_pos q3]at esp;refine Or.inl ⟨(false,cG m (o.take j),s1,us,s2),?_,_,_,_,_,_,rfl,ho.safe.2 j,hL,hA,fun _=>rfl,fun h=>by cases h⟩;simp only[bB.tree,Tr.af,Tr.al,Tr.ag,Tr.ak,aX q,bJ q,aP q,and_self,decide_true,↓reduceIte,bC.told,esp,ae,Bool.not_false]
   ·rw[if_neg q3]at esp;have e49:=hm49 j;have hnext:cG m (o.take (j+1))=mw (cG m (o.take j)) o[j]:=by rw[List.take_add_one,List.getElem?_eq_getElem q];exact iO m _ _
    have w1:wr (s1+1)=s1+1:=bZ (by omega);have wj:=aH (show j<4611686018427387904 by omega)
    by_cases qn:o[j].f1= -1
    ·have hmw:cG m (o.take (j+1))=cG m (o.take j):=by rw[hnext];unfold mw;rw[if_pos qn]
     by_cases q5:o[j].f0=5
     ·refine Or.inr ⟨q,(s1+1,s2-o[j].f0),?_,by show _∧s1+1-a≤left-(s2-o[j].f0);omega,by show 0≤s2-o[j].f0∧s2-o[j].f0≤left;omega⟩;simp only[hmw,bB.tree,Tr.af,Tr.al,Tr.ag,Tr.aZ,Tr.ai,Tr.ak,aX q,bJ q,aP q,and_self,decide_true,↓reduceIte,bC.told,esp,ae,Bool.not_true,Bool.false_eq_true,bq.told,bq.f,bq.begin,decide_eq_true qn,decide_eq_true q5,w1,wj]
     ·refine Or.inr ⟨q,(s1,s2-o[j].f0),?_,by show _∧s1-a≤left-(s2-o[j].f0);omega,by show 0≤s2-o[j].f0∧s2-o[j].f0≤left;omega⟩;simp only[hmw,bB.tree,Tr.af,Tr.al,Tr.ag,Tr.aZ,Tr.ai,Tr.ak,aX q,bJ q,aP q,and_self,decide_true,↓reduceIte,bC.told,esp,ae,Bool.not_true,Bool.false_eq_true,bq.told,bq.f,bq.begin,decide_eq_true qn,decide_eq_false q5,w1,wj]
    ·have hmw:cG m (o.take (j+1))=(cG m (o.take j)).set o[j].f1.toNat o[j].f2:=by rw[hnext];unfold mw;rw[if_neg qn]
     have n1:(0:Int)≤o[j].f1∧o[j].f1<((cG m (o.take j)).length:Int):=by omega
     refine Or.inr ⟨q,(s1,s2-o[j].f0),?_,by show _∧s1-a≤left-(s2-o[j].f0);omega,by show 0≤s2-o[j].f0∧s2-o[j].f0≤left;omega⟩;simp only[hmw,bB.tree,Tr.af,Tr.al,Tr.ag,Tr.aZ,Tr.ai,Tr.ak,aX q,bJ q,aP q,and_self,decide_true,↓reduceIte,bC.told,esp,ae,Bool.not_true,Bool.not_false,Bool.false_eq_true,bq.told,bq.f,bq.begin,decide_eq_false qn,n1,w1,wj]
  ·obtain rfl:j=o.length:=by omega
   refine Or.inl ⟨(true,cG m (o.take o.length),s1,us++[u],s2),?_,_,_,_,_,_,rfl,ho.safe.2 _,hL,hA,(fun h=>by cases h),fun _=>⟨by rw[List.take_length];exact ho.clean,u,rfl,ho.uK,ho.used⟩⟩;simp only[bB.tree,Tr.af,Tr.fe,Tr.aZ,Tr.al,Tr.ak,cO,Bool.false_eq_true,↓reduceIte,dH us u 1048576 (by omega) (by omega) 24 (by omega),cr]) 0 (by omega) (a,left) ⟨by show a≤a∧a-a≤left-left;omega,by show 0≤left∧left≤left;omega⟩
 obtain⟨r,e,b,m',a',us',left',rfl,h⟩:=key;refine⟨b,m',a',us',left',?_,h⟩;simp only[bB.f,bB.begin,Tr.fe,Tr.ag,Tr.aZ,Tr.ai,fQ.told,eo,ae,cr];exact e
def Al (us:List (List Int)):Prop:=us.length≤10∧∀u∈us,u.length≤20000∧∀x∈u,isVal x=true
theorem wz (b:List Int):iJ.f b=some (decide ((b.length:Int)>1048576)):=rfl
theorem yH {a b:List Int} (h:a<+:b):ri a b=true:=by
 unfold ri;rw[decide_eq_true h.length_le,decide_eq_true (List.prefix_iff_eq_take.mp h)];rfl
theorem uJ (x b:Int) (hb:0≤b):∃c:Int,ek.f x 0 b=some c∧0≤c∧c≤b∧(c≤x∨c=0):=by
 simp only[ek.f,ek.begin,Tr.af,Tr.ak,decide_eq_true_eq];rw[if_neg (by omega)];refine⟨_,rfl,?_⟩
 by_cases h1:(0:Int)>x
 ·simp only[h1,↓reduceIte]
  by_cases h2:b<0
  ·omega
  ·simp only[h2,↓reduceIte];exact⟨Int.le_refl 0,hb,Or.inr trivial⟩
 ·simp only[h1,↓reduceIte]
  by_cases h2:b<x
  ·simp only[h2,↓reduceIte];omega
  ·simp only[h2,↓reduceIte];omega
theorem BR {a b:List Int}:ri a b=true↔a<+:b:=by
 refine⟨fun h=> ?_,yH⟩;unfold ri at h;rw[Bool.and_eq_true,decide_eq_true_eq,decide_eq_true_eq]at h;rw[List.prefix_iff_eq_take];exact h.2
theorem gv {p:List bR} {m r:List Int} {a3 a4 a5 a6 a7 a8 a9 a10:Int} {h:List Int} {a12:Int}:gh p m r a3 a4 a5 a6 a7 a8 a9 a10 h a12=true↔
 tJ p=true∧ji p.length m=true∧gH a4 a5 a6 a7=true∧r.all isVal=true∧(0≤a3∧a3≤400000)∧jV a8 a9=true∧((0≤a10∧a10≤(h.length:Int))∧h<+:cI m)∧(0≤a12∧a12≤100000):=by
 unfold gh kM;simp only[Bool.and_eq_true,ba,BR];exact⟨fun⟨⟨q1,q2⟩,q3,q4,q5,q6,q7,q8⟩=>⟨q1,q2,q3,q4,q5,q6,q7,q8⟩,fun⟨q1,q2,q3,q4,q5,q6,q7,q8⟩=>⟨⟨q1,q2⟩,q3,q4,q5,q6,q7,q8⟩⟩
theorem kd {a b c d:Int}:gH a b c d=true↔(1≤b∧b≤5000)∧(0≤a∧a≤b)∧(1≤c∧c≤b)∧(0≤d∧d≤100):=by
 unfold gH;simp only[Bool.and_eq_true,ba]
theorem mm {a b:Int}:jV a b=true↔0≤a∧a≤b∧b≤1000000:=by
 unfold jV;simp only[Bool.and_eq_true,decide_eq_true_eq,ge_iff_le]
def dO (a:Int):Int:=if a+1<1000000 then a+1 else 1000000
theorem wJ (a b:Int) (h:jV a b=true):iN.f a b 1=some (dO a,dO b):=by
 obtain⟨h0,h1,h2⟩:=mm.mp h;have w1:wr (a+1)=a+1:=bZ (by omega);have w2:wr (b+1)=b+1:=bZ (by omega);have h11:jV 1 1=true:=rfl;simp only[iN.f,iN.begin,jz.told,jz.f,jz.begin,Tr.ag,Tr.af,Tr.ak,dZ.told,pT,h,h11,ae,Bool.not_true,Bool.false_eq_true,↓reduceIte,w1,w2,dO]
theorem wG {a b:Int} (h:jV a b=true):jV (dO a) (dO b)=true:=by
 rw[mm]at h⊢;unfold dO;split<;>split<;>omega
structure Ff (p:List bR) (m:List Int) (a3 a4 a5 a6 a7 a8 a9 a12:Int) (m':List Int) (b3 b4 b8 b9 b12:Int):Prop where
 gw:jq p.length m m'
 at_:a3≤b3∧b3≤a3+5000
 store:gH b4 a5 a6 a7=true
 low:b8=dO a8
 high:b9=dO a9
 done:a12≤b12∧b12≤a12+10
theorem sN {b:List Int} {i:Int} (h:Int) (c:mB b i):∃x y z w i' h',dU.f b i h=some (x,y,z,w,b,i',h')∧gH x y z w=true∧mB b i':=by
 obtain⟨x1,i1,j1,e1,a1,b1,c1⟩:=bp 400 h (by omega) c;obtain⟨x2,i2,j2,e2,a2,b2,c2⟩:=bp 4 j1 (by omega) c1;have w1:wr (20+x1)=20+x1:=bZ (by omega);have w2:wr (20+x1+1)=20+x1+1:=bZ (by omega);obtain⟨x3,i3,j3,e3,a3,b3,c3⟩:=bp (20+x1+1) j2 (by omega) c2;obtain⟨x4,i4,j4,e4,a4,b4,c4⟩:=bp (20+x1) j3 (by omega) c3;have w3:wr (1+x4)=1+x4:=bZ (by omega);simp only[dU.f,dU.begin,Tr.ag,Tr.ak,au.told,e1,e2,w1,w2,e3,e4,w3,ae];exact⟨_,_,_,_,_,_,rfl,kd.mpr ⟨by omega,by omega,by omega,by omega⟩,c4⟩
theorem BS {l:List Int} {n:Nat} (h:l.all isVal=true) (h8:l.length=8) (hn:1≤n):oC l=(l++List.replicate 41 0,true)∧ji n (l++List.replicate 41 0)=true∧cI (l++List.replicate 41 0)=[]:=by
 have e1:oC l=(l++List.replicate 41 0,true):=by
  unfold oC;rw[h,decide_eq_true (show(l.length:Int)=8 by omega)];rfl
 have hl:(l++List.replicate 41 (0:Int)).length=49:=by rw[List.length_append,List.length_replicate];omega
 have hall:(l++List.replicate 41 (0:Int)).all isVal=true:=by rw[List.all_append,h];rfl
 have h8':cT (l++List.replicate 41 (0:Int)) 8=0:=by
  rw[show(8:Int)=((8:Nat):Int)from rfl,ni,List.getD_eq_getElem?_getD,List.getElem?_append_right (by omega),h8];rfl
 have hu:unpack (cT (l++List.replicate 41 (0:Int)) 8)=(0,0,0):=by
  rw[h8'];have:=mv (a:=0) (b:=0) (c:=0) (by omega) (by omega) (by omega);exact this
 refine⟨e1,pa hl hu (by omega) (zD _ hall) (CS _ (zD _ hall)) rfl,?_⟩;rw[jY hl hu (by omega)];rfl
def pv:List aL→Int→Nat
 | [],_=>0
 | x::o,left=>if left<x.f0 then 0 else pv o (left-x.f0)+1
def dP (o:List aL):Int:=(o.map fun x=>x.f0).sum
def fM (o:List aL):Int:=((o.filter fun x=>decide (x.f1= -1)&&decide (x.f0=5)).length:Int)
theorem kF (o:List aL) (x:aL):dP (o++[x])=dP o+x.f0:=by unfold dP;simp
theorem tt (o:List aL) (x:aL):fM (o++[x])=fM o+(if x.f1= -1∧x.f0=5 then 1 else 0):=by
 unfold fM;rw[List.filter_append,List.length_append]
 by_cases h1:x.f1= -1
 ·by_cases h2:x.f0=5
  ·simp[h1,h2]
  ·simp[h1,h2]
 ·simp[h1]
theorem yi:∀(o:List aL) (left:Int),pv o left≤o.length
 | [],_=>Nat.le_refl _
 | x::o,left=>by
   unfold pv;split
   ·omega
   ·have:=yi o (left-x.f0);simp only[List.length_cons];omega
theorem rU:∀(o:List aL) (left:Int) (j:Nat),j<pv o left→∃h:j<o.length,dP (o.take j)+o[j].f0≤left
 | [],left,j,h=>absurd (show j<0 from h) (by omega)
 | x::o,left,j,h=>by
   unfold pv at h;split at h
   ·omega
   ·rename_i q;cases j with
    | zero=>exact⟨by simp,by show dP []+x.f0≤left;unfold dP;simp;omega⟩
    | succ j=>
      obtain⟨h1,h2⟩:=rU o (left-x.f0) j (by omega);refine⟨by simp;omega,?_⟩;show dP (x::o.take j)+o[j].f0≤left;have:dP (x::o.take j)=x.f0+dP (o.take j):=by unfold dP;simp
      omega
theorem uS:∀(o:List aL) (left:Int) (h:pv o left<o.length),left<dP (o.take (pv o left))+o[pv o left].f0
 | [],left,h=>absurd h (by simp)
 | x::o,left,h=>by
   by_cases q:left<x.f0
   ·have e:pv (x::o) left=0:=by unfold pv;rw[if_pos q]
    simp only[e,List.take_zero,List.getElem_cons_zero];unfold dP;simp;omega
   ·have e:pv (x::o) left=pv o (left-x.f0)+1:=by rw[pv,if_neg q]
    have h':pv o (left-x.f0)<o.length:=by rw[e]at h;simpa using h
    have:=uS o (left-x.f0) h';simp only[e,List.take_succ_cons,List.getElem_cons_succ];have:dP (x::o.take (pv o (left-x.f0)))=x.f0+dP (o.take (pv o (left-x.f0))):=by unfold dP;simp
    omega
theorem nj {o:List aL} (h:∀x∈o,pA x) (j:Nat):0≤dP (o.take j):=by
 induction j with
 | zero=>unfold dP;simp
 | succ j ih=>
   by_cases q:j<o.length
   ·rw[ir q,kF];have:=(h o[j] (List.getElem_mem q)).1.1;omega
   ·rw[List.take_of_length_le (by omega)];rw[List.take_of_length_le (by omega)]at ih;exact ih
theorem qz (o:List aL):0≤fM o∧fM o≤o.length:=by
 unfold fM;have:=List.length_filter_le (fun x:aL=>decide (x.f1= -1)&&decide (x.f0=5)) o;omega
def oq (m:List Int) (left:Int):Nat:=min (lD m).length (left / 3).toNat
theorem Dm {n:Nat} {m:List Int} (hm:ji n m=true):∀w∈lD m,0≤w.f0∧w.f0<49:=by
 obtain⟨t,c,tl,hu,hc,h49,ht,hcc,htl,h8,hs,hl,hw⟩:=kK hm;have hrec:lD m=if c<1 then[]else sC m (sc m c.toNat []):=by unfold lD;rw[if_pos h49,hu]
 by_cases q1:c<1
 ·rw[hrec,if_pos q1];simp
 ·obtain⟨l,el,hlv⟩:=td m c.toNat [] (fun j hj=>hl j (by omega)) (by simp);have hrl:lD m=l++[(⟨8,pack t 0 tl⟩:fG)]:=by rw[hrec,if_neg q1,el,sC,hu]
  intro w hw;rw[hrl]at hw;rcases List.mem_append.mp hw with hw | hw
  ·have:=(hlv w hw).1;omega
  ·rw[List.mem_singleton]at hw;rw[hw];show(0:Int)≤8∧(8:Int)<49;omega
theorem pN {n:Nat} {m:List Int} (hm:ji n m=true) (a:Int) (us:List (List Int)) (left:Int) (h0:0≤left) (hb:left≤1000000000):
 bj.f m a us left=some (decide (oq m left=(lD m).length),km m ((lD m).take (oq m left)),a,us,left-3*(oq m left:Int)):=by
 have h49:=(fh hm).1;have hin:=Dm hm;have hlen:=wc m;have hK:oq m left=min (lD m).length (left / 3).toNat:=rfl;generalize oq m left=k at hK;simp only[bj.f,bj.begin,Tr.ag,Tr.ai,cP.told,kA,ae];generalize lD m=W at hin hlen hK
 have key:∀(n j:Nat),j+n=k→lp bj.tree (.c2 W (W.length:Int) (j:Int) (km m (W.take j)) a us (left-3*(j:Int)))=some (decide (k=W.length),km m (W.take k),a,us,left-3*(k:Int)):=by
  intro n
  induction n with
  | zero=>
    intro j hj;obtain rfl:j=k:=by omega
    rw[aA]
    by_cases q:j<W.length
    ·have esp:=gD 3 (km m (W.take j)) a us (left-3*(j:Int)) (by omega) (by omega) (by omega);rw[if_pos (by omega)]at esp;simp only[bj.tree,Tr.af,Tr.al,Tr.ag,Tr.ak,aX q,bJ q,and_self,decide_true,↓reduceIte,bC.told,esp,ae,Bool.not_false,decide_eq_false (show¬j=W.length by omega)]
    ·have e:j=W.length:=by omega
     simp only[bj.tree,Tr.af,Tr.ak,e,cO,decide_true,Bool.false_eq_true,↓reduceIte]
  | succ n ih=>
    intro j hj;have q:j<W.length:=by omega
    rw[←ih (j+1) (by omega),aA];have esp:=gD 3 (km m (W.take j)) a us (left-3*(j:Int)) (by omega) (by omega) (by omega);rw[if_neg (by omega)]at esp;have hw:=hin W[j] (List.getElem_mem q);have hl:(km m (W.take j)).length=49:=by rw[wA,h49]
    have n1:(0:Int)≤W[j].f0∧W[j].f0<((km m (W.take j)).length:Int):=by omega
    have hnext:km m (W.take (j+1))=(km m (W.take j)).set W[j].f0.toNat W[j].f1:=by
     rw[ir q];unfold km;rw[List.foldl_append];show DD (km m (W.take j)) W[j]=_;unfold DD;rw[if_pos (ba.mpr (by omega))];rfl
    have hl3:left-3*(j:Int)-3=left-3*((j+1:Nat):Int):=by omega
    simp only[bj.tree,Tr.af,Tr.al,Tr.ag,Tr.aZ,Tr.ai,aX q,bJ q,aP q,and_self,decide_true,↓reduceIte,bC.told,esp,ae,Bool.not_true,Bool.false_eq_true,n1,aH (show j<4611686018427387904 by omega),hnext,hl3]
 have:=key k 0 (by omega);simp only[List.take_zero,Int.natCast_zero,Int.mul_zero,Int.sub_zero]at this;exact this
theorem sR {p:List bR} {m:List Int} (rd:List Int) (a:Int) (us:List (List Int)) (left:Int) {o:List aL} {u:List Int} (eo:fQ.f p m rd a=some (o,u)) (ho:DO p.length m o u)
 (ha:0≤a∧a≤1000000000) (hu:us.length≤10000) (h0:0≤left∧left≤1000000000):
 bB.f p rd m a us left=some (decide (pv o left=o.length),cG m (o.take (pv o left)),a+fM (o.take (pv o left)),if pv o left=o.length then us++[u]else us,left-dP (o.take (pv o left))):=by
 have holen:=ho.mU;have hm49:∀k,(cG m (o.take k)).length=49:=fun k=>(fh (ho.safe.2 k).1).1;simp only[bB.f,bB.begin,Tr.fe,Tr.ag,Tr.aZ,Tr.ai,fQ.told,eo,ae,cr];have hcb:=rU o left;have hcs:=uS o left;have hcl:=yi o left;generalize pv o left=k at hcb hcs hcl
 have key:∀(n j:Nat),j+n=k→lp bB.tree (.c3 o u (o.length:Int) (j:Int) (cG m (o.take j)) (a+fM (o.take j)) us (left-dP (o.take j)))=some (decide (k=o.length),cG m (o.take k),a+fM (o.take k),if k=o.length then us++[u]else us,left-dP (o.take k)):=by
  intro n
  induction n with
  | zero=>
    intro j hj;obtain rfl:j=k:=by omega
    rw[aA]
    by_cases q:j<o.length
    ·have hc0:=nj ho.safe.1 j
     have hc1:dP (o.take j)≤left:=by
      cases j with
      | zero=>unfold dP;simp;omega
      | succ j'=>
        obtain⟨h1,h2⟩:=hcb j' (by omega);rw[ir h1,kF];exact h2
     have esp:=gD o[j].f0 (cG m (o.take j)) (a+fM (o.take j)) us (left-dP (o.take j)) (ho.safe.1 o[j] (List.getElem_mem q)).1.1 (by omega) (by omega);have:=hcs q;rw[if_pos (by omega)]at esp;simp only[bB.tree,Tr.af,Tr.al,Tr.ag,Tr.ak,aX q,bJ q,aP q,and_self,decide_true,↓reduceIte,bC.told,esp,ae,Bool.not_false,decide_eq_false (show¬j=o.length by omega),if_neg (show¬j=o.length by omega)]
    ·have e:j=o.length:=by omega
     simp only[bB.tree,Tr.af,Tr.fe,Tr.aZ,Tr.al,Tr.ak,e,cO,Bool.false_eq_true,↓reduceIte,dH us u 1048576 (by omega) (by omega) 24 (by omega),cr,decide_true]
  | succ n ih=>
    intro j hj;obtain⟨q,hbear⟩:=hcb j (by omega);rw[←ih (j+1) (by omega),aA];obtain⟨⟨k0,k1⟩,k2,k3⟩:=ho.safe.1 o[j] (List.getElem_mem q);have hc0:=nj ho.safe.1 j;have hse:=qz (o.take j);rw[List.length_take]at hse;have esp:=gD o[j].f0 (cG m (o.take j)) (a+fM (o.take j)) us (left-dP (o.take j)) k0 (by omega) (by omega);rw[if_neg (by omega)]at esp;have e49:=hm49 j;have hnext:cG m (o.take (j+1))=mw (cG m (o.take j)) o[j]:=by rw[ir q];exact iO m _ _
    have hcn:dP (o.take (j+1))=dP (o.take j)+o[j].f0:=by rw[ir q,kF]
    have hsn:fM (o.take (j+1))=fM (o.take j)+(if o[j].f1= -1∧o[j].f0=5 then 1 else 0):=by rw[ir q,tt]
    have w1:wr (a+fM (o.take j)+1)=a+fM (o.take j)+1:=bZ (by omega);have wj:=aH (show j<4611686018427387904 by omega);have hcc:left-dP (o.take j)-o[j].f0=left-dP (o.take (j+1)):=by omega
    rw[hcc]at esp
    by_cases qn:o[j].f1= -1
    ·have hmw:cG m (o.take (j+1))=cG m (o.take j):=by rw[hnext];unfold mw;rw[if_pos qn]
     by_cases q5:o[j].f0=5
     ·have hs1:a+fM (o.take j)+1=a+fM (o.take (j+1)):=by rw[hsn,if_pos ⟨qn,q5⟩];omega
      rw[hmw,←hs1];simp only[bB.tree,Tr.af,Tr.al,Tr.ag,Tr.aZ,Tr.ai,Tr.ak,aX q,bJ q,aP q,and_self,decide_true,↓reduceIte,bC.told,esp,ae,Bool.not_true,Bool.false_eq_true,bq.told,bq.f,bq.begin,decide_eq_true qn,decide_eq_true q5,w1,wj]
     ·have hs1:fM (o.take (j+1))=fM (o.take j):=by rw[hsn,if_neg (by omega)];omega
      rw[hmw,hs1];simp only[bB.tree,Tr.af,Tr.al,Tr.ag,Tr.aZ,Tr.ai,Tr.ak,aX q,bJ q,aP q,and_self,decide_true,↓reduceIte,bC.told,esp,ae,Bool.not_true,Bool.false_eq_true,bq.told,bq.f,bq.begin,decide_eq_true qn,decide_eq_false q5,w1,wj]
    ·have hmw:cG m (o.take (j+1))=(cG m (o.take j)).set o[j].f1.toNat o[j].f2:=by rw[hnext];unfold mw;rw[if_neg qn]
     have n1:(0:Int)≤o[j].f1∧o[j].f1<((cG m (o.take j)).length:Int):=by omega
     have hs1:fM (o.take (j+1))=fM (o.take j):=by rw[hsn,if_neg (by omega)];omega
     rw[hmw,hs1];simp only[bB.tree,Tr.af,Tr.al,Tr.ag,Tr.aZ,Tr.ai,Tr.ak,aX q,bJ q,aP q,and_self,decide_true,↓reduceIte,bC.told,esp,ae,Bool.not_true,Bool.not_false,Bool.false_eq_true,bq.told,bq.f,bq.begin,decide_eq_false qn,n1,w1,wj]
 have:=key k 0 (by omega);have hz1:fM ([]:List aL)=0:=rfl;have hz2:dP ([]:List aL)=0:=rfl;have hz3:cG m []=m:=rfl;simp only[List.take_zero,hz1,hz2,hz3,Int.add_zero,Int.sub_zero]at this;exact this
theorem u5 (x:Int) (h0:0≤x) (h1:x<4294967296):jU .i64 x 4294967295=x:=by
 unfold jU
 have h:(BitVec.ofInt (IntKind.bits .i64) x&&& BitVec.ofInt (IntKind.bits .i64) 4294967295).toNat=x.toNat:=by
  rw[BitVec.toNat_and]
  have e1:(BitVec.ofInt (IntKind.bits .i64) x).toNat=x.toNat:=by
   rw[BitVec.toNat_ofInt,Int.emod_eq_of_lt h0];exact Int.lt_trans h1 (by decide)
  have e2:(BitVec.ofInt (IntKind.bits .i64) 4294967295).toNat=2 ^ 32-1:=by decide
  rw[e1,e2,Nat.and_two_pow_sub_one_eq_mod];exact Nat.mod_eq_of_lt (by omega)
 rw[h,bZ (by omega)];omega
theorem uV (x:Int) (h0:0≤x) (h1:x<4294967296):shiftDown .i64 x 32=0:=by
 unfold shiftDown;have e:(2:Int) ^ (min (Int.toNat 32) (IntKind.bits .i64))=4294967296:=by decide
 rw[e,Int.fdiv_eq_ediv_of_nonneg x (by omega)];exact Int.ediv_eq_zero_of_lt h0 h1
theorem vN {o:List aL} (h:∀x∈o,pA x):∀(j:Nat),dP (o.take j)≤5*(j:Int)
 | 0=>by unfold dP;simp
 | j+1=>by
   have ih:=vN h j
   by_cases q:j<o.length
   ·rw[ir q,kF];have:=(h o[j] (List.getElem_mem q)).1.2;omega
   ·rw[List.take_of_length_le (by omega)];rw[List.take_of_length_le (by omega)]at ih;omega
theorem rY (o:List aL) (u:List Int) (left:Int) (ho:∀x∈o,pA x) (hol:o.length≤20000) (h0:0≤left∧left≤1000000000):b7.f o u left=some (pv o left:Int):=by
 simp only[b7.f,b7.begin,Tr.ai];have hcb:=rU o left;have hcs:=uS o left;have hcl:=yi o left;generalize pv o left=k at hcb hcs hcl;have q0:decide (left≥0)=true:=decide_eq_true h0.1;have n32:(0:Int)≤32:=by omega
 have zz:wr ((0:Int)+0)=0:=bZ (by omega);have hl32:=u5 left h0.1 (by omega);have hd32:=uV left h0.1 (by omega)
 have key:∀(n j:Nat),j+n=k→lp b7.tree (.c4 left o u (j:Int) (dP (o.take j)) 0)=some (k:Int):=by
  intro n
  induction n with
  | zero=>
    intro j hj;obtain rfl:j=k:=by omega
    rw[aA]
    by_cases q:j<o.length
    ·have hc0:=nj ho j;have hc5:=vN ho j;have hx:=(ho o[j] (List.getElem_mem q)).1;have hs:=hcs q;have w1:wr (dP (o.take j)+o[j].f0)=dP (o.take j)+o[j].f0:=bZ (by omega);have b1:=u5 o[j].f0 hx.1 (by omega);have d1:=uV o[j].f0 hx.1 (by omega);have b2:=u5 (dP (o.take j)+o[j].f0) (by omega) (by omega);have d2:=uV (dP (o.take j)+o[j].f0) (by omega) (by omega);have v3:decide ((0:Int)>0)=false:=rfl;have v4:decide ((0:Int)=0)=true:=rfl;have v5:decide (dP (o.take j)+o[j].f0>left)=true:=decide_eq_true hs;simp only[b7.tree,Tr.af,Tr.al,Tr.fZ,Tr.ak,aX q,bJ q,aP q,q0,n32,and_self,decide_true,↓reduceIte,b1,d1,w1,b2,d2,zz,hl32,hd32,v3,v4,v5,Bool.false_eq_true]
    ·have e:j=o.length:=by omega
     simp only[b7.tree,Tr.af,Tr.ak,e,cO,Bool.false_eq_true,↓reduceIte]
  | succ n ih=>
    intro j hj;obtain⟨q,hbear⟩:=hcb j (by omega);have hc0:=nj ho j;have hc5:=vN ho j;have hx:=(ho o[j] (List.getElem_mem q)).1;have w1:wr (dP (o.take j)+o[j].f0)=dP (o.take j)+o[j].f0:=bZ (by omega);have b1:=u5 o[j].f0 hx.1 (by omega);have d1:=uV o[j].f0 hx.1 (by omega);have b2:=u5 (dP (o.take j)+o[j].f0) (by omega) (by omega);have d2:=uV (dP (o.take j)+o[j].f0) (by omega) (by omega);have v3:decide ((0:Int)>0)=false:=rfl;have v4:decide ((0:Int)=0)=true:=rfl;have v5:decide (dP (o.take j)+o[j].f0>left)=false:=decide_eq_false (by omega);rw[←ih (j+1) (by omega),aA,show dP (o.take (j+1))=dP (o.take j)+o[j].f0 by rw[ir q,kF]];simp only[b7.tree,Tr.af,Tr.al,Tr.fZ,Tr.ai,aX q,bJ q,aP q,q0,n32,and_self,decide_true,↓reduceIte,b1,d1,w1,b2,d2,zz,hl32,hd32,v3,v4,v5,Bool.false_eq_true,aH (show j<4611686018427387904 by omega)]
 have:=key k 0 (by omega);have hz:dP ([]:List aL)=0:=rfl;simp only[List.take_zero,hz]at this;exact this
theorem sX (o:List aL) (u:List Int) (k:Nat) (hk:k≤o.length) (hol:o.length≤20000):cc.f o u (k:Int)=some (fM (o.take k)):=by
 simp only[cc.f,cc.begin,Tr.ai]
 have key:∀(n j:Nat),j+n=k→lp cc.tree (.c3 (k:Int) o u (fM (o.take j)) (j:Int))=some (fM (o.take k)):=by
  intro n
  induction n with
  | zero=>
    intro j hj;obtain rfl:j=k:=by omega
    rw[aA];simp only[cc.tree,Tr.af,Tr.ak,cO,Bool.false_eq_true,↓reduceIte]
  | succ n ih=>
    intro j hj;have q:j<o.length:=by omega
    have qk:j<k:=by omega
    have hse:=qz (o.take j);rw[List.length_take]at hse;have w1:wr (fM (o.take j)+1)=fM (o.take j)+1:=bZ (by omega);rw[←ih (j+1) (by omega),aA,show fM (o.take (j+1))=fM (o.take j)+(if o[j].f1= -1∧o[j].f0=5 then 1 else 0) by rw[ir q,tt]]
    by_cases qn:o[j].f1= -1
    ·by_cases q5:o[j].f0=5
     ·rw[if_pos ⟨qn,q5⟩];simp only[cc.tree,Tr.af,Tr.al,Tr.ai,aX qk,bJ q,aP q,and_self,decide_true,↓reduceIte,decide_eq_true qn,decide_eq_true q5,w1,aH (show j<4611686018427387904 by omega)]
     ·rw[if_neg (by omega),Int.add_zero];simp only[cc.tree,Tr.af,Tr.al,Tr.ai,aX qk,bJ q,aP q,and_self,decide_true,↓reduceIte,decide_eq_true qn,decide_eq_false q5,Bool.false_eq_true,aH (show j<4611686018427387904 by omega)]
    ·rw[if_neg (by omega),Int.add_zero];simp only[cc.tree,Tr.af,Tr.al,Tr.ai,aX qk,bJ q,aP q,and_self,decide_true,↓reduceIte,decide_eq_false qn,Bool.false_eq_true,aH (show j<4611686018427387904 by omega)]
 have:=key k 0 (by omega);have hz:fM ([]:List aL)=0:=rfl;simp only[List.take_zero,hz]at this;exact this
theorem wu {p:List bR} {m:List Int} (rd:List Int) (a:Int) (us:List (List Int)) (left:Int) {o:List aL} {u:List Int} (ho:DO p.length m o u) (h0:0≤left∧left≤1000000000):
 lp bw.tree (.c12 rd p [] 0 [] 0 m a us left (pv o left:Int) o u 0)=lp bw.tree (.c12 rd p [] 0 [] 0 (cG m (o.take (pv o left))) a us (left-dP (o.take (pv o left))) (pv o left:Int) o u (pv o left:Int)):=by
 have holen:=ho.mU;have hm49:∀k,(cG m (o.take k)).length=49:=fun k=>(fh (ho.safe.2 k).1).1;have hcb:=rU o left;generalize pv o left=k at hcb
 have key:∀(n j:Nat),j+n=k→lp bw.tree (.c12 rd p [] 0 [] 0 (cG m (o.take j)) a us (left-dP (o.take j)) (k:Int) o u (j:Int))=lp bw.tree (.c12 rd p [] 0 [] 0 (cG m (o.take k)) a us (left-dP (o.take k)) (k:Int) o u (k:Int)):=by
  intro n
  induction n with
  | zero=>
    intro j hj;obtain rfl:j=k:=by omega
    rfl
  | succ n ih=>
    intro j hj;obtain⟨q,hbear⟩:=hcb j (by omega);have qk:j<k:=by omega
    obtain⟨⟨k0,k1⟩,k2,k3⟩:=ho.safe.1 o[j] (List.getElem_mem q);have hc0:=nj ho.safe.1 j;have e49:=hm49 j;have hnext:cG m (o.take (j+1))=mw (cG m (o.take j)) o[j]:=by rw[ir q];exact iO m _ _
    have hcn:dP (o.take (j+1))=dP (o.take j)+o[j].f0:=by rw[ir q,kF]
    have wl:wr (left-dP (o.take j)-o[j].f0)=left-dP (o.take (j+1)):=by
     have:wr (left-dP (o.take j)-o[j].f0)=left-dP (o.take j)-o[j].f0:=bZ (by omega);rw[this];omega
    have wj:=aH (show j<4611686018427387904 by omega);rw[←ih (j+1) (by omega),aA]
    by_cases qn:o[j].f1= -1
    ·have hmw:cG m (o.take (j+1))=cG m (o.take j):=by rw[hnext];unfold mw;rw[if_pos qn]
     rw[hmw];simp only[bw.tree,Tr.af,Tr.al,Tr.aZ,Tr.ai,aX qk,bJ q,aP q,and_self,decide_true,↓reduceIte,decide_eq_true qn,Bool.not_true,Bool.false_eq_true,wl,wj]
    ·have hmw:cG m (o.take (j+1))=(cG m (o.take j)).set o[j].f1.toNat o[j].f2:=by rw[hnext];unfold mw;rw[if_neg qn]
     have n1:(0:Int)≤o[j].f1∧o[j].f1<((cG m (o.take j)).length:Int):=by omega
     rw[hmw];simp only[bw.tree,Tr.af,Tr.al,Tr.aZ,Tr.ai,aX qk,bJ q,aP q,and_self,decide_true,↓reduceIte,decide_eq_false qn,Bool.not_false,n1,wl,wj]
 have:=key k 0 (by omega);have hz2:dP ([]:List aL)=0:=rfl;have hz3:cG m []=m:=rfl;simp only[List.take_zero,hz2,hz3,Int.sub_zero]at this;exact this
theorem Bw {p:List bR} {m:List Int} (rd:List Int) (a left:Int) (hp:tJ p=true) (hl:p.length≤6) (hs:∀t∈p,t.f0.length≤1048576) (hm:ji p.length m=true) (ha:0≤a∧a≤900000000) (h0:0≤left∧left≤10000000):
 ∃m' a' us left',gP.f p m rd a left=some (m',a',us,left')∧jq p.length m m'∧(0≤left'∧left'≤left)∧(a≤a'∧a'-a≤left-left')∧Al us∧bw.f p m rd a left=some (m',a',us,left'):=by
 have h49:=(fh hm).1;obtain⟨b,m1,left1,e1,g1,l1,c1⟩:=pg hm a [] left h0.1 (by omega);have e1':=e1.symm.trans (pN hm a [] left h0.1 (by omega));simp only[Option.some.injEq,Prod.mk.injEq]at e1';obtain⟨hb,hm1,_,_,hl1⟩:=e1';have hW9:=wc m
 have hK:(if left / 3<((lD m).length:Int)then left / 3 else((lD m).length:Int))=(oq m left:Int):=by
  unfold oq;split<;>omega
 have htd:wr (Int.tdiv left 3)=left / 3:=by rw[Int.tdiv_eq_ediv_of_nonneg h0.1];exact bZ (by omega)
 have w3:wr ((oq m left:Int)*3)=(oq m left:Int)*3:=bZ (by unfold oq;omega)
 have wl:wr (left-(oq m left:Int)*3)=left1:=by
  have:wr (left-(oq m left:Int)*3)=left-(oq m left:Int)*3:=bZ (by unfold oq;omega);rw[this,hl1];omega
 have ea:=qU m (lD m) (oq m left) (by omega) (by omega);rw[←hm1]at ea;have n3:(3:Int)≠0:=by omega
 cases b with
 | false=>
   have hlt:(oq m left:Int)<((lD m).length:Int):=by
    have:=of_decide_eq_false hb.symm;unfold oq at this⊢;omega
   refine⟨m1,a,[],left1,?_,g1,l1,by omega,⟨by simp,by simp⟩,?_⟩
   ·simp only[gP.f,gP.begin,Tr.ag,Tr.af,Tr.ak,aI.told,eB m (by omega),bj.told,e1,ae,Bool.not_false,↓reduceIte]
   ·simp only[bw.f,bw.begin,Tr.ag,Tr.af,Tr.al,Tr.fZ,Tr.ak,aU.told,kD,ae,n3,ne_eq,not_false_eq_true,↓reduceIte,htd,hK,bF.told,ea,decide_eq_true hlt,w3,wl]
 | true=>
   have hge:¬(oq m left:Int)<((lD m).length:Int):=by
    have:=of_decide_eq_true hb.symm;omega
   have key:∀(n:Nat) (s1:List Int) (s2:Int) (s3:List (List Int)) (s4:Int),s3.length+n=10→Al s3→Clean p.length s1→jq p.length m s1→(a≤s2∧s2-a≤left-s4)→(0≤s4∧s4≤left)→
    ∃m' a' us left',lp gP.tree (.c4 rd p [] 0 [] 0 s1 s2 s3 s4)=some (m',a',us,left')∧jq p.length m m'∧(0≤left'∧left'≤left)∧(a≤a'∧a'-a≤left-left')∧Al us∧lp bw.tree (.c8 rd p [] 0 [] 0 s1 s2 s3 s4)=some (m',a',us,left'):=by
    intro n
    induction n with
    | zero=>
      intro s1 s2 s3 s4 hn hU hC hG hA hL;have q':decide ((s3.length:Int)<10)=false:=decide_eq_false (by omega);refine⟨s1,s2,s3,s4,?_,hG,hL,hA,hU,?_⟩
      ·rw[aA];simp only[gP.tree,Tr.af,Tr.ak,q',Bool.false_eq_true,↓reduceIte]
      ·rw[aA];simp only[bw.tree,Tr.af,Tr.ak,q',Bool.false_eq_true,↓reduceIte]
    | succ n ih=>
      intro s1 s2 s3 s4 hn hU hC hG hA hL;have q':decide ((s3.length:Int)<10)=true:=decide_eq_true (by omega);obtain⟨o,u,eo,ho,es⟩:=u7 rd s2 hp hl hs hC;obtain⟨b2,m2,a2,us2,left2,e2,g2,l2,A2,hf,ht⟩:=rG rd s2 s3 s4 hp hl hs hC (by omega) (by omega) (by omega);have e2':=e2.symm.trans (sR rd s2 s3 s4 eo ho (by omega) (by omega) (by omega));simp only[Option.some.injEq,Prod.mk.injEq]at e2';obtain⟨hb2,hm2,ha2,hus2,hl2⟩:=e2';have hol:=ho.mU;have hcl:=yi o s4;have ec:=rY o u s4 ho.safe.1 hol ⟨hL.1,by omega⟩;have eb:=wu rd s2 s3 s4 ho ⟨hL.1,by omega⟩;have esn:=sX o u (pv o s4) hcl hol
      have wa:wr (s2+fM (o.take (pv o s4)))=a2:=by
       rw[ha2];have:=qz (o.take (pv o s4));rw[List.length_take]at this;exact bZ (by omega)
      have espec:lp bw.tree (.c8 rd p [] 0 [] 0 s1 s2 s3 s4)=if(pv o s4:Int)<(o.length:Int)then some (m2,a2,s3,left2)else lp bw.tree (.c8 rd p [] 0 [] 0 m2 a2 (s3++[u]) left2):=by
       rw[aA];simp only[bw.tree,Tr.af,Tr.ag,Tr.ai,q',↓reduceIte,dD.told,es,b7.told,ec,ae];rw[eb,←hm2,←hl2,aA];simp only[bw.tree,Tr.af,Tr.aZ,Tr.ag,Tr.al,Tr.ak,Tr.ai,cO,Bool.false_eq_true,↓reduceIte,cc.told,esn,ae,wa,dH s3 u 1048576 (by omega) (by omega) 24 (by omega),decide_eq_true_eq]
      cases b2 with
      | false=>
        have hlt:(pv o s4:Int)<(o.length:Int):=by
         have:=of_decide_eq_false hb2.symm;omega
        refine⟨m2,a2,us2,left2,?_,hG.trans g2,by omega,by omega,by rw[hf rfl];exact hU,?_⟩
        ·rw[aA];simp only[gP.tree,Tr.af,Tr.ag,Tr.ak,q',↓reduceIte,bB.told,e2,ae,Bool.false_eq_true]
        ·rw[espec,if_pos hlt,hf rfl]
      | true=>
        have heq:=of_decide_eq_true hb2.symm;rw[if_pos heq]at hus2;obtain⟨hC2,u',hus,hul,huv⟩:=ht rfl
        obtain⟨m',a',us',left',r1,r2,r3,r4,r5,r6⟩:=ih m2 a2 us2 left2 (by rw[hus2,List.length_append,List.length_singleton];omega) ⟨by rw[hus2,List.length_append,List.length_singleton];omega,fun v hv=>by
         rw[hus]at hv;rcases List.mem_append.mp hv with hv | hv
         ·exact hU.2 v hv
         ·rw[List.mem_singleton]at hv;rw[hv];exact⟨hul,huv⟩⟩ hC2 (hG.trans g2) (by omega) (by omega)
        refine⟨m',a',us',left',?_,r2,r3,r4,r5,?_⟩
        ·rw[aA];simp only[gP.tree,Tr.af,Tr.ag,Tr.ai,q',↓reduceIte,bB.told,e2,ae];exact r1
        ·rw[espec,if_neg (by omega),←hus2];exact r6
   obtain⟨m',a',us',left',r1,r2,r3,r4,r5,r6⟩:=key 10 m1 a [] left1 rfl ⟨by simp,by simp⟩ (c1 rfl) g1 (by omega) l1;refine⟨m',a',us',left',?_,r2,r3,r4,r5,?_⟩
   ·simp only[gP.f,gP.begin,Tr.ag,Tr.af,Tr.ai,aI.told,eB m (by omega),bj.told,e1,ae,Bool.not_true,Bool.false_eq_true,↓reduceIte];exact r1
   ·simp only[bw.f,bw.begin,Tr.ag,Tr.af,Tr.al,Tr.fZ,Tr.ai,aU.told,kD,ae,n3,ne_eq,not_false_eq_true,↓reduceIte,htd,hK,bF.told,ea,decide_eq_false hge,Bool.false_eq_true,w3,wl];exact r6
theorem Av (x b:Int) (hb:0≤b):∃c:Int,ek.f x 0 b=some c∧dd.f x 0 b=some c∧0≤c∧c≤b∧(c≤x∨c=0):=by
 obtain⟨c,e,h0,h1,h2⟩:=uJ x b hb;refine⟨c,e,?_,h0,h1,h2⟩;have hb0:¬b<0:=by omega
 rw[←e]
 by_cases q1:x<0
 ·by_cases q2:b<0
  ·omega
  ·simp only[dd.f,dd.begin,ek.f,ek.begin,Tr.af,Tr.ak,decide_eq_true_eq,q1,q2,gt_iff_lt,↓reduceIte]
 ·by_cases q2:b<x
  ·simp only[dd.f,dd.begin,ek.f,ek.begin,Tr.af,Tr.ak,decide_eq_true_eq,q1,q2,hb0,gt_iff_lt,↓reduceIte]
  ·simp only[dd.f,dd.begin,ek.f,ek.begin,Tr.af,Tr.ak,decide_eq_true_eq,q1,q2,hb0,gt_iff_lt,↓reduceIte]
theorem wV (a b:Int) (h:jV a b=true):fk.f a b 1=some (dO a,dO b):=by
 obtain⟨h0,h1,h2⟩:=mm.mp h;have w1:wr (a+1)=a+1:=bZ (by omega);have w2:wr (b+1)=b+1:=bZ (by omega);have h11:fF 1 0 1000000=true:=rfl;simp only[fk.f,fk.begin,fO.told,fO.f,fO.begin,Tr.ag,Tr.af,Tr.ak,eY.told,ql,aC.told,dk,h,h11,ae,Bool.not_true,Bool.false_eq_true,↓reduceIte,w1,w2,dO]
theorem BD {p:List bR} {m r:List Int} {a3 a4 a5 a6 a7 a8 a9 a10:Int} {h:List Int} {a12:Int} (x:Int) (hn:gh p m r a3 a4 a5 a6 a7 a8 a9 a10 h a12=true) (hrr:r.length≤1048576) (hx:0≤x∧x≤1000):
 ∃m' b3 b4 b12,Ff p m a3 a4 a5 a6 a7 a8 a9 a12 m' b3 b4 (dO a8) (dO a9) b12∧(b12=a12∨a6≤a4+x)∧
  gh p m' r b3 b4 a5 a6 a7 (dO a8) (dO a9) a10 h b12=(fF b3 0 400000&&fF b12 0 100000)∧
  gq.f p m r a3 a4 a5 a6 a7 a8 a9 a10 h a12 x=some (if(fF b3 0 400000&&fF b12 0 100000)=true then(p,m',r,b3,b4,a5,a6,a7,dO a8,dO a9,a10,h,b12,true)else(p,m,r,a3,a4,a5,a6,a7,a8,a9,a10,h,a12,false))∧
  dq.f p m r a3 a4 a5 a6 a7 a8 a9 a10 h a12 x=some (if(fF b3 0 400000&&fF b12 0 100000)=true then(p,m',r,b3,b4,a5,a6,a7,dO a8,dO a9,a10,h,b12,true)else(p,m,r,a3,a4,a5,a6,a7,a8,a9,a10,h,a12,false)):=by
 obtain⟨hp,hm,hst,hr,ha3,hsp,hlk,ha12⟩:=gv.mp hn;obtain⟨p6,p1,hs⟩:=lH hp;obtain⟨s1,s2,s3,s4⟩:=kd.mp hst;have hm49:=(fh hm).1;have hml:m.length≤1048576:=by omega
 have hhl:h.length≤1048576:=Nat.le_trans hlk.2.length_le (gY m _ hml);have w1:wr (a4+x)=a4+x:=bZ (by omega);have w2:wr (a4+x-a7)=a4+x-a7:=bZ (by omega);obtain⟨c,ec,esc,c0,c1,c2⟩:=Av (a4+x-a7) a5 (by omega);have hxx:fF x 0 1000=true:=by rw[ba];omega
 have hi:gx.f x=some true:=by
  simp only[gx.f,gx.begin,Tr.ag,Tr.ak,aG.told,cV,hxx,ae]
 have hnode:∀(m':List Int) (b3 b4 b12:Int),jq p.length m m'→(a3≤b3)→gH b4 a5 a6 a7=true→a12≤b12→gh p m' r b3 b4 a5 a6 a7 (dO a8) (dO a9) a10 h b12=(fF b3 0 400000&&fF b12 0 100000):=by
  intro m' b3 b4 b12 hG h3 hst' h12;rw[Bool.eq_iff_iff,gv,Bool.and_eq_true,ba,ba];exact⟨fun⟨_,_,_,_,q5,_,_,q8⟩=>⟨q5,q8⟩,fun⟨q5,q8⟩=>⟨hp,hG.1,hst',hr,q5,wG hsp,⟨hlk.1,hlk.2.trans hG.2⟩,q8⟩⟩
 have e1:=og p m r a3 a4 a5 a6 a7 a8 a9 a10 h a12 (by omega) hs hml hrr hhl;have s1':=oA p m r a3 a4 a5 a6 a7 a8 a9 a10 h a12 (by omega) hs hml hrr hhl;have e2:=jN p m r a3 a4 a5 a6 a7 a8 a9 a10 h a12 (by omega) hs hml hrr hhl;have s2':=mH p m r a3 a4 a5 a6 a7 a8 a9 a10 h a12 (by omega) hs hml hrr hhl;rw[hn]at e2 s2'
 have fin':∀(m':List Int) (b3 b4 b12:Int) (y0:List bR) (y1 y2:List Int) (y3 y4 y5 y6 y7 y8 y9 y10:Int) (y11:List Int) (y12:Int),jq p.length m m'→(a3≤b3)→gH b4 a5 a6 a7=true→a12≤b12→
  lp gq.tree (.c9 p m r a3 a4 a5 a6 a7 a8 a9 a10 h a12 y0 y1 y2 y3 y4 y5 y6 y7 y8 y9 y10 y11 y12 p m' r b3 b4 a5 a6 a7 (dO a8) (dO a9) a10 h b12)=some (if(fF b3 0 400000&&fF b12 0 100000)=true then(p,m',r,b3,b4,a5,a6,a7,dO a8,dO a9,a10,h,b12,true)else(p,m,r,a3,a4,a5,a6,a7,a8,a9,a10,h,a12,false)):=by
  intro m' b3 b4 b12 y0 y1 y2 y3 y4 y5 y6 y7 y8 y9 y10 y11 y12 hG h3 hst' h12;have e3:=jN p m' r b3 b4 a5 a6 a7 (dO a8) (dO a9) a10 h b12 (by omega) hs (by have:=(fh hG.1).1;omega) hrr hhl;rw[hnode m' b3 b4 b12 hG h3 hst' h12]at e3;rw[aA];simp only[gq.tree,Tr.ag,Tr.af,Tr.ak,cy.told,e3,ae,fp.told,e1];cases(fF b3 0 400000&&fF b12 0 100000)<;>rfl
 have fins:∀(m':List Int) (b3 b4 b12:Int),jq p.length m m'→(a3≤b3)→gH b4 a5 a6 a7=true→a12≤b12→dJ.f p m r a3 a4 a5 a6 a7 a8 a9 a10 h a12 x=some (p,m',r,b3,b4,a5,a6,a7,dO a8,dO a9,a10,h,b12)→
  dq.f p m r a3 a4 a5 a6 a7 a8 a9 a10 h a12 x=some (if(fF b3 0 400000&&fF b12 0 100000)=true then(p,m',r,b3,b4,a5,a6,a7,dO a8,dO a9,a10,h,b12,true)else(p,m,r,a3,a4,a5,a6,a7,a8,a9,a10,h,a12,false)):=by
  intro m' b3 b4 b12 hG h3 hst' h12 ht;have e3:=mH p m' r b3 b4 a5 a6 a7 (dO a8) (dO a9) a10 h b12 (by omega) hs (by have:=(fh hG.1).1;omega) hrr hhl;rw[hnode m' b3 b4 b12 hG h3 hst' h12]at e3;simp only[dq.f,dq.begin,Tr.ag,Tr.af,Tr.ak,dY.told,s2',aC.told,dk,hxx,ae,Bool.not_true,Bool.false_eq_true,↓reduceIte,dJ.told,ht,e3,cE.told,s1'];cases(fF b3 0 400000&&fF b12 0 100000)<;>rfl
 have est:fW.f x p m r a3 a4 a5 a6 a7 a8 a9 a10 h a12=some (p,m,r,a3,c,a5,a6,a7,a8,a9,a10,h,a12):=by
  simp only[fW.f,fW.begin,Tr.aZ,Tr.ag,Tr.ak,w1,w2,ek.told,ec,ae]
 have est':eG.f a4 a5 a6 a7 x=some (c,a5,a6,a7):=by
  simp only[eG.f,eG.begin,Tr.ag,Tr.ak,w1,w2,dd.told,esc,ae]
 have epn:=wJ a8 a9 hsp;have spn:=wV a8 a9 hsp
 by_cases hc:c≥a6
 ·obtain⟨m',b3,us,left',eb,gb,lb,ab,ub,sb⟩:=Bw (m:=m) r a3 c hp (by omega) hs hm (by omega) (by omega);have hst':gH 0 a5 a6 a7=true:=kd.mpr ⟨s1,by omega,s3,s4⟩;have hul:=ub.1;have w3:wr (a12+(us.length:Int))=a12+(us.length:Int):=bZ (by omega);refine⟨m',b3,0,a12+(us.length:Int),⟨gb,by omega,hst',rfl,rfl,by omega⟩,Or.inr (by omega),hnode _ _ _ _ gb (by omega) hst' (by omega),?_,fins m' b3 0 _ gb (by omega) hst' (by omega) ?_⟩
  ·simp only[gq.f,gq.begin,Tr.ag,Tr.af,Tr.fe,Tr.aZ,Tr.ai,Tr.ak,fp.told,e1,cy.told,e2,gx.told,hi,fW.told,est,iN.told,epn,ae,Bool.not_true,Bool.false_eq_true,↓reduceIte,decide_eq_true hc,gP.told,eb,w3,cr,decide_true];exact fin' m' b3 0 (a12+(us.length:Int)) _ _ _ _ _ _ _ _ _ _ _ _ _ gb (by omega) hst' (by omega)
  ·simp only[dJ.f,dJ.begin,Tr.ag,Tr.af,Tr.ak,cE.told,s1',eG.told,est',fk.told,spn,ae,decide_eq_true hc,↓reduceIte,bw.told,sb,w3]
 ·have hst':gH c a5 a6 a7=true:=kd.mpr ⟨s1,by omega,s3,s4⟩;have g0:jq p.length m m:=⟨hm,List.prefix_rfl⟩;refine⟨m,a3,c,a12,⟨g0,by omega,hst',rfl,rfl,by omega⟩,Or.inl rfl,hnode _ _ _ _ g0 (by omega) hst' (by omega),?_,fins m a3 c a12 g0 (by omega) hst' (by omega) ?_⟩
  ·simp only[gq.f,gq.begin,Tr.ag,Tr.af,Tr.fe,Tr.aZ,Tr.ai,Tr.ak,fp.told,e1,cy.told,e2,gx.told,hi,fW.told,est,iN.told,epn,ae,Bool.not_true,Bool.false_eq_true,↓reduceIte,decide_eq_false hc];exact fin' m a3 c a12 _ _ _ _ _ _ _ _ _ _ _ _ _ g0 (by omega) hst' (by omega)
  ·simp only[dJ.f,dJ.begin,Tr.ag,Tr.af,Tr.ak,cE.told,s1',eG.told,est',fk.told,spn,ae,decide_eq_false hc,Bool.false_eq_true,↓reduceIte]
theorem tE {s:List Int}:∀(l:List (iA×Bool)) (g:List Int),g<+:s→(∀q∈l,∃i:Nat,q.1.f0=(i:Int)∧s[i]? =some q.1.f1)→g<+:l.foldl iK g∧l.foldl iK g<+:s
 | [],g,hg,_=>⟨List.prefix_rfl,hg⟩
 | q::l,g,hg,hl=>by
   obtain⟨i,hi,hv⟩:=hl q (by simp)
   have h1:g<+:iK g q∧iK g q<+:s:=by
    unfold iK rC;split
    ·split
     ·rename_i ha;split
      ·refine⟨List.prefix_append _ _,?_⟩;have:i=g.length:=by omega
       subst this;obtain⟨t,ht⟩:=hg;subst ht;rw[List.getElem?_append_right (Nat.le_refl _),Nat.sub_self]at hv;cases t with
       | nil=>cases hv
       | cons x t=>
         simp only[List.getElem?_cons_zero]at hv;cases hv;exact⟨t,by simp⟩
      ·exact⟨List.prefix_rfl,hg⟩
     ·exact⟨List.prefix_rfl,hg⟩
    ·exact⟨List.prefix_rfl,hg⟩
   obtain⟨h2,h3⟩:=tE l (iK g q) h1.2 (fun x hx=>hl x (by simp[hx]));exact⟨h1.1.trans h2,h3⟩
theorem Cx (s:List Int) (k:Int):∀q∈lP s k,∃i:Nat,q.f0=(i:Int)∧s[i]? =some q.f1:=by
 intro q hq;unfold lP at hq;split at hq
 ·rename_i hb;rw[ba]at hb;obtain⟨i,hi,rfl⟩:=List.mem_map.mp hq;rw[List.mem_range'_1]at hi;have h:i<s.length:=by omega
  refine⟨i,rfl,?_⟩;show s[i]? =some (cT s (i:Int));rw[List.getElem?_eq_getElem h,show cT s (i:Int)=s[i]from aP h]
 ·simp at hq
theorem BL (p:List bR) (m r:List Int) (a3 a4 a5 a6 a7 a8 a9 a10:Int) (h:List Int) (a12:Int) (k:List Bool) (b:Bool) (hn:gh p m r a3 a4 a5 a6 a7 a8 a9 a10 h a12=true) (hr:r.length≤1048576) (hk:k.length≤1048576):
 ∃x' h',gh p m r a3 a4 a5 a6 a7 a8 a9 x' h' a12=true∧jn.f p m r a3 a4 a5 a6 a7 a8 a9 a10 h a12 k b=some (p,m,r,a3,a4,a5,a6,a7,a8,a9,x',h',a12,true):=by
 obtain⟨hp,hm,hst,hrv,ha3,hsp,hlk,ha12⟩:=gv.mp hn;obtain⟨p6,p1,hs⟩:=lH hp;have hml:m.length≤1048576:=by have:=(fh hm).1;omega
 have hhl:h.length≤1048576:=Nat.le_trans hlk.2.length_le (gY m _ hml);have e:=p9 p m r a3 a4 a5 a6 a7 a8 a9 a10 h a12 k b (by omega) hs hml hr hhl hk;have hok:kM m a10 h=true:=by unfold kM;rw[ba.mpr hlk.1,yH hlk.2];rfl
 unfold vX at e;rw[if_pos hn]at e;refine⟨_,_,?_,e⟩;unfold kH;rw[if_pos hok];obtain⟨g1,g2⟩:=tE ((lP (cI m) a10).zip k) h hlk.2 (fun q hq=>Cx (cI m) a10 q.1 (List.of_mem_zip hq).1);have hge:=g1.length_le;refine gv.mpr ⟨hp,hm,hst,hrv,ha3,hsp,⟨?_,g2⟩,ha12⟩;show 0≤(if b=true then((kS h (lP (cI m) a10) k).length:Int)else a10)∧(if b=true then((kS h (lP (cI m) a10) k).length:Int)else a10)≤((kS h (lP (cI m) a10) k).length:Int);have:h.length≤(kS h (lP (cI m) a10) k).length:=hge;split<;>omega
theorem tU {b:List Int} {i:Int} (h:Int) (c:mB b i):∃l i' h',dh.f 3 b i h=some (l,b,i',h')∧l.length=3∧mB b i':=by
 simp only[dh.f,dh.begin,Tr.ai]
 have key:=upto 3 (fun k (s:List Bool×Int×Int)=>s.1.length=k∧mB b s.2.1) (fun k s=>lp dh.tree (.c3 3 s.1 (k:Int) b s.2.1 s.2.2)) (fun r=>∃l i' h',r=(l,b,i',h')∧l.length=3∧mB b i') (fun k hk s hs=>by
  obtain⟨s1,s2,s3⟩:=s;obtain⟨hs1,hs2⟩:=hs;simp only at hs1 hs2;rw[aA]
  by_cases q:k<3
  ·have q1:decide ((k:Int)<3)=true:=decide_eq_true (by omega);obtain⟨x,i1,j1,e1,c1⟩:=il 3 s3 (by omega) hs2;refine Or.inr ⟨q,(s1++[!x],i1,j1),?_,by show(s1++[!x]).length=k+1;rw[List.length_append,List.length_singleton];omega,c1⟩;simp only[dh.tree,Tr.af,Tr.al,Tr.ag,Tr.ai,q1,↓reduceIte,bx.told,e1,ae,dH s1 (!x) 1048576 (by omega) (by omega) 1 (by omega),aH (show k<4611686018427387904 by omega)]
  ·obtain rfl:k=3:=by omega
   refine Or.inl ⟨(s1,b,s2,s3),?_,_,_,_,rfl,hs1,hs2⟩;simp only[dh.tree,Tr.af,Tr.ak,show decide (((3:Nat):Int)<3)=false from rfl,Bool.false_eq_true,↓reduceIte]) 0 (by omega) ([],i,h) ⟨rfl,c⟩
 obtain⟨r,e,l,i',h',rfl,hl⟩:=key;exact⟨l,i',h',e,hl⟩
theorem zM (p:List bR) (m r:List Int) (a3 a4 a5 a6 a7 a8 a9 a10:Int) (h:List Int) (a12:Int) (k:List Bool) (b:Bool) (hn:gh p m r a3 a4 a5 a6 a7 a8 a9 a10 h a12=true) (hr:r.length≤1048576) (hk:k.length≤1048576):
 ∃x' h',gh p m r a3 a4 a5 a6 a7 a8 a9 x' h' a12=true∧jn.f p m r a3 a4 a5 a6 a7 a8 a9 a10 h a12 k b=some (p,m,r,a3,a4,a5,a6,a7,a8,a9,x',h',a12,true)∧eS.f p m r a3 a4 a5 a6 a7 a8 a9 a10 h a12 k b=some (p,m,r,a3,a4,a5,a6,a7,a8,a9,x',h',a12,true):=by
 obtain⟨hp,hm,hst,hrv,ha3,hsp,hlk,ha12⟩:=gv.mp hn;obtain⟨p6,p1,hs⟩:=lH hp;have hml:m.length≤1048576:=by have:=(fh hm).1;omega
 have hhl:h.length≤1048576:=Nat.le_trans hlk.2.length_le (gY m _ hml);obtain⟨x',h',h1,h2⟩:=BL p m r a3 a4 a5 a6 a7 a8 a9 a10 h a12 k b hn hr hk;have e:=p9 p m r a3 a4 a5 a6 a7 a8 a9 a10 h a12 k b (by omega) hs hml hr hhl hk;have e':=wE p m r a3 a4 a5 a6 a7 a8 a9 a10 h a12 k b (by omega) hs hml hr hhl hk;exact⟨x',h',h1,h2,e'.trans (e.symm.trans h2)⟩
set_option maxHeartbeats 2000000 in
theorem ud {b:List Int} {i:Int} (hh:Int) (c:mB b i):∃p m r a3 a4 a5 a6 a7 a8 a9 a10 h a12 i' h',bk.f b i hh=some (p,m,r,a3,a4,a5,a6,a7,a8,a9,a10,h,a12,b,i',h')∧gh p m r a3 a4 a5 a6 a7 a8 a9 a10 h a12=true∧r.length≤9∧a3≤30000∧a8≤6∧a12≤60:=by
 obtain⟨p,i2,j2,e2,hp,c2⟩:=qP hh c;obtain⟨a4,a5,a6,a7,i5,j5,e5,hst,c5⟩:=sN j2 c2;obtain⟨v,i3,j3,e3,hv,hv8,c3⟩:=tO j5 c5;obtain⟨r,i4,j4,e4,hr,hr1,hr9,c4⟩:=pK j3 c3;obtain⟨m1,m2,m3⟩:=BS (n:=p.length) hv hv8 hp.2.1;obtain⟨p6,p1,hs⟩:=lH hp.1
 have e7:aQ.f p v r a4 a5 a6 a7=some (p,v++List.replicate 41 0,r,0,a4,a5,a6,a7,0,0,0,[],0,true):=by
  rw[wo p v r a4 a5 a6 a7 (by omega) hs (by omega) (by omega)];unfold yg;rw[m1,hp.1,hst,hr];rfl
 have hn0:gh p (v++List.replicate 41 0) r 0 a4 a5 a6 a7 0 0 0 [] 0=true:=gv.mpr ⟨hp.1,m2,hst,hr,by omega,rfl,⟨by simp,List.nil_prefix⟩,by omega⟩
 have key:∀(k n:Nat),n+k=6→∀(m:List Int) (a3 a4 a8 a9 a10:Int) (h:List Int) (a12 ci ch:Int),gh p m r a3 a4 a5 a6 a7 a8 a9 a10 h a12=true→a3≤5000*(n:Int)→a8≤(n:Int)→a12≤10*(n:Int)→mB b ci→
  ∃m' b3 b4 b8 b9 b10 h' b12 i' ch',lp bk.tree (.c5 [] [] [] 0 0 0 0 0 0 0 0 [] 0 p m r a3 a4 a5 a6 a7 a8 a9 a10 h a12 (n:Int) b ci ch)=some (p,m',r,b3,b4,a5,a6,a7,b8,b9,b10,h',b12,b,i',ch')∧gh p m' r b3 b4 a5 a6 a7 b8 b9 b10 h' b12=true∧b3≤30000∧b8≤6∧b12≤60:=by
  intro k
  induction k with
  | zero=>
    intro n hn m a3 a4 a8 a9 a10 h a12 ci ch hok h3 h8 h12 hc;obtain⟨x,i1,j1,e1,x0,x1,c1⟩:=bp 6 ch (by omega) hc;have q:decide ((n:Int)<x)=false:=decide_eq_false (by omega);refine⟨m,a3,a4,a8,a9,a10,h,a12,i1,j1,?_,hok,by omega,by omega,by omega⟩;rw[aA];simp only[bk.tree,Tr.ag,Tr.af,Tr.ak,au.told,e1,ae,q,Bool.false_eq_true,↓reduceIte]
  | succ k ih=>
    intro n hn m a3 a4 a8 a9 a10 h a12 ci ch hok h3 h8 h12 hc;obtain⟨x,i1,j1,e1,x0,x1,c1⟩:=bp 6 ch (by omega) hc
    by_cases q:(n:Int)<x
    ·obtain⟨y,i2,j2,e2,hy,c2⟩:=jT [0,30,200] j1 (fun y=>0≤y∧y≤1000) (by simp) (by simp) c1;obtain⟨m',b3,b4,b12,hT,_,hN,_,e3⟩:=BD y hok (by omega) hy;have hT3:=hT.at_;have hTd:=hT.done;have v:=gv.mp hok;have ho8:dO a8=a8+1:=by unfold dO;rw[if_pos (by omega)]
     have hi:(fF b3 0 400000&&fF b12 0 100000)=true:=by rw[Bool.and_eq_true,ba,ba];omega
     rw[hi]at hN e3;rw[if_pos rfl]at e3;obtain⟨z,i3,j3,e4,c3⟩:=il 3 j2 (by omega) c2;have w:wr ((n:Int)+1)=((n+1:Nat):Int):=aH (by omega);cases z with
     | false=>
       obtain⟨m2,d3,d4,d8,d9,d10,h2,d12,i',ch',ee,r1,r2,r3,r4⟩:=ih (n+1) (by omega) m' b3 b4 (dO a8) (dO a9) a10 h b12 i3 j3 hN (by omega) (by omega) (by omega) c3;refine⟨m2,d3,d4,d8,d9,d10,h2,d12,i',ch',?_,r1,r2,r3,r4⟩;rw[aA];simp only[bk.tree,Tr.ag,Tr.af,Tr.fe,Tr.aZ,Tr.ai,au.told,e1,bW.told,e2,dq.told,e3,bx.told,e4,ae,decide_eq_true q,Bool.false_eq_true,↓reduceIte,cr];rw[aA];simp only[bk.tree,Tr.ai,w];exact ee
     | true=>
       obtain⟨kl,i4,j4,e5,hkl,c4⟩:=tU j3 c3;obtain⟨zb,i5,j5,e6,c5⟩:=il 2 j4 (by omega) c4;obtain⟨x',h',hok',_,e7⟩:=zM p m' r b3 b4 a5 a6 a7 (dO a8) (dO a9) a10 h b12 kl zb hN (by omega) (by omega);obtain⟨m2,d3,d4,d8,d9,d10,h2,d12,i',ch',ee,r1,r2,r3,r4⟩:=ih (n+1) (by omega) m' b3 b4 (dO a8) (dO a9) x' h' b12 i5 j5 hok' (by omega) (by omega) (by omega) c5;refine⟨m2,d3,d4,d8,d9,d10,h2,d12,i',ch',?_,r1,r2,r3,r4⟩;rw[aA];simp only[bk.tree,Tr.ag,Tr.af,Tr.fe,Tr.aZ,Tr.ai,au.told,e1,bW.told,e2,dq.told,e3,bx.told,e4,ae,decide_eq_true q,↓reduceIte,cr];rw[aA];simp only[bk.tree,Tr.ag,Tr.fe,Tr.aZ,Tr.ai,dh.told,e5,bx.told,e6,eS.told,e7,ae,cr];rw[aA];simp only[bk.tree,Tr.ai,w];exact ee
    ·refine⟨m,a3,a4,a8,a9,a10,h,a12,i1,j1,?_,hok,by omega,by omega,by omega⟩;rw[aA];simp only[bk.tree,Tr.ag,Tr.af,Tr.ak,au.told,e1,ae,decide_eq_false q,Bool.false_eq_true,↓reduceIte]
 obtain⟨m',b3,b4,b8,b9,b10,h',b12,i',ch',ee,r1,r2,r3,r4⟩:=key 6 0 (by omega) (v++List.replicate 41 0) 0 a4 0 0 0 [] 0 i4 j4 hn0 (by omega) (by omega) (by omega) c4;refine⟨p,m',r,b3,b4,a5,a6,a7,b8,b9,b10,h',b12,i',ch',?_,r1,hr9,r2,r3,r4⟩
 have e8:lp bk.tree (.c4 [] [] [] 0 0 0 0 0 0 0 0 [] 0 p (v++List.replicate 41 0) r 0 a4 a5 a6 a7 0 0 0 [] 0 b i4 j4)=some (p,m',r,b3,b4,a5,a6,a7,b8,b9,b10,h',b12,b,i',ch'):=by
  rw[aA];simp only[bk.tree,Tr.ai];exact ee
 have e9:lp bk.tree (.c3 [] [] [] 0 0 0 0 0 0 0 0 [] 0 p a4 a5 a6 a7 b i5 j5)=some (p,m',r,b3,b4,a5,a6,a7,b8,b9,b10,h',b12,b,i',ch'):=by
  rw[aA];simp only[bk.tree,bk.D4,bk.DV,bk.D7,bk.D5,Tr.ag,Tr.fe,Tr.aZ,Tr.ai,bE.told,e3,aD.told,e4,aQ.told,e7,ae,cr,e8]
 simp only[bk.f,bk.begin,Tr.ag,Tr.ai,cn.told,e2,dU.told,e5,ae,e9]
theorem si (b:List Int) (hb:b.length≤1048576):∃p m r a3 a4 a5 a6 a7 a8 a9 a10 h a12,dS.f b=some (p,m,r,a3,a4,a5,a6,a7,a8,a9,a10,h,a12)∧gh p m r a3 a4 a5 a6 a7 a8 a9 a10 h a12=true∧r.length≤9∧a3≤30000∧a8≤6∧a12≤60:=by
 obtain⟨hh,e1⟩:=uQ b hb;obtain⟨p,m,r,a3,a4,a5,a6,a7,a8,a9,a10,h,a12,i',h',e2,hn⟩:=ud (b:=b) (i:=0) hh ⟨hb,by omega⟩;refine⟨p,m,r,a3,a4,a5,a6,a7,a8,a9,a10,h,a12,?_,hn⟩;simp only[dS.f,dS.begin,Tr.ag,Tr.ak,eR.told,e1,bk.told,e2,ae]
abbrev Nd:=List bR×List Int×List Int×Int×Int×Int×Int×Int×Int×Int×Int×List Int×Int
def E9 (d:Nd):Prop:=gh d.1 d.2.1 d.2.2.1 d.2.2.2.1 d.2.2.2.2.1 d.2.2.2.2.2.1 d.2.2.2.2.2.2.1 d.2.2.2.2.2.2.2.1 d.2.2.2.2.2.2.2.2.1 d.2.2.2.2.2.2.2.2.2.1 d.2.2.2.2.2.2.2.2.2.2.1 d.2.2.2.2.2.2.2.2.2.2.2.1 d.2.2.2.2.2.2.2.2.2.2.2.2=true∧d.2.2.1.length≤100
theorem lz (l:List aw) (hl:l.length≤1048576):aT.f l l=some true:=by
 simp only[aT.f,aT.begin,Tr.af,Tr.ai,decide_true,Bool.not_true,Bool.false_eq_true,↓reduceIte]
 refine sQ l.length true (fun i=>lp aT.tree (.c4 l l (l.length:Int) (i:Int))) (fun i h=>by
  rw[aA];simp only[aT.tree,Tr.af,Tr.al,Tr.aZ,Tr.fZ,Tr.ai,aX h,bJ h,and_self,decide_true,Bool.and_self,↓reduceIte,Bool.not_true,Bool.false_eq_true,aH (show i<4611686018427387904 by omega)]) (by
  rw[aA];simp only[aT.tree,Tr.af,Tr.ak,cO,Bool.false_eq_true,↓reduceIte])
theorem jf (l:List bR) (hl:l.length≤1048576) (hs:∀t∈l,t.f0.length≤1048576):ar.f l l=some true:=by
 simp only[ar.f,ar.begin,Tr.af,Tr.ai,decide_true,Bool.not_true,Bool.false_eq_true,↓reduceIte]
 refine sQ l.length true (fun i=>lp ar.tree (.c4 l l (l.length:Int) (i:Int))) (fun i h=>by
  rw[aA];simp only[ar.tree,Tr.af,Tr.al,Tr.ag,Tr.ak,Tr.ai,aX h,bJ h,aP h,and_self,decide_true,↓reduceIte,eO.told,eO.f,eO.begin,aT.told,lz _ (hs _ (List.getElem_mem h)),ae,Bool.and_self,Bool.not_true,Bool.false_eq_true,aH (show i<4611686018427387904 by omega)]) (by
  rw[aA];simp only[ar.tree,Tr.af,Tr.ak,cO,Bool.false_eq_true,↓reduceIte])
theorem qI (d:Nd) (hd:E9 d):dR.f d.1 d.2.1 d.2.2.1 d.2.2.2.1 d.2.2.2.2.1 d.2.2.2.2.2.1 d.2.2.2.2.2.2.1 d.2.2.2.2.2.2.2.1 d.2.2.2.2.2.2.2.2.1 d.2.2.2.2.2.2.2.2.2.1 d.2.2.2.2.2.2.2.2.2.2.1 d.2.2.2.2.2.2.2.2.2.2.2.1 d.2.2.2.2.2.2.2.2.2.2.2.2 d.1 d.2.1 d.2.2.1 d.2.2.2.1 d.2.2.2.2.1 d.2.2.2.2.2.1 d.2.2.2.2.2.2.1 d.2.2.2.2.2.2.2.1 d.2.2.2.2.2.2.2.2.1 d.2.2.2.2.2.2.2.2.2.1 d.2.2.2.2.2.2.2.2.2.2.1 d.2.2.2.2.2.2.2.2.2.2.2.1 d.2.2.2.2.2.2.2.2.2.2.2.2=some true:=by
 have v:=gv.mp hd.1;obtain⟨p6,p1,hs⟩:=lH v.1;have hml:d.2.1.length≤1048576:=by have:=(fh v.2.1).1;omega
 have hhl:d.2.2.2.2.2.2.2.2.2.2.2.1.length≤1048576:=Nat.le_trans v.2.2.2.2.2.2.1.2.length_le (gY _ _ hml);have hr:=hd.2;have e1:=jf d.1 (by omega) hs;have e2:=iS d.2.1 d.2.1 hml rfl;have e3:=iS d.2.2.1 d.2.2.1 (by omega) rfl;have e4:=iS _ _ hhl rfl;simp only[dR.f,dR.begin,Tr.ag,Tr.af,Tr.fZ,Tr.ak,ar.told,e1,br.told,e2,e3,e4,ae,decide_true,Bool.and_self,↓reduceIte]
theorem lM (a b:List UInt8):bs a++bs b=bs (a++b):=by
 apply ByteArray.ext;simp[bs]
theorem lB (a:List UInt8):(bs a).size=a.length:=by simp[bs,ByteArray.size]
def sp (l:List Int):Nat→List UInt8
 | 0=>[]
 | i+1=>sp l i++([32]++Lib.itoa (l.getD i 0))
theorem B5 {l:List Int} (h:∀i,-9223372036854775808≤l.getD i 0∧l.getD i 0≤9223372036854775807):∀i,(sp l i).length≤22*i:=by
 intro i
 induction i with
 | zero=>exact Nat.le_refl 0
 | succ i ih=>
   have:=Lib.itoa_length_le (l.getD i 0) (h i).1 (h i).2;unfold sp;rw[List.length_append,List.length_append,List.length_singleton];omega
theorem CC (a b:ByteArray):(a==b)=decide (a=b):=by
 have h:(a==b)=(a.data==b.data):=rfl;rw[h,Bool.eq_iff_iff,beq_iff_eq,decide_eq_true_eq];exact⟨fun h=>ByteArray.ext h,fun h=>by rw[h]⟩
theorem DL (a b:ByteArray):(a !=b)= !decide (a=b):=by
 show(!(a==b))=_;rw[CC]
theorem lI {a b:ByteArray} (h:a.size+b.size≤100000000):(a.size:Int)+(b.size:Int)≤room:=by
 unfold room;omega
theorem gQ (x:Int) (h0: -9223372036854775808≤x) (h1:x≤9223372036854775807):bA.f x=some (bs (Lib.itoa x)):=by
 have e:strconv_Itoa.f x=some (bs (Lib.itoa x)):=if_pos ⟨h0,h1⟩;simp only[bA.f,bA.begin,Tr.ag,Tr.ak,strconv_Itoa.told,e,ae]
theorem xW (u:Nat):Lib.decDigits u≠[]:=by
 intro h;have:=Lib.decDigits_length u;have hp:=Lib.nDigits_pos u;rw[h]at this;simp at this;omega
theorem zA (w:List UInt8) (l:List Int) (hw:w.length≤1000000) (hl:l.length≤100000) (h:∀i,-9223372036854775808≤l.getD i 0∧l.getD i 0≤9223372036854775807) (i:Nat) (hi:i<l.length):
 lp bh.tree (.c3 (bs (w++sp l i)) l (l.length:Int) (i:Int))=lp bh.tree (.c3 (bs (w++sp l (i+1))) l (l.length:Int) ((i+1:Nat):Int)):=by
 have e:=gQ (l.getD i 0) (h i).1 (h i).2;have hp:=B5 h i;have hn:=Lib.itoa_length_le (l.getD i 0) (h i).1 (h i).2;have s1:=lI (a:=(⟨#[32]⟩:ByteArray)) (b:=bs (Lib.itoa (l.getD i 0))) (by rw[lB];show 1+_≤_;omega);have c1:(⟨#[32]⟩:ByteArray)++bs (Lib.itoa (l.getD i 0))=bs ([32]++Lib.itoa (l.getD i 0)):=lM [32] _;have s2:=lI (a:=bs (w++sp l i)) (b:=bs ([32]++Lib.itoa (l.getD i 0))) (by rw[lB,lB,List.length_append,List.length_append,List.length_singleton];omega);have c2:bs (w++sp l i)++bs ([32]++Lib.itoa (l.getD i 0))=bs (w++sp l (i+1)):=by rw[lM,List.append_assoc];rfl
 have hg:cT l (i:Int)=l.getD i 0:=rfl;rw[aA];simp only[bh.tree,Tr.af,Tr.al,Tr.ag,Tr.ai,aX hi,bJ hi,and_self,decide_true,↓reduceIte,hg,bA.told,e,ae,c1,s1,s2,c2,aH (show i<4611686018427387904 by omega)]
theorem qd (w:List UInt8) (l:List Int) (hw:w.length≤1000000) (hl:l.length≤100000) (h:∀i,-9223372036854775808≤l.getD i 0∧l.getD i 0≤9223372036854775807):bh.f (bs w) l=some (bs (w++sp l l.length)):=by
 simp only[bh.f,bh.begin,Tr.ai];have h0:bs w=bs (w++sp l 0):=by unfold sp;rw[List.append_nil]
 rw[h0];refine sQ l.length _ (fun i=>lp bh.tree (.c3 (bs (w++sp l i)) l (l.length:Int) (i:Int))) (fun i hi=>zA w l hw hl h i hi) ?_;rw[aA];simp only[bh.tree,Tr.af,Tr.ak,cO,Bool.false_eq_true,↓reduceIte]
theorem range_one {x:Int} (h: -9223372036854775808≤x∧x≤9223372036854775807):∀i,-9223372036854775808≤([x]:List Int).getD i 0∧([x]:List Int).getD i 0≤9223372036854775807
 | 0=>h
 | _+1=>⟨show(-9223372036854775808:Int)≤0 by decide,show(0:Int)≤9223372036854775807 by decide⟩
theorem kG (w:List UInt8) (x:Int) (hw:w.length≤1000000) (h: -9223372036854775808≤x∧x≤9223372036854775807):bh.f (bs w) [x]=some (bs (w++32::Lib.itoa x)):=
 qd w [x] hw (show 1≤100000 by decide) (range_one h)
def js (w:List UInt8) (x:Int):ByteArray:=bs (w++32::Lib.itoa x)
def pJ (t d s g a c lo hi:Int):List ByteArray:=
 [js [116,97,115,107] t,js [100,111,110,101] d,js [115,101,110,116] s,js [103,111,116] g,js [97,99,107,101,100] a,js [99,104,97,114,103,101] c,bs ([99,108,111,99,107,32]++(Lib.itoa lo++([46,46]++Lib.itoa hi)))]
def iI (x:Int):Prop:= -1000000000≤x∧x≤1000000000
theorem iI.wide {x:Int} (h:iI x): -9223372036854775808≤x∧x≤9223372036854775807:=by
 obtain⟨h1,h2⟩:=h;omega
theorem iI.len {x:Int} (h:iI x):(Lib.itoa x).length≤21:=Lib.itoa_length_le x h.wide.1 h.wide.2
theorem A0 (lo hi:Int) (h1:iI lo) (h2:iI hi):(((⟨#[99,108,111,99,107,32]⟩:ByteArray)++bs (Lib.itoa lo))++(⟨#[46,46]⟩:ByteArray))++bs (Lib.itoa hi)=bs ([99,108,111,99,107,32]++(Lib.itoa lo++([46,46]++Lib.itoa hi)))∧
 ((⟨#[99,108,111,99,107,32]⟩:ByteArray).size:Int)+(bs (Lib.itoa lo)).size≤room∧(((⟨#[99,108,111,99,107,32]⟩:ByteArray)++bs (Lib.itoa lo)).size:Int)+(⟨#[46,46]⟩:ByteArray).size≤room∧((((⟨#[99,108,111,99,107,32]⟩:ByteArray)++bs (Lib.itoa lo))++(⟨#[46,46]⟩:ByteArray)).size:Int)+(bs (Lib.itoa hi)).size≤room:=by
 have l1:=h1.len;have l2:=h2.len;have c1:(⟨#[99,108,111,99,107,32]⟩:ByteArray)++bs (Lib.itoa lo)=bs ([99,108,111,99,107,32]++Lib.itoa lo):=lM [99,108,111,99,107,32] _;have c2:bs ([99,108,111,99,107,32]++Lib.itoa lo)++(⟨#[46,46]⟩:ByteArray)=bs (([99,108,111,99,107,32]++Lib.itoa lo)++[46,46]):=lM _ [46,46];rw[c1,c2,lM];refine⟨?_,lI ?_,lI ?_,lI ?_⟩
 ·rw[List.append_assoc,List.append_assoc]
 ·rw[lB];show 6+_≤_;omega
 ·rw[lB,List.length_append];show 6+_+2≤_;omega
 ·rw[lB,lB,List.length_append,List.length_append];show 6+_+2+_≤_;omega
theorem xy (w:List UInt8) (x:Int) (hw:w.length≤1000) (h:iI x):bs (w++[32])++bs (Lib.itoa x)=js w x∧((bs (w++[32])).size:Int)+(bs (Lib.itoa x)).size≤room:=by
 have l1:=h.len;refine⟨?_,lI ?_⟩
 ·rw[lM,List.append_assoc];rfl
 ·rw[lB,lB,List.length_append,List.length_singleton];omega
theorem tq {n:Nat} {m:List Int} (h:ji n m=true):((cI m).length:Int)=(unpack (cT m 8)).2.2:=by
 obtain⟨h1,h2,_⟩:=fh h;obtain⟨_,_,_,_,h5,h6⟩:=my h2;unfold cI;rw[if_pos h1,if_neg (by omega)];unfold me;rw[List.length_drop,List.length_take];omega
theorem wy {p:List bR} {m r:List Int} {a3 a4 a5 a6 a7 a8 a9 a10:Int} {h:List Int} {a12:Int} (hn:gh p m r a3 a4 a5 a6 a7 a8 a9 a10 h a12=true):
 m.length=49∧h.length≤49∧iI (unpack (cT m 8)).1∧iI a12∧iI (unpack (cT m 8)).2.2∧iI (h.length:Int)∧iI a10∧iI a4∧iI a8∧iI a9:=by
 have v:=gv.mp hn;obtain⟨h1,h2,_⟩:=fh v.2.1;obtain⟨_,_,_,_,h5,h6⟩:=my h2;have st:=kd.mp v.2.2.1;have sp:=mm.mp v.2.2.2.2.2.1;have hl:=Nat.le_trans v.2.2.2.2.2.2.1.2.length_le (gY m 49 (by omega));unfold iI;refine⟨h1,hl,?_,?_,?_,?_,?_,?_,?_,?_⟩<;>omega
def yy (p:List bR) (m r:List Int) (a3 a4 a5 a6 a7 a8 a9 a10:Int) (h:List Int) (a12:Int):List ByteArray:=if gh p m r a3 a4 a5 a6 a7 a8 a9 a10 h a12=true then pJ (unpack (cT m 8)).1 a12 (unpack (cT m 8)).2.2 (h.length:Int) a10 a4 a8 a9 else[]
theorem rD (p:List bR) (m r:List Int) (a3 a4 a5 a6 a7 a8 a9 a10:Int) (h:List Int) (a12:Int) (hp:p.length≤1048576) (hs:∀t∈p,t.f0.length≤1048576) (hm:m.length≤1048576) (hr:r.length≤1048576) (hh:h.length≤1048576):cB.f p m r a3 a4 a5 a6 a7 a8 a9 a10 h a12=some (yy p m r a3 a4 a5 a6 a7 a8 a9 a10 h a12):=by
 have e1:=jN p m r a3 a4 a5 a6 a7 a8 a9 a10 h a12 hp hs hm hr hh;unfold yy;cases hn:gh p m r a3 a4 a5 a6 a7 a8 a9 a10 h a12 with
 | false=>
   rw[hn]at e1;simp only[cB.f,cB.begin,Tr.ag,Tr.af,Tr.ak,cy.told,e1,ae,Bool.not_false,Bool.false_eq_true,↓reduceIte]
 | true=>
   rw[hn]at e1;obtain⟨h49,hl,q1,q2,q3,q4,q5,q6,q7,q8⟩:=wy hn;have n8:(0:Int)≤8∧(8:Int)<(m.length:Int):=by omega
   obtain⟨k1,k2,k3,k4⟩:=A0 a8 a9 q7 q8;have f1:bh.f (⟨#[116,97,115,107]⟩:ByteArray) [(unpack (cT m 8)).1]=some (js [116,97,115,107] (unpack (cT m 8)).1):=kG [116,97,115,107] (unpack (cT m 8)).1 (by decide) q1.wide;have f2:bh.f (⟨#[100,111,110,101]⟩:ByteArray) [a12]=some (js [100,111,110,101] a12):=kG [100,111,110,101] a12 (by decide) q2.wide;have es:=pU p m r a3 a4 a5 a6 a7 a8 a9 a10 h a12 hp hs hm hr hh;rw[show sP p m r a3 a4 a5 a6 a7 a8 a9 a10 h a12=cI m by unfold sP;rw[if_pos hn]]at es;have el:=tq (gv.mp hn).2.1;have f3:bh.f (⟨#[115,101,110,116]⟩:ByteArray) [(unpack (cT m 8)).2.2]=some (js [115,101,110,116] (unpack (cT m 8)).2.2):=kG [115,101,110,116] (unpack (cT m 8)).2.2 (by decide) q3.wide;have f4:bh.f (⟨#[103,111,116]⟩:ByteArray) [(h.length:Int)]=some (js [103,111,116] (h.length:Int)):=kG [103,111,116] (h.length:Int) (by decide) q4.wide;have f5:bh.f (⟨#[97,99,107,101,100]⟩:ByteArray) [a10]=some (js [97,99,107,101,100] a10):=kG [97,99,107,101,100] a10 (by decide) q5.wide;have f6:bh.f (⟨#[99,104,97,114,103,101]⟩:ByteArray) [a4]=some (js [99,104,97,114,103,101] a4):=kG [99,104,97,114,103,101] a4 (by decide) q6.wide;have f7:=gQ a8 q7.wide.1 q7.wide.2;have f8:=gQ a9 q8.wide.1 q8.wide.2
   simp only[cB.f,cB.begin,Tr.ag,Tr.af,Tr.al,Tr.fZ,Tr.ak,cy.told,e1,aS.told,gB,ae,Bool.not_true,Bool.false_eq_true,↓reduceIte,n8,and_self,bA.told,f1,f2,eX.told,es,el,f3,f4,f5,f6,bh.told,f7,f8,k1,k2,k3,k4];rfl
theorem DQ {u v:List UInt8} (h:bs u=bs v):u=v:=by
 have:=congrArg (fun x:ByteArray=>x.data.toList) h
 simpa [bs]using this
theorem Dg (x:Int):Lib.itoa x≠[]:=by
 unfold Lib.itoa;split
 ·simp
 ·exact xW _
theorem qH (l:List Int) (h1:1≤l.length) (hl:l.length≤1000) (h:∀i,-9223372036854775808≤l.getD i 0∧l.getD i 0≤9223372036854775807):∃t,db.f l=some (bs t)∧t≠[]:=by
 have g0:cT l 0=l.getD 0 0:=rfl;have e1:=gQ (cT l 0) (h 0).1 (h 0).2
 have hd:∀i,(l.drop 1).getD i 0=l.getD (i+1) 0:=fun i=>by
  rw[List.getD_eq_getElem?_getD,List.getD_eq_getElem?_getD,List.getElem?_drop,Nat.add_comm]
 have hn:=Lib.itoa_length_le (cT l 0) (h 0).1 (h 0).2;have e2:=qd (Lib.itoa (cT l 0)) (l.drop 1) (by omega) (by rw[List.length_drop];omega) (fun i=>by rw[hd];exact h (i+1));have n0:(0:Int)≤0∧(0:Int)<(l.length:Int):=by omega
 have n1:(0:Int)≤1∧(1:Int)≤(l.length:Int)∧(l.length:Int)≤(l.length:Int):=by omega
 have nz:decide ((l.length:Int)=0)=false:=decide_eq_false (by omega);refine⟨Lib.itoa (cT l 0)++sp (l.drop 1) (l.drop 1).length,?_,fun e=>Dg (cT l 0) (List.append_eq_nil_iff.mp e).1⟩
 ·simp only[db.f,db.begin,Tr.af,Tr.al,Tr.fe,Tr.aZ,Tr.ag,Tr.ak,nz,Bool.false_eq_true,↓reduceIte,n0,n1,and_self,bA.told,e1,ae,show Int.toNat 1=1 from rfl,bh.told,e2,cr]
theorem C5 (a:ByteArray):(a==a)=true:=by rw[CC,decide_eq_true rfl]
theorem FnReports:cF.Pure:=by
 intro b hb
 by_cases q:(b.length:Int)>1048576
 ·simp only[cF.f,cF.begin,Tr.ag,Tr.af,Tr.ak,iJ.told,wz,ae,decide_eq_true q,↓reduceIte]
 ·obtain⟨p,m,r,a3,a4,a5,a6,a7,a8,a9,a10,h,a12,e1,hn,hr,_⟩:=si b (by omega);have v:=gv.mp hn;obtain⟨p6,p1,hs⟩:=lH v.1;obtain⟨h49,hl,q1,q2,q3,q4,q5,q6,q7,q8⟩:=wy hn;have eF:=rD p m r a3 a4 a5 a6 a7 a8 a9 a10 h a12 (by omega) hs (by omega) (by omega) (by omega);unfold yy at eF;rw[if_pos hn]at eF;have L7:∀t d s g a c lo hi:Int,((pJ t d s g a c lo hi).length:Int)=7:=fun _ _ _ _ _ _ _ _=>rfl;have R1:∀t d s g a c lo hi:Int,EU (pJ t d s g a c lo hi) 1=js [100,111,110,101] d:=fun _ _ _ _ _ _ _ _=>rfl;have R2:∀t d s g a c lo hi:Int,EU (pJ t d s g a c lo hi) 2=js [115,101,110,116] s:=fun _ _ _ _ _ _ _ _=>rfl;have f2:=gQ a12 q2.wide.1 q2.wide.2;have f3:=gQ _ q3.wide.1 q3.wide.2;obtain⟨c2,s2⟩:=xy [100,111,110,101] a12 (by decide) q2;obtain⟨c3,s3⟩:=xy [115,101,110,116] _ (by decide) q3;have c2:(⟨#[100,111,110,101,32]⟩:ByteArray)++bs (Lib.itoa a12)=js [100,111,110,101] a12:=c2;have s2:((⟨#[100,111,110,101,32]⟩:ByteArray).size:Int)+(bs (Lib.itoa a12)).size≤room:=s2;have c3:(⟨#[115,101,110,116,32]⟩:ByteArray)++bs (Lib.itoa (unpack (cT m 8)).2.2)=js [115,101,110,116] (unpack (cT m 8)).2.2:=c3;have s3:((⟨#[115,101,110,116,32]⟩:ByteArray).size:Int)+(bs (Lib.itoa (unpack (cT m 8)).2.2)).size≤room:=s3;have es:=pU p m r a3 a4 a5 a6 a7 a8 a9 a10 h a12 (by omega) hs (by omega) (by omega) (by omega)
  rw[show sP p m r a3 a4 a5 a6 a7 a8 a9 a10 h a12=cI m by unfold sP;rw[if_pos hn]]at es;have el:=tq v.2.1;have eN:=qI (p,m,r,a3,a4,a5,a6,a7,a8,a9,a10,h,a12) ⟨hn,by show r.length≤100;omega⟩;have eV:=oZ m;rw[if_pos h49]at eV;have hv:=(fh v.2.1).2.2.2.1
  obtain⟨t,eT,ht⟩:=qH (m.take 8) (by rw[List.length_take];omega) (by rw[List.length_take];omega) (fun i=>by
   rcases Nat.lt_or_ge i (m.take 8).length with hi | hi
   ·have:=List.all_eq_true.1 hv _ (List.getElem_mem hi);unfold isVal at this;rw[ba]at this;rw[List.getD_eq_getElem?_getD,List.getElem?_eq_getElem hi];show _≤(m.take 8)[i]∧(m.take 8)[i]≤_;omega
   ·rw[List.getD_eq_getElem?_getD,List.getElem?_eq_none hi];exact⟨show(-9223372036854775808:Int)≤0 by decide,show(0:Int)≤9223372036854775807 by decide⟩)
  have hne:(bs t !=(⟨#[]⟩:ByteArray))=true:=by
   rw[DL,show decide (bs t=(⟨#[]⟩:ByteArray))=false from decide_eq_false (fun e=>ht (DQ (v:=[]) e))];rfl
  simp only[cF.f,cF.begin,Tr.ag,Tr.af,Tr.al,Tr.aZ,Tr.ak,iJ.told,wz,ae,decide_eq_false q,Bool.false_eq_true,↓reduceIte,dS.told,e1,cB.told,eF,L7,R1,R2,decide_true,bA.told,f2,c2,s2,C5,eX.told,es,el,f3,c3,s3,dR.told,eN,dx.told,eV,db.told,eT,hne,show((0:Int)≤1∧(1:Int)<7)from by omega,show((0:Int)≤2∧(2:Int)<7)from by omega,and_self]
end Go.Proofs.YtpndhhellhfegaaGreatDoor.Pure
