/- The plain law of FnNodes. No conditions. -/
import Derived.Test.YtmapddgocpkgeaaGreatEvLFnNodes
import Derived.Test.YtmapddgocpkgeaaGreatLibP
namespace Go.Proofs.YtmapddgocpkgeaaGreat.Pure
open Go.RowKit Go.Proofs.YtmapddgocpkgeaaGreat.aa Go.Proofs.YtmapddgocpkgeaaGreat.Ev
set_option linter.unusedVariables false
set_option linter.unusedSimpArgs false
set_option maxRecDepth 20000
def fU (x a b:Int):Bool:=decide (x≥a)&&decide (x≤b)
theorem dG (x a b:Int):aE.f x a b=some (fU x a b):=by
 simp only[aE.f,aE.begin,Tr.ag,Tr.aj,fU];cases decide (x≥a)<;>simp
theorem dt (x a b:Int):aK.f x a b=some (fU x a b):=by
 simp only[aK.f,aK.begin,Tr.ag,Tr.aj,fU];cases decide (x≥a)<;>simp
def po (a b c:Int):Bool:=fU a 1 7&&(fU b (-8) 999&&fU c (-8) 999)
theorem gR (a b c:Int):cq.f a b c=some (po a b c):=by
 simp only[cq.f,cq.begin,Tr.ah,Tr.ag,Tr.aj,aE.told,dG,dQ.told,dQ.f,dQ.begin,af,po];cases fU a 1 7<;>cases fU b (-8) 999<;>rfl
theorem iA (a b c:Int):da.f a b c=some (po a b c):=by
 simp only[da.f,da.begin,Tr.ah,Tr.ag,Tr.aj,aK.told,dt,ek.told,ek.f,ek.begin,af,po];cases fU a 1 7<;>cases fU b (-8) 999<;>rfl
def jA (x0 x1 x2 x3 x4 x5:Int):Bool:=
 if x0=1 then decide (x2=0)&&(fU x1 0 7&&po x3 x4 x5)
 else if x0=2 then(decide (x3=0)&&(decide (x4=0)&&decide (x5=0)))&&(fU x1 0 7&&fU x2 0 3)
 else if x0=3∨x0=4 then decide (x1=0)&&(decide (x2=0)&&po x3 x4 x5)
 else if x0=5 then decide (x1=0)&&((decide (x3=0)&&(decide (x4=0)&&decide (x5=0)))&&fU x2 1 5)
 else if x0=6 then decide (x1=0)&&(decide (x2=0)&&(decide (x3=0)&&(decide (x4=0)&&decide (x5=0))))
 else false
theorem CF (a b c d e f g h i j k l:Int):lp eV.tree (.CM a b c d e f g h i j k l)=some (g,h,i,j,k,l):=by
 rw[aB];rfl
theorem wH (x0 x1 x2 x3 x4 x5:Int):fV.f x0 x1 x2 x3 x4 x5=some (jA x0 x1 x2 x3 x4 x5):=by
 unfold jA;simp only[fV.f,fV.begin,eV.told,eV.f,eV.begin,Tr.ah,Tr.ag,Tr.aj,Tr.bf,Tr.gL,Tr.ai,CF,aE.told,dG,cq.told,gR,af,decide_eq_true_eq]
 by_cases h1:x0=1
 ·simp only[h1,↓reduceIte,af]
  by_cases h2:x2=0<;>cases fU x1 0 7<;>simp[h2]
 by_cases h2:x0=2
 ·simp only[h2,↓reduceIte,af]
  by_cases g3:x3=0<;>by_cases g4:x4=0<;>by_cases g5:x5=0<;>cases fU x1 0 7<;>simp[g3,g4,g5]
 by_cases h3:x0=3
 ·simp only[h3,↓reduceIte,af]
  by_cases g1:x1=0<;>by_cases g2:x2=0<;>simp[g1,g2]
 by_cases h4:x0=4
 ·simp only[h4,↓reduceIte,af]
  by_cases g1:x1=0<;>by_cases g2:x2=0<;>simp[g1,g2]
 by_cases h5:x0=5
 ·simp only[h5,↓reduceIte,af]
  by_cases g1:x1=0<;>by_cases g3:x3=0<;>by_cases g4:x4=0<;>by_cases g5:x5=0<;>simp[g1,g3,g4,g5]
 simp only[h1,h2,h3,h4,h5,↓reduceIte,af,or_self]
 by_cases g1:x1=0<;>by_cases g2:x2=0<;>by_cases g3:x3=0<;>by_cases g4:x4=0<;>by_cases g5:x5=0<;>by_cases h6:x0=6<;>simp[g1,g2,g3,g4,g5,h6]
theorem vq (x0 x1 x2 x3 x4 x5:Int):lp dJ.tree (.c5 x0 x1 x2 x3 x4 x5)=some (if x0=2 then fU x2 0 3 else if x0=5 then fU x2 1 5 else decide (x2=0)):=by
 rw[aB];simp only[dJ.tree,Tr.ah,Tr.ag,Tr.aj,bY.told,bY.f,bY.begin,aK.told,dt,af,decide_eq_true_eq];split
 ·rfl
 ·split<;>rfl
theorem uA (x0 x1 x2 x3 x4 x5:Int):lp dJ.tree (.c3 x0 x1 x2 x3 x4 x5)=some (if x0=1∨x0=3∨x0=4 then po x3 x4 x5&&decide (x2=0)else(decide (x3=0)&&(decide (x4=0)&&decide (x5=0)))&&(if x0=2 then fU x2 0 3 else if x0=5 then fU x2 1 5 else decide (x2=0))):=by
 rw[aB];simp only[dJ.tree,Tr.ah,Tr.ag,Tr.aj,Tr.gL,Tr.ai,dd.told,dd.f,dd.begin,da.told,iA,vq,af,decide_eq_true_eq]
 by_cases h1:x0=1
 ·cases hx:po x3 x4 x5<;>simp[h1]
 by_cases h3:x0=3
 ·cases hx:po x3 x4 x5<;>simp[h3]
 by_cases h4:x0=4
 ·cases hx:po x3 x4 x5<;>simp[h4]
 by_cases g3:x3=0<;>by_cases g4:x4=0<;>by_cases g5:x5=0<;>simp[h1,h3,h4,g3,g4,g5]
theorem pO (x0 x1 x2 x3 x4 x5:Int):dJ.f x0 x1 x2 x3 x4 x5=some (jA x0 x1 x2 x3 x4 x5):=by
 unfold jA;simp only[dJ.f,dJ.begin,Tr.ah,Tr.ag,Tr.aj,Tr.gL,Tr.ai,bZ.told,bZ.f,bZ.begin,eF.told,eF.f,eF.begin,aK.told,dt,uA,af,decide_eq_true_eq]
 by_cases h1:x0=1
 ·subst h1;rw[show fU 1 1 6=true from rfl];cases fU x1 0 7<;>cases po x3 x4 x5<;>simp
 by_cases h2:x0=2
 ·subst h2;rw[show fU 2 1 6=true from rfl];cases fU x1 0 7<;>simp
 by_cases h3:x0=3
 ·subst h3;rw[show fU 3 1 6=true from rfl]
  by_cases g1:x1=0<;>cases po x3 x4 x5<;>simp[g1]
 by_cases h4:x0=4
 ·subst h4;rw[show fU 4 1 6=true from rfl]
  by_cases g1:x1=0<;>cases po x3 x4 x5<;>simp[g1]
 by_cases h5:x0=5
 ·subst h5;rw[show fU 5 1 6=true from rfl]
  by_cases g1:x1=0<;>simp[g1]
 by_cases h6:x0=6
 ·subst h6;rw[show fU 6 1 6=true from rfl]
  by_cases g1:x1=0<;>by_cases g2:x2=0<;>simp[g1,g2]
 ·have hb:fU x0 1 6=false:=by
   unfold fU
   by_cases q:x0≥1
   ·rw[decide_eq_true q,decide_eq_false (by omega)];rfl
   ·rw[decide_eq_false q,Bool.false_and]
  simp[hb,h1,h2,h3,h4,h5,h6]
def dep (x0 d:Int):Int:=if x0=4∨x0=5 then d+1 else if x0=6 then d-1 else d
def okB (n:Nat):List aw→Int→Bool
 | [],d=>decide (d=0)&&decide ((n:Int)≤24)
 | s::l,d=>jA s.f0 s.f1 s.f2 s.f3.f0 s.f3.f1 s.f3.f2&&(fU (dep s.f0 d) 0 3&&okB n l (dep s.f0 d))
def wS (d:Int) (s:aw):Int ⊕ Bool:=if jA s.f0 s.f1 s.f2 s.f3.f0 s.f3.f1 s.f3.f2=true then(if fU (dep s.f0 d) 0 3=true then .inl (dep s.f0 d)else .inr false)else .inr false
theorem uw (n:Nat):∀(l:List aw) (d:Int),scan wS (fun d=>decide (d=0)&&decide ((n:Int)≤24)) l d=okB n l d
 | [],d=>rfl
 | s::l,d=>by
   unfold scan wS okB;cases jA s.f0 s.f1 s.f2 s.f3.f0 s.f3.f1 s.f3.f2
   ·rfl
   ·cases fU (dep s.f0 d) 0 3
    ·rfl
    ·exact uw n l _
theorem Cd {x d:Int} (h0:0≤d) (h1:d≤3):wr (d+1)=d+1∧wr (d-1)=d-1∧wr (d+1-1)=d+1-1:=⟨cd (by omega),cd (by omega),cd (by omega)⟩
theorem bd {x a b:Int}:fU x a b=true↔a≤x∧x≤b:=by simp[fU]
theorem j7 (l:List aw) (hl:l.length≤1048576):bx.f l=some (okB l.length l 0):=by
 simp only[bx.f,bx.begin,Tr.ai];rw[←uw];refine wW l wS _ (fun _ d=>0≤d∧d≤3) (fun i d=>lp bx.tree (.c3 l d (i:Int))) 0 ⟨by omega,by omega⟩ (fun i h d hd=> ?_) (fun d hd=> ?_)
 ·obtain⟨w1,w2,w3⟩:=Cd (x:=d) hd.1 hd.2;have w7:wr ((i:Int)+1)=((i+1:Nat):Int):=aN (by omega)
  have step:lp bx.tree (.c3 l d (i:Int))=if jA l[i].f0 l[i].f1 l[i].f2 l[i].f3.f0 l[i].f3.f1 l[i].f3.f2=true then(if fU (dep l[i].f0 d) 0 3=true then lp bx.tree (.c3 l (dep l[i].f0 d) ((i+1:Nat):Int))else some false)else some false:=by
   rw[aB];simp only[bx.tree,Tr.ag,Tr.al,Tr.ah,Tr.aj,Tr.ai,fV.told,wH,aE.told,dG,aU h,bh h,bW h,and_self,decide_true,↓reduceIte,af,w1,w2,w7];cases jA l[i].f0 l[i].f1 l[i].f2 l[i].f3.f0 l[i].f3.f1 l[i].f3.f2
   ·rfl
   ·unfold dep
    by_cases h4:l[i].f0=4
    ·cases hb:fU (d+1) 0 3<;>simp[h4,hb]
    ·by_cases h5:l[i].f0=5
     ·cases hb:fU (d+1) 0 3<;>simp[h4,h5,hb]
     ·by_cases h6:l[i].f0=6
      ·cases hb:fU (d-1) 0 3<;>simp[h4,h5,h6,hb]
      ·cases hb:fU d 0 3<;>simp[h4,h5,h6,hb]
  rw[step];unfold wS;cases jA l[i].f0 l[i].f1 l[i].f2 l[i].f3.f0 l[i].f3.f1 l[i].f3.f2
  ·exact⟨fun s' hs'=>(by cases hs'),fun r hr=>(by cases hr;rfl)⟩
  ·cases hb:fU (dep l[i].f0 d) 0 3
   ·exact⟨fun s' hs'=>(by cases hs'),fun r hr=>(by cases hr;rfl)⟩
   ·exact⟨fun s' hs'=>(by cases hs';exact⟨rfl,bd.mp hb⟩),fun r hr=>(by cases hr)⟩
 ·rw[aB];simp only[bx.tree,Tr.ag,Tr.aj,dv,Bool.false_eq_true,↓reduceIte];cases decide (d=0)<;>rfl
theorem ji (l:List aw) (hl:l.length≤1048576):bU.f l=some (okB l.length l 0):=by
 simp only[bU.f,bU.begin,Tr.ai];rw[←uw];refine wW l wS _ (fun _ d=>0≤d∧d≤3) (fun i d=>lp bU.tree (.c3 l d l (List.length l:Int) (i:Int))) 0 ⟨by omega,by omega⟩ (fun i h d hd=> ?_) (fun d hd=> ?_)
 ·obtain⟨w1,w2,w3⟩:=Cd (x:=d) hd.1 hd.2;have w7:wr ((i:Int)+1)=((i+1:Nat):Int):=aN (by omega);have c12:lp bU.tree .c12=some false:=by rw[aB];rfl
  have tst:∀(x:Int) (A:Option Bool),(if x<0 then some false else if x>3 then some false else A)=if fU x 0 3=true then A else some false:=fun x A=>by
   by_cases q:x<0
   ·rw[if_pos q,if_neg (by rw[bd];omega)]
   ·rw[if_neg q]
    by_cases q':x>3
    ·rw[if_pos q',if_neg (by rw[bd];omega)]
    ·rw[if_neg q',if_pos (by rw[bd];omega)]
  have step:lp bU.tree (.c3 l d l (List.length l:Int) (i:Int))=if jA l[i].f0 l[i].f1 l[i].f2 l[i].f3.f0 l[i].f3.f1 l[i].f3.f2=true then(if fU (dep l[i].f0 d) 0 3=true then lp bU.tree (.c3 l (dep l[i].f0 d) l (List.length l:Int) ((i+1:Nat):Int))else some false)else some false:=by
   rw[aB];simp only[bU.tree,Tr.ag,Tr.al,Tr.ah,Tr.aj,Tr.ai,dJ.told,pO,bN.told,bN.f,bN.begin,c12,aU h,bh h,bW h,and_self,decide_true,↓reduceIte,af,w1,w2,w3,w7,decide_eq_true_eq,tst];cases jA l[i].f0 l[i].f1 l[i].f2 l[i].f3.f0 l[i].f3.f1 l[i].f3.f2
   ·rfl
   ·unfold dep
    by_cases h4:l[i].f0=4
    ·simp[h4]
    ·by_cases h5:l[i].f0=5
     ·simp[h4,h5]
     ·by_cases h6:l[i].f0=6
      ·simp[h4,h5,h6]
      ·simp[h4,h5,h6]
  rw[step];unfold wS;cases jA l[i].f0 l[i].f1 l[i].f2 l[i].f3.f0 l[i].f3.f1 l[i].f3.f2
  ·exact⟨fun s' hs'=>(by cases hs'),fun r hr=>(by cases hr;rfl)⟩
  ·cases hb:fU (dep l[i].f0 d) 0 3
   ·exact⟨fun s' hs'=>(by cases hs'),fun r hr=>(by cases hr;rfl)⟩
   ·exact⟨fun s' hs'=>(by cases hs';exact⟨rfl,bd.mp hb⟩),fun r hr=>(by cases hr)⟩
 ·rw[aB];simp only[bU.tree,Tr.ag,Tr.aj,dv,Bool.false_eq_true,↓reduceIte];cases decide (d=0)<;>rfl
def isVal (x:Int):Bool:=fU x (-1000000) 1000000
theorem lN (x:Int):dH.f x=some (isVal x):=by
 simp only[dH.f,dH.begin,Tr.ah,Tr.aj,aE.told,dG,af,isVal]
theorem oZ (x:Int):eP.f x=some (isVal x):=by
 simp only[eP.f,eP.begin,Tr.ah,Tr.aj,aK.told,dt,af,isVal]
theorem jn (l:List Int) (hl:l.length≤1048576):bM.f l=some (l.all isVal):=by
 simp only[bM.f,bM.begin,Tr.ai]
 have e:=oM l isVal true (fun i=>lp bM.tree (.c2 l (i:Int))) (fun i h=>by
  rw[aB];simp only[bM.tree,Tr.ag,Tr.al,Tr.ah,Tr.aj,Tr.ai,dH.told,lN,af,aU h,bh h,bW h,and_self,decide_true,↓reduceIte,aN (show i<4611686018427387904 by omega)];cases isVal l[i]<;>rfl) (by
  rw[aB];simp only[bM.tree,Tr.ag,Tr.aj,dv,Bool.false_eq_true,↓reduceIte])
 rw[Bool.and_true]at e;exact e
theorem vV (l:List Int) (hl:l.length≤1048576):fc.f l=some (l.all isVal&&decide ((l.length:Int)=8)):=by
 simp only[fc.f,fc.begin,Tr.ai];refine oM l isVal _ (fun i=>lp fc.tree (.c2 l (i:Int))) (fun i h=> ?_) ?_
 ·rw[aB];simp only[fc.tree,Tr.ag,Tr.al,Tr.ah,Tr.aj,Tr.ai,dH.told,lN,af,aU h,bh h,bW h,and_self,decide_true,↓reduceIte,aN (show i<4611686018427387904 by omega)];cases isVal l[i]<;>rfl
 ·rw[aB];simp only[fc.tree,Tr.ag,Tr.aj,dv,Bool.false_eq_true,↓reduceIte]
theorem AM {A:Type} (l:List A) (p:A→Bool):(!(l.any fun x=> !p x))=l.all p:=by
 induction l with
 | nil=>rfl
 | cons a l ih=>rw[List.any_cons,List.all_cons,←ih];cases p a<;>simp
theorem ju (l:List Int) (hl:l.length≤1048576):cu.f l=some (l.all isVal):=by
 obtain⟨r,hr,hd⟩:=rW l (fun x=> !isVal x) (fun i=>lp ay.tree (.c2 l (List.length l:Int) (i:Int))) (fun i h=>by
  rw[aB];simp only[ay.tree,Tr.ag,Tr.al,Tr.ah,Tr.aj,Tr.ai,dw.told,dw.f,dw.begin,eP.told,oZ,af,aU h,bh h,bW h,and_self,decide_true,↓reduceIte,aN (show i<4611686018427387904 by omega)]) (by
  rw[aB];simp only[ay.tree,Tr.ag,Tr.aj,dv,Bool.false_eq_true,↓reduceIte])
 have hr':lp ay.tree (.c2 l (List.length l:Int) 0)=some r:=hr;simp only[cu.f,cu.begin,Tr.ah,Tr.aj,aH.told,aH.f,aH.begin,ay.told,ay.f,ay.begin,Tr.ai,hr',af,hd,AM]
theorem pH (l:List Int) (hl:l.length≤1048576):fz.f l=some (l.all isVal&&decide ((l.length:Int)=8)):=by
 simp only[fz.f,fz.begin,Tr.ah,Tr.ag,Tr.aj,cu.told,ju l hl,af];cases decide ((l.length:Int)=8)<;>simp
theorem fits {A B:Type} (l:List A) (m:List B) (hl:l.length≤1048576) (hm:m.length≤1048576) (k:Nat) (hk:k≤1000):((l.length:Int)+(m.length:Int))*(k:Nat)≤room:=by
 unfold room;have h1:((l.length:Int)+(m.length:Int))*(k:Int)≤2097152*(k:Int):=Int.mul_le_mul_of_nonneg_right (by omega) (by omega);omega
theorem eG (l:List Int) (hl:l.length≤1048576):aL.f l=some l:=by
 simp only[aL.f,aL.begin,Tr.xL,Tr.aj,Tr.al,fits ([]:List Int) l (by simp) hl 8 (by omega),↓reduceIte,List.nil_append];cases l<;>simp
theorem mx (l:List aw) (hl:l.length≤1048576):bB.f l=some l:=by
 simp only[bB.f,bB.begin,Tr.xL,Tr.aj,Tr.al,fits ([]:List aw) l (by simp) hl 48 (by omega),↓reduceIte,List.nil_append];cases l<;>simp
def oQ (l:List Int):List Int×Bool:=if(l.all isVal&&decide ((l.length:Int)=8))=true then(l++List.replicate 41 0,true)else([],false)
theorem vZ (l:List Int) (hl:l.length≤1048576):fW.f l=some (oQ l):=by
 simp only[fW.f,fW.begin,Tr.ah,Tr.ag,Tr.al,Tr.aj,fc.told,vV l hl,af,oQ,fits ([]:List Int) l (by simp) hl 8 (by omega),↓reduceIte,List.nil_append];have h2:(0:Int)≤41∧((l.length:Int)+41)*(8:Nat)≤room:=⟨by omega,by unfold room;omega⟩;simp only[h2,show Int.toNat 41=41 from rfl,and_self,↓reduceIte];rcases Bool.eq_false_or_eq_true (l.all isVal&&decide ((l.length:Int)=8))with q | q<;>simp only[q,Bool.not_true,Bool.not_false,Bool.false_eq_true,↓reduceIte]
def CD (t:az):Bool:=okB t.f0.length t.f0 0&&po t.f1.f0 t.f1.f1 t.f1.f2
def tg (l:List az):Bool:=l.all CD&&fU (l.length:Int) 1 6
theorem mY (l:List az) (hl:l.length≤1048576) (hs:∀t∈l,t.f0.length≤1048576):cv.f l=some (tg l):=by
 simp only[cv.f,cv.begin,Tr.ai];refine oM l CD _ (fun i=>lp cv.tree (.c2 l (i:Int))) (fun i h=> ?_) ?_
 ·rw[aB];simp only[cv.tree,Tr.ag,Tr.al,Tr.ah,Tr.aj,Tr.ai,bx.told,j7 _ (hs _ (List.getElem_mem h)),cq.told,gR,af,aU h,bh h,bW h,and_self,decide_true,↓reduceIte,aN (show i<4611686018427387904 by omega),CD];rcases Bool.eq_false_or_eq_true (okB l[i].f0.length l[i].f0 0)with q | q<;>rcases Bool.eq_false_or_eq_true (po l[i].f1.f0 l[i].f1.f1 l[i].f1.f2)with q' | q'<;>simp[q,q']
 ·rw[aB];simp only[cv.tree,Tr.ag,Tr.ah,Tr.aj,aE.told,dG,af,dv,Bool.false_eq_true,↓reduceIte]
theorem mA (l:List az) (hl:l.length≤1048576) (hs:∀t∈l,t.f0.length≤1048576):dm.f l=some (tg l):=by
 obtain⟨r,hr,hd⟩:=rW l (fun x=> !CD x) (fun i=>lp an.tree (.c2 l (List.length l:Int) (i:Int))) (fun i h=>by
  rw[aB];simp only[an.tree,Tr.ag,Tr.al,Tr.ah,Tr.aj,Tr.ai,dx.told,dx.f,dx.begin,du.told,du.f,du.begin,bU.told,ji _ (hs _ (List.getElem_mem h)),da.told,iA,af,aU h,bh h,bW h,and_self,decide_true,↓reduceIte,aN (show i<4611686018427387904 by omega),CD];rcases Bool.eq_false_or_eq_true (okB l[i].f0.length l[i].f0 0)with q | q<;>rcases Bool.eq_false_or_eq_true (po l[i].f1.f0 l[i].f1.f1 l[i].f1.f2)with q' | q'<;>simp[q,q']) (by
  rw[aB];simp only[an.tree,Tr.ag,Tr.aj,dv,Bool.false_eq_true,↓reduceIte])
 have hr':lp an.tree (.c2 l (List.length l:Int) 0)=some r:=hr;simp only[dm.f,dm.begin,Tr.ah,Tr.ag,Tr.aj,aK.told,dt,ax.told,ax.f,ax.begin,an.told,an.f,an.begin,Tr.ai,hr',af,hd,AM,tg];cases fU (l.length:Int) 1 6<;>simp
def gQ (a b c d:Int):Bool:=fU b 1 5000&&(fU a 0 b&&(fU c 1 b&&fU d 0 100))
theorem oy (a b c d:Int):eN.f a b c d=some (gQ a b c d):=by
 simp only[eN.f,eN.begin,Tr.ah,Tr.ag,Tr.aj,aE.told,dG,af,gQ];cases fU b 1 5000<;>cases fU a 0 b<;>cases fU c 1 b<;>rfl
theorem vm (a b c d:Int):fF.f a b c d=some (gQ a b c d):=by
 simp only[fF.f,fF.begin,Tr.ah,Tr.ag,Tr.aj,aK.told,dt,af,gQ];cases fU b 1 5000<;>cases fU a 0 b<;>cases fU c 1 b<;>rfl
theorem oe (l:List az) (hl:l.length≤1048576) (hs:∀t∈l,t.f0.length≤1048576):ca.f l=some l:=by
 simp only[ca.f,ca.begin,Tr.ai]
 have e:=zE l (fun t:az=>t) id (fun i s=>lp ca.tree (.c3 l [] s (i:Int))) [] (fun i h=>by
  rw[aB];have hr:cy l (i:Int)=l[i]:=aU h;have hin:=bW h;have hlt:=bh h;have h1:(([]:List aw).length+(l[i].f0.length:Int))*(48:Nat)≤room:=fits [] l[i].f0 (by simp) (hs _ (List.getElem_mem h)) 48 (by omega);have h2:∀t:az,((([]++(l.take i).map (fun t:az=>t)).length:Int)+(([t]:List az).length:Int))*(48:Nat)≤room:=fun t=>fits _ [t] (by simp;omega) (by simp) 48 (by omega);generalize ([]++(l.take i).map (fun t:az=>t))=acc at h2⊢
  have c4:∀s,lp ca.tree (.c4 l [] s (i:Int))=lp ca.tree (.c3 l [] s ((i+1:Nat):Int)):=fun s=>by
   rw[aB];simp only[ca.tree,Tr.ai,aN (show i<4611686018427387904 by omega)]
  simp only[ca.tree,Tr.ag,Tr.al,Tr.fq,Tr.bf,Tr.gL,Tr.ai,hr,hin,hlt,and_self,decide_true,↓reduceIte,h1,h2,c4,List.nil_append,cB]) (fun s=>by
  rw[aB];simp only[ca.tree,Tr.ag,Tr.aj,dv,Bool.false_eq_true,↓reduceIte,id])
 rw[List.map_id'']at e
 ·exact e
 ·exact fun _=>rfl
theorem p9 (l:List az) (hl:l.length≤1048576) (hs:∀t∈l,t.f0.length≤1048576):cf.f l=some l:=by
 simp only[cf.f,cf.begin,Tr.ai]
 have e:=zE l (fun t:az=>t) id (fun i s=>lp cf.tree (.c3 [] s l (List.length l:Int) (i:Int))) [] (fun i h=>by
  rw[aB];have hr:cy l (i:Int)=l[i]:=aU h;have hin:=bW h;have hlt:=bh h;have h2:∀t:az,((([]++(l.take i).map (fun t:az=>t)).length:Int)+(([t]:List az).length:Int))*(48:Nat)≤room:=fun t=>fits _ [t] (by simp;omega) (by simp) 48 (by omega);generalize ([]++(l.take i).map (fun t:az=>t))=acc at h2⊢;simp only[cf.tree,Tr.ag,Tr.al,Tr.fq,Tr.bf,Tr.ah,Tr.aj,Tr.ai,eS.told,eS.f,eS.begin,bB.told,mx _ (hs _ (List.getElem_mem h)),af,hr,hin,hlt,and_self,decide_true,↓reduceIte,h2,cB,aN (show i<4611686018427387904 by omega)]) (fun s=>by
  rw[aB];simp only[cf.tree,Tr.ag,Tr.aj,dv,Bool.false_eq_true,↓reduceIte,id])
 rw[List.map_id'']at e
 ·exact e
 ·exact fun _=>rfl
def yd (p:List az) (m r:List Int) (a b c d:Int):List az×List Int×List Int×Int×Int×Int×Int×Int×Int×Int×Int×List Int×Int×Bool:=
 if(oQ m).2=true then(if tg p=true then(if gQ a b c d=true then(if r.all isVal=true then(p,(oQ m).1,r,0,a,b,c,d,0,0,0,[],0,true)
 else([],[],[],0,0,0,0,0,0,0,0,[],0,false))else([],[],[],0,0,0,0,0,0,0,0,[],0,false))else([],[],[],0,0,0,0,0,0,0,0,[],0,false))else([],[],[],0,0,0,0,0,0,0,0,[],0,false)
theorem vo (p:List az) (m r:List Int) (a b c d:Int) (hp:p.length≤1048576) (hs:∀t∈p,t.f0.length≤1048576) (hm:m.length≤1048576) (hr:r.length≤1048576):aV.f p m r a b c d=some (yd p m r a b c d):=by
 simp only[aV.f,aV.begin,Tr.ah,Tr.ag,Tr.al,Tr.fq,Tr.bf,Tr.aj,fW.told,vZ m hm,cv.told,mY p hp hs,eN.told,oy,bM.told,jn r hr,ca.told,oe p hp hs,af,fits ([]:List Int) r (by simp) hr 8 (by omega),↓reduceIte,List.nil_append,cB,yd];cases(oQ m).2<;>cases tg p<;>cases gQ a b c d<;>cases r.all isVal<;>rfl
def pack (a b c:Int):Int:=if(fU a 0 5&&(fU b 0 8&&fU c 0 24))=true then a+8*(b+16*c)else -1
theorem AZ (a b c:Int) (h:(fU a 0 5&&(fU b 0 8&&fU c 0 24))=true):wr (a+wr (8*wr (b+wr (16*c))))=a+8*(b+16*c):=by
 rw[Bool.and_eq_true,Bool.and_eq_true,bd,bd,bd]at h;have w1:wr (16*c)=16*c:=cd (by omega);have w2:wr (b+16*c)=b+16*c:=cd (by omega);have w3:wr (8*(b+16*c))=8*(b+16*c):=cd (by omega);have w4:wr (a+8*(b+16*c))=a+8*(b+16*c):=cd (by omega);rw[w1,w2,w3,w4]
theorem CL (a b c:Int):pack a b c≤3141:=by
 unfold pack;split
 ·rename_i h;rw[Bool.and_eq_true,Bool.and_eq_true,bd,bd,bd]at h;omega
 ·omega
theorem iN (a b c:Int):bz.f a b c=some (pack a b c):=by
 simp only[bz.f,bz.begin,Tr.ah,Tr.ag,Tr.aj,aE.told,dG,af];have h:=AZ a b c;unfold pack
 by_cases q:(fU a 0 5&&(fU b 0 8&&fU c 0 24))=true
 ·rw[h q];rw[Bool.and_eq_true,Bool.and_eq_true]at q;simp[q.1,q.2.1,q.2.2]
 ·clear h;cases qa:fU a 0 5<;>cases qb:fU b 0 8<;>cases qc:fU c 0 24<;>simp_all
theorem iM (a b c:Int):bq.f a b c=some (pack a b c):=by
 simp only[bq.f,bq.begin,Tr.ah,Tr.ag,Tr.aj,aK.told,dt,af];have h:=AZ a b c;unfold pack
 by_cases q:(fU a 0 5&&(fU b 0 8&&fU c 0 24))=true
 ·rw[h q];rw[Bool.and_eq_true,Bool.and_eq_true]at q;simp[q.1,q.2.1,q.2.2]
 ·clear h;cases qa:fU a 0 5<;>cases qb:fU b 0 8<;>cases qc:fU c 0 24<;>simp_all
def unpack (c:Int):Int×Int×Int:=
 if c<0 then(-1,-1,-1)else if pack (Int.tmod c 8) (Int.tmod (wr (Int.tdiv c 8)) 16) (wr (Int.tdiv c 128))=c then(Int.tmod c 8,Int.tmod (wr (Int.tdiv c 8)) 16,wr (Int.tdiv c 128))else(-1,-1,-1)
theorem iv (c:Int):bk.f c=some (unpack c):=by
 simp only[bk.f,bk.begin,Tr.ah,Tr.ag,Tr.al,Tr.aj,bz.told,iN,af,unpack,decide_eq_true_eq]
 by_cases h:c<0
 ·rw[if_pos h,if_pos h]
 rw[if_neg h,if_neg h]
 by_cases h2:c>100000
 ·have:=CL (Int.tmod c 8) (Int.tmod (wr (Int.tdiv c 8)) 16) (wr (Int.tdiv c 128));rw[if_pos h2,if_neg (by omega)]
 rw[if_neg h2]
 by_cases q:pack (Int.tmod c 8) (Int.tmod (wr (Int.tdiv c 8)) 16) (wr (Int.tdiv c 128))=c<;>simp[q]
theorem iy (c:Int):bm.f c=some (unpack c):=by
 simp only[bm.f,bm.begin,Tr.ah,Tr.ag,Tr.al,Tr.aj,bq.told,iM,af,unpack,decide_eq_true_eq]
 by_cases h:c<0
 ·simp[h]
 by_cases q:pack (Int.tmod c 8) (Int.tmod (wr (Int.tdiv c 8)) 16) (wr (Int.tdiv c 128))=c<;>simp[q,h]
theorem pb (c:Int):unpack c=(-1,-1,-1)∨(0≤(unpack c).1∧(unpack c).1≤5∧0≤(unpack c).2.1∧(unpack c).2.1≤8∧0≤(unpack c).2.2∧(unpack c).2.2≤24):=by
 unfold unpack;split
 ·exact .inl rfl
 split
 ·rename_i h q
  right
  unfold pack at q;split at q
  ·rename_i p;rw[Bool.and_eq_true,Bool.and_eq_true,bd,bd,bd]at p;exact⟨p.1.1,p.1.2,p.2.1.1,p.2.1.2,p.2.2.1,p.2.2.2⟩
  ·omega
 ·exact .inl rfl
def jb (m:List Int) (i:Nat):Bool:=fU (dz m (9+2*(i:Int))) 0 7&&isVal (dz m (9+2*(i:Int)+1))
theorem uj (m:List Int) (hm:m.length=49) (i n:Nat) (h:i<n) (hn:n≤8):
 wr (2*(i:Int))=2*(i:Int)∧wr (9+2*(i:Int))=9+2*(i:Int)∧wr (9+2*(i:Int)+1)=9+2*(i:Int)+1∧((0:Int)≤9+2*(i:Int)∧9+2*(i:Int)<(m.length:Int))∧((0:Int)≤9+2*(i:Int)+1∧9+2*(i:Int)+1<(m.length:Int))∧wr ((i:Int)+1)=((i+1:Nat):Int):=
 ⟨cd (by omega),cd (by omega),cd (by omega),by omega,by omega,aN (by omega)⟩
theorem wx (m:List Int) (hm:m.length=49) (n:Nat) (hn:n≤8):lp fC.tree (.c7 m (n:Int) 0)=some ((List.range n).all (jb m)):=by
 have e:=oM (List.range n) (jb m) true (fun i=>lp fC.tree (.c7 m (n:Int) (i:Int))) (fun i h=>by
  rw[List.length_range]at h;obtain⟨w1,w2,w3,n1,n2,w4⟩:=uj m hm i n h hn;rw[aB,List.getElem_range];simp only[fC.tree,Tr.ag,Tr.al,Tr.ah,Tr.aj,Tr.ai,w1,w2,w3,w4,n1,n2,bh h,and_self,↓reduceIte,aE.told,dG,dH.told,lN,af,jb];rcases Bool.eq_false_or_eq_true (fU (dz m (9+2*(i:Int))) 0 7)with q | q<;>rcases Bool.eq_false_or_eq_true (isVal (dz m (9+2*(i:Int)+1)))with q' | q'<;>simp only[q,q',Bool.not_true,Bool.not_false,Bool.and_self,Bool.and_true,Bool.and_false,Bool.false_eq_true,↓reduceIte]) (by
  rw[aB,List.length_range];simp only[fC.tree,Tr.ag,Tr.aj,dv,Bool.false_eq_true,↓reduceIte])
 rw[Bool.and_true]at e;exact e
theorem vW (m:List Int) (hm:m.length=49) (n:Nat) (hn:n≤8):lp fB.tree (.c7 m (n:Int) 0)=some ((List.range n).all (jb m)):=by
 have e:=oM (List.range n) (jb m) true (fun i=>lp fB.tree (.c7 m (n:Int) (i:Int))) (fun i h=>by
  rw[List.length_range]at h;obtain⟨w1,w2,w3,n1,n2,w4⟩:=uj m hm i n h hn;rw[aB,List.getElem_range];simp only[fB.tree,Tr.ag,Tr.al,Tr.ah,Tr.aj,Tr.ai,w1,w2,w3,w4,n1,n2,bh h,and_self,↓reduceIte,eF.told,eF.f,eF.begin,aK.told,dt,eP.told,oZ,af,jb];rcases Bool.eq_false_or_eq_true (fU (dz m (9+2*(i:Int))) 0 7)with q | q<;>rcases Bool.eq_false_or_eq_true (isVal (dz m (9+2*(i:Int)+1)))with q' | q'<;>simp only[q,q',Bool.not_true,Bool.not_false,Bool.and_self,Bool.and_true,Bool.and_false,Bool.false_eq_true,↓reduceIte]) (by
  rw[aB,List.length_range];simp only[fB.tree,Tr.ag,Tr.aj,dv,Bool.false_eq_true,↓reduceIte])
 rw[Bool.and_true]at e;exact e
def ma (m:List Int):List Int:=(m.take (Int.toNat (25+(unpack (dz m 8)).2.2))).drop 25
def jm (n:Nat) (m:List Int):Bool:=
 decide (m.length=49)&&(!decide ((unpack (dz m 8)).1<0)&&(!decide ((unpack (dz m 8)).1≥(n:Int))&&((m.take 8).all isVal&&((ma m).all isVal&&(List.range (Int.toNat (unpack (dz m 8)).2.1)).all (jb m)))))
theorem nV (m:List Int):(ma m).length≤m.length:=by
 unfold ma;rw[List.length_drop,List.length_take];omega
theorem sH {c:Int} (h:¬(unpack c).1<0):0≤(unpack c).1∧(unpack c).1≤5∧0≤(unpack c).2.1∧(unpack c).2.1≤8∧0≤(unpack c).2.2∧(unpack c).2.2≤24:=by
 rcases pb c with e | e
 ·rw[e]at h;exact absurd (by decide) h
 ·exact e
theorem lV (m:List Int) (hm:m.length=49) (h:¬(unpack (dz m 8)).1<0):
 wr (25+(unpack (dz m 8)).2.2)=25+(unpack (dz m 8)).2.2∧((0:Int)≤25∧(25:Int)≤25+(unpack (dz m 8)).2.2∧25+(unpack (dz m 8)).2.2≤(m.length:Int))∧∃n:Nat,(unpack (dz m 8)).2.1=(n:Int)∧n≤8:=by
 obtain⟨a,b,c,d,e,f⟩:=sH h;exact⟨cd (by omega),⟨by omega,by omega,by omega⟩,(unpack (dz m 8)).2.1.toNat,by omega,by omega⟩
theorem xT (p:List az) (m:List Int) (hp:p.length≤1048576) (hs:∀t∈p,t.f0.length≤1048576):fC.f p m=some (tg p&&jm p.length m):=by
 simp only[fC.f,fC.begin,Tr.ah,Tr.ag,Tr.aj,cv.told,mY p hp hs,af];unfold jm;cases tg p
 ·rfl
 by_cases hm:¬m.length=49
 ·have hm':¬(m.length:Int)=49:=by omega
  simp only[hm,hm',decide_false,Bool.not_false,Bool.not_true,Bool.false_eq_true,↓reduceIte,Bool.false_and,Bool.and_false]
 have hm:m.length=49:=by omega
 have hm':decide ((m.length:Int)=49)=true:=decide_eq_true (by omega);have n1:(0:Int)≤8∧(8:Int)<(m.length:Int):=by omega
 have n2:(0:Int)≤0∧(0:Int)≤8∧(8:Int)≤(m.length:Int):=by omega
 have v1:=jn (m.take 8) (by rw[List.length_take];omega);have v2:=jn (ma m) (Nat.le_trans (nV m) (by omega));rw[show decide (m.length=49)=true from decide_eq_true hm];simp only[hm',Tr.al,Tr.ag,Tr.ah,Tr.aj,Tr.ai,bk.told,iv,bM.told,af,n1,n2,and_self,↓reduceIte,decide_eq_true_eq,Bool.not_true,Bool.false_eq_true,Bool.true_and,show Int.toNat 8=8 from rfl,v1]
 by_cases h1:(unpack (dz m 8)).1<0
 ·simp only[h1,↓reduceIte,decide_true,decide_false,Bool.not_true,Bool.not_false,Bool.false_and,Bool.and_false,Bool.true_and,Bool.false_eq_true]
 by_cases h2:(unpack (dz m 8)).1≥(p.length:Int)
 ·simp only[h1,h2,↓reduceIte,decide_true,decide_false,Bool.not_true,Bool.not_false,Bool.false_and,Bool.and_false,Bool.true_and,Bool.false_eq_true]
 obtain⟨w,n3,n,hn,hn8⟩:=lV m hm h1;have c7:=wx m hm n hn8;unfold ma at v2;simp only[h1,h2,w,n3,hn,and_self,↓reduceIte,decide_false,Bool.not_false,Bool.true_and,show Int.toNat 25=25 from rfl,v2,af,c7,Int.toNat_natCast,ma];rcases Bool.eq_false_or_eq_true ((m.take 8).all isVal)with q | q<;>simp only[q,Bool.not_true,Bool.not_false,Bool.false_eq_true,↓reduceIte,Bool.true_and,Bool.false_and]
 rcases Bool.eq_false_or_eq_true (((m.take (Int.toNat (25+(unpack (dz m 8)).2.2))).drop 25).all isVal)with q | q<;>simp only[q,Bool.not_true,Bool.not_false,Bool.false_eq_true,↓reduceIte,Bool.true_and,Bool.false_and]
theorem xu (p:List az) (m:List Int) (hp:p.length≤1048576) (hs:∀t∈p,t.f0.length≤1048576):fB.f p m=some (tg p&&jm p.length m):=by
 simp only[fB.f,fB.begin,Tr.ah,Tr.ag,Tr.aj,dm.told,mA p hp hs,af];unfold jm;cases tg p
 ·rfl
 by_cases hm:¬m.length=49
 ·have hm':¬(m.length:Int)=49:=by omega
  simp only[hm,hm',decide_false,Bool.not_false,Bool.not_true,Bool.false_eq_true,↓reduceIte,Bool.false_and,Bool.and_false]
 have hm:m.length=49:=by omega
 have hm':decide ((m.length:Int)=49)=true:=decide_eq_true (by omega);have n1:(0:Int)≤8∧(8:Int)<(m.length:Int):=by omega
 have n2:(0:Int)≤0∧(0:Int)≤8∧(8:Int)≤(m.length:Int):=by omega
 have v1:=ju (m.take 8) (by rw[List.length_take];omega);have v2:=ju (ma m) (Nat.le_trans (nV m) (by omega));rw[show decide (m.length=49)=true from decide_eq_true hm];simp only[hm',Tr.al,Tr.ag,Tr.ah,Tr.aj,Tr.ai,bm.told,iy,cu.told,af,n1,n2,and_self,↓reduceIte,decide_eq_true_eq,Bool.not_true,Bool.false_eq_true,Bool.true_and,show Int.toNat 8=8 from rfl,v1]
 by_cases h1:(unpack (dz m 8)).1<0
 ·cases(m.take 8).all isVal<;>simp only[h1,↓reduceIte,decide_true,decide_false,Bool.not_true,Bool.not_false,Bool.false_and,Bool.and_false,Bool.true_and,Bool.false_eq_true]
 by_cases h2:(unpack (dz m 8)).1≥(p.length:Int)
 ·cases(m.take 8).all isVal<;>simp only[h1,h2,↓reduceIte,decide_true,decide_false,Bool.not_true,Bool.not_false,Bool.false_and,Bool.and_false,Bool.true_and,Bool.false_eq_true]
 obtain⟨w,n3,n,hn,hn8⟩:=lV m hm h1;have c7:=vW m hm n hn8;unfold ma at v2;simp only[h1,h2,w,n3,hn,and_self,↓reduceIte,decide_false,Bool.not_false,Bool.true_and,show Int.toNat 25=25 from rfl,v2,af,c7,Int.toNat_natCast,ma];rcases Bool.eq_false_or_eq_true ((m.take 8).all isVal)with q | q<;>simp only[q,Bool.not_true,Bool.not_false,Bool.false_eq_true,↓reduceIte,Bool.true_and,Bool.false_and]
 rcases Bool.eq_false_or_eq_true (((m.take (Int.toNat (25+(unpack (dz m 8)).2.2))).drop 25).all isVal)with q | q<;>simp only[q,Bool.not_true,Bool.not_false,Bool.false_eq_true,↓reduceIte,Bool.true_and,Bool.false_and]
theorem kz (m:List Int) (hm:m.length=49):((0:Int)≤8∧(8:Int)<(m.length:Int)):=by omega
def cS (m:List Int):List Int:=if m.length=49 then(if(unpack (dz m 8)).2.2<0 then[]else ma m)else[]
theorem qO {c:Int} (h:¬(unpack c).2.2<0):¬(unpack c).1<0:=by
 rcases pb c with e | e
 ·rw[e]at h;exact absurd (by decide) h
 ·omega
theorem gA (m:List Int) (n:Nat) (h:m.length≤n):(cS m).length≤n:=by
 unfold cS;split
 ·split
  ·simp
  ·exact Nat.le_trans (nV m) h
 ·simp
theorem ot (m:List Int):eO.f m=some (cS m):=by
 simp only[eO.f,eO.begin,Tr.ag,Tr.al,Tr.ah,Tr.aj,Tr.gL,bk.told,iv,af,List.nil_append];unfold cS
 by_cases hm:m.length=49
 ·have hm':decide ((m.length:Int)=49)=true:=decide_eq_true (by omega);rw[if_pos hm];simp only[hm',kz m hm,and_self,Bool.not_true,Bool.false_eq_true,↓reduceIte,decide_eq_true_eq]
  by_cases h:(unpack (dz m 8)).2.2<0
  ·simp only[h,↓reduceIte]
  ·obtain⟨w,n1,-⟩:=lV m hm (qO h);have hl:=nV m;have n2:((([]:List Int).length:Int)+((ma m).length:Int))*(8:Nat)≤room:=fits [] (ma m) (by simp) (by omega) 8 (by omega);simp only[h,w,n1,and_self,↓reduceIte];exact if_pos n2
 ·have hm':¬(m.length:Int)=49:=by omega
  simp only[hm,hm',decide_false,Bool.not_false,↓reduceIte]
theorem lC (m:List Int):dD.f m=some (cS m):=by
 simp only[dD.f,dD.begin,Tr.ag,Tr.al,Tr.ah,Tr.aj,Tr.gL,bm.told,iy,af];unfold cS
 by_cases hm:m.length=49
 ·have hm':decide ((m.length:Int)=49)=true:=decide_eq_true (by omega);rw[if_pos hm];simp only[hm',kz m hm,and_self,Bool.not_true,Bool.false_eq_true,↓reduceIte,decide_eq_true_eq]
  by_cases h:(unpack (dz m 8)).2.2<0
  ·simp only[h,↓reduceIte]
  ·obtain⟨w,n1,-⟩:=lV m hm (qO h);have hl:=nV m;have n2:=eG (ma m) (by omega);unfold ma at n2;simp only[h,w,n1,and_self,↓reduceIte,aL.told,show Int.toNat 25=25 from rfl,n2,af];rfl
 ·have hm':¬(m.length:Int)=49:=by omega
  simp only[hm,hm',decide_false,Bool.not_false,↓reduceIte]
def qU (a b:List Int):Bool:=decide (a.length≤b.length)&&decide (a=b.take a.length)
theorem qH (a b:List Int) (ha:a.length≤1048576) (hb:b.length≤1048576):bT.f a b=some (qU a b):=by
 simp only[bT.f,bT.begin,Tr.ai];unfold qU;have hend:∀i:Nat,decide ((i:Int)≥(i:Int))=true:=fun i=>decide_eq_true (by omega)
 by_cases h:a.length≤b.length
 ·rw[decide_eq_true h,Bool.true_and];refine AB a (b.take a.length) (by rw[List.length_take];omega) (fun i=>lp bT.tree (.c2 a b (i:Int))) (fun i hi=> ?_) ?_
  ·rw[aB];have h2:i<b.length:=by omega
   have hn:decide ((i:Int)≥(b.length:Int))=false:=decide_eq_false (by omega);simp only[bT.tree,Tr.ag,Tr.al,Tr.aj,Tr.ai,bh hi,hn,bW hi,bW h2,aU hi,aU h2,and_self,decide_true,Bool.false_eq_true,↓reduceIte,aN (show i<4611686018427387904 by omega),List.getElem_take]
   by_cases q:a[i]=b[i]<;>simp[q]
  ·rw[aB];simp only[bT.tree,Tr.ag,Tr.aj,dv,Bool.false_eq_true,↓reduceIte]
 ·rw[decide_eq_false h,Bool.false_and];refine A4 b.length false (fun i=>lp bT.tree (.c2 a b (i:Int))) (fun i hi=> ?_) ?_
  ·have h2:i<a.length:=by omega
   have hn:decide ((i:Int)≥(b.length:Int))=false:=decide_eq_false (by omega);rw[aB];simp only[bT.tree,Tr.ag,Tr.al,Tr.aj,Tr.ai,bh h2,hn,bW hi,bW h2,aU hi,aU h2,and_self,decide_true,Bool.false_eq_true,↓reduceIte,aN (show i<4611686018427387904 by omega)]
   by_cases q:a[i]=b[i]<;>simp[q]
  ·have h2:b.length<a.length:=by omega
   rw[aB];simp only[bT.tree,Tr.ag,Tr.aj,bh h2,hend,↓reduceIte]
theorem ql (a b:List Int) (ha:a.length≤1048576) (hab:a.length=b.length):ck.f a b=some (decide (a=b)):=by
 have hn:decide ((a.length:Int)=(b.length:Int))=true:=decide_eq_true (by omega);simp only[ck.f,ck.begin,Tr.ag,Tr.ai,hn,Bool.not_true,Bool.false_eq_true,↓reduceIte];refine AB a b hab (fun i=>lp ck.tree (.c4 a b (a.length:Int) (i:Int))) (fun i hi=> ?_) ?_
 ·rw[aB];have h2:i<b.length:=by omega
  simp only[ck.tree,Tr.ag,Tr.al,Tr.aj,Tr.ai,bh hi,bW hi,bW h2,aU hi,aU h2,and_self,decide_true,↓reduceIte,aN (show i<4611686018427387904 by omega)]
  by_cases q:a[i]=b[i]<;>simp[q]
 ·rw[aB];simp only[ck.tree,Tr.ag,Tr.aj,dv,Bool.false_eq_true,↓reduceIte]
theorem jW (a b:List Int) (ha:a.length≤1048576) (hb:b.length≤1048576):cI.f a b=some (qU a b):=by
 simp only[cI.f,cI.begin,Tr.ah,Tr.ag,Tr.al,Tr.aj];unfold qU
 by_cases h:a.length≤b.length
 ·have h':(a.length:Int)≤(b.length:Int):=by omega
  have n1:(0:Int)≤0∧(0:Int)≤(a.length:Int)∧(a.length:Int)≤(b.length:Int):=by omega
  simp only[h,h',n1,and_self,decide_true,↓reduceIte,Int.toNat_natCast,ck.told,ql a (b.take a.length) ha (by rw[List.length_take];omega),af,Bool.true_and]
 ·have h':¬(a.length:Int)≤(b.length:Int):=by omega
  simp only[h,h',decide_false,Bool.false_eq_true,↓reduceIte,Bool.false_and]
def kq (m:List Int) (at_:Int) (h:List Int):Bool:=fU at_ 0 h.length&&qU h (cS m)
theorem pw (m:List Int) (x:Int) (h:List Int) (hm:m.length≤1048576) (hh:h.length≤1048576):fu.f m x h=some (kq m x h):=by
 simp only[fu.f,fu.begin,Tr.bf,Tr.ah,Tr.ag,Tr.aj,aE.told,dG,eO.told,ot,bT.told,qH h (cS m) hh (gA m _ hm),af,kq];cases fU x 0 (h.length:Int)<;>rfl
theorem pJ (m:List Int) (x:Int) (h:List Int) (hm:m.length≤1048576) (hh:h.length≤1048576):fv.f m x h=some (kq m x h):=by
 simp only[fv.f,fv.begin,Tr.bf,Tr.ah,Tr.ag,Tr.aj,aK.told,dt,dD.told,lC,cI.told,jW h (cS m) hh (gA m _ hm),af,kq];cases fU x 0 (h.length:Int)<;>rfl
def jG (a b:Int):Bool:=decide (a≥0)&&(decide (a≤b)&&decide (b≤1000000))
theorem pK (a b:Int):fw.f a b=some (jG a b):=by
 simp only[fw.f,fw.begin,Tr.ag,Tr.aj,jG];cases decide (a≥0)<;>cases decide (a≤b)<;>rfl
theorem pL (a b:Int):fb.f a b=some (jG a b):=by
 simp only[fb.f,fb.begin,Tr.ag,Tr.aj,jG];cases decide (a≥0)<;>cases decide (a≤b)<;>rfl
def gW (p:List az) (m r:List Int) (a3 a4 a5 a6 a7 a8 a9 a10:Int) (h:List Int) (a12:Int):Bool:=
 (tg p&&jm p.length m)&&(gQ a4 a5 a6 a7&&(r.all isVal&&(fU a3 0 400000&&(jG a8 a9&&(kq m a10 h&&fU a12 0 100000)))))
theorem mr (p:List az) (m r:List Int) (a3 a4 a5 a6 a7 a8 a9 a10:Int) (h:List Int) (a12:Int) (hp:p.length≤1048576) (hs:∀t∈p,t.f0.length≤1048576) (hm:m.length≤1048576) (hr:r.length≤1048576) (hh:h.length≤1048576):
 eZ.f p m r a3 a4 a5 a6 a7 a8 a9 a10 h a12=some (gW p m r a3 a4 a5 a6 a7 a8 a9 a10 h a12):=by
 simp only[eZ.f,eZ.begin,Tr.ah,Tr.ag,Tr.aj,fC.told,xT p m hp hs,eN.told,oy,bM.told,jn r hr,aE.told,dG,fw.told,pK,fu.told,pw m a10 h hm hh,af,gW];cases(tg p&&jm p.length m)<;>cases gQ a4 a5 a6 a7<;>cases r.all isVal<;>cases fU a3 0 400000<;>cases jG a8 a9<;>cases kq m a10 h<;>rfl
theorem iB (p:List az) (m r:List Int) (a3 a4 a5 a6 a7 a8 a9 a10:Int) (h:List Int) (a12:Int) (hp:p.length≤1048576) (hs:∀t∈p,t.f0.length≤1048576) (hm:m.length≤1048576) (hr:r.length≤1048576) (hh:h.length≤1048576):
 cJ.f p m r a3 a4 a5 a6 a7 a8 a9 a10 h a12=some (gW p m r a3 a4 a5 a6 a7 a8 a9 a10 h a12):=by
 simp only[cJ.f,cJ.begin,Tr.ah,Tr.ag,Tr.aj,fB.told,xu p m hp hs,fF.told,vm,cu.told,ju r hr,aK.told,dt,fb.told,pL,fv.told,pJ m a10 h hm hh,af,gW];cases(tg p&&jm p.length m)<;>cases gQ a4 a5 a6 a7<;>cases r.all isVal<;>cases fU a3 0 400000<;>cases jG a8 a9<;>cases kq m a10 h<;>rfl
def oI (p:List az) (m r:List Int) (a3 a4 a5 a6 a7 a8 a9 a10:Int) (h:List Int) (a12:Int):List Int:=if gW p m r a3 a4 a5 a6 a7 a8 a9 a10 h a12=true then cS m else[]
theorem mf (p:List az) (m r:List Int) (a3 a4 a5 a6 a7 a8 a9 a10:Int) (h:List Int) (a12:Int) (hp:p.length≤1048576) (hs:∀t∈p,t.f0.length≤1048576) (hm:m.length≤1048576) (hr:r.length≤1048576) (hh:h.length≤1048576):
 fA.f p m r a3 a4 a5 a6 a7 a8 a9 a10 h a12=some (oI p m r a3 a4 a5 a6 a7 a8 a9 a10 h a12):=by
 simp only[fA.f,fA.begin,Tr.ah,Tr.ag,Tr.aj,cJ.told,iB p m r a3 a4 a5 a6 a7 a8 a9 a10 h a12 hp hs hm hr hh,dD.told,lC,af,oI];cases gW p m r a3 a4 a5 a6 a7 a8 a9 a10 h a12<;>rfl
theorem sD {A S R:Type} (l:List A) (f:S→A→S) (g:S→R) (Inv:Nat→S→Prop) (L:Nat→S→Option R) (s:S) (h0:Inv 0 s)
 (hstep:∀i (h:i<l.length) s,Inv i s→L i s=L (i+1) (f s l[i])∧Inv (i+1) (f s l[i])) (hend:∀s,Inv l.length s→L l.length s=some (g s)):L 0 s=some (g (l.foldl f s)):=by
 have key:∀(n i:Nat) s,i+n=l.length→Inv i s→L i s=some (g ((l.drop i).foldl f s)):=by
  intro n
  induction n with
  | zero=>intro i s hi hI;obtain rfl:i=l.length:=(by omega);rw[List.drop_length];exact hend s hI
  | succ n ih=>
    intro i s hi hI;have h:i<l.length:=by omega
    obtain⟨e,hI'⟩:=hstep i h s hI;rw[e,ih (i+1) _ (by omega) hI',List.drop_eq_getElem_cons h,List.foldl_cons]
 exact key l.length 0 s (by omega) h0
theorem uK {B R:Type} (n:Nat) (f:Nat→B) (g:List B→R) (L:Nat→List B→Option R) (k:Nat) (hk:k≤n)
 (hstep:∀i,i<n→∀s:List B,s.length≤i→L i s=L (i+1) (s++[f i])) (hend:∀s,L n s=some (g s)):L k []=some (g ((List.range' k (n-k)).map f)):=by
 have key:∀(m i:Nat) (s:List B),i+m=n→s.length≤i→L i s=some (g (s++(List.range' i m).map f)):=by
  intro m
  induction m with
  | zero=>intro i s hi hs;obtain rfl:i=n:=(by omega);rw[hend];simp
  | succ m ih=>
    intro i s hi hs;rw[hstep i (by omega) s hs,ih (i+1) _ (by omega) (by rw[List.length_append,List.length_singleton];omega),List.range'_succ,List.map_cons,List.append_assoc];rfl
 have:=key (n-k) k [] (by omega) (by simp)
 simpa using this
def lM (l:List Int) (k:Int):List iw:=if fU k 0 l.length=true then(List.range' k.toNat (l.length-k.toNat)).map fun(i:Nat)=>(⟨(i:Int),dz l (i:Int)⟩:iw)else[]
theorem yv (l:List Int) (k:Int):(lM l k).length≤l.length:=by
 unfold lM;split
 ·rw[List.length_map,List.length_range'];omega
 ·simp
theorem dR {B:Type} (s:List B) (x:B) (n:Nat) (hs:s.length≤n) (hn:n≤1048576) (k:Nat) (hk:k≤1000):((s.length:Int)+(([x]:List B).length:Int))*(k:Nat)≤room:=fits s [x] (by omega) (by simp) k hk
theorem sc (m:List Int) (k:Int) (hm:m.length≤1048576):cQ.f m k=some (lM (cS m) k):=by
 have hl:=gA m 1048576 hm;simp only[cQ.f,cQ.begin,Tr.ah,Tr.ag,Tr.aj,Tr.ai,eO.told,ot,aE.told,dG,af];unfold lM;cases hb:fU k 0 ((cS m).length:Int)with
 | false=>rfl
 | true=>
   rw[bd]at hb;obtain⟨j,rfl⟩:∃j:Nat,k=j:=⟨k.toNat,by omega⟩;simp only[Bool.not_true,Bool.false_eq_true,↓reduceIte,Int.toNat_natCast];refine uK (cS m).length (fun i=>(⟨(i:Int),dz (cS m) (i:Int)⟩:iw)) id (fun i s=>lp cQ.tree (.c6 s (cS m) (i:Int))) j (by omega) (fun i h s hs=> ?_) (fun s=> ?_)
   ·rw[aB];have h1:∀x:iw,((s.length:Int)+(([x]:List iw).length:Int))*(16:Nat)≤room:=fun x=>dR s x 1048576 (by omega) (by omega) 16 (by omega);simp only[cQ.tree,Tr.ag,Tr.al,Tr.ai,bh h,bW h,and_self,h1,decide_true,↓reduceIte,aN (show i<4611686018427387904 by omega)]
   ·rw[aB];simp only[cQ.tree,Tr.ag,Tr.aj,dv,Bool.false_eq_true,↓reduceIte,id]
theorem sq (m:List Int) (k:Int) (hm:m.length≤1048576):cM.f m k=some (lM (cS m) k):=by
 have hl:=gA m 1048576 hm;simp only[cM.f,cM.begin,Tr.ah,Tr.ag,Tr.aj,Tr.ai,dD.told,lC m,aK.told,dt,af];unfold lM;cases hb:fU k 0 ((cS m).length:Int)with
 | false=>rfl
 | true=>
   rw[bd]at hb;obtain⟨j,rfl⟩:∃j:Nat,k=j:=⟨k.toNat,by omega⟩;simp only[Bool.not_true,Bool.false_eq_true,↓reduceIte,Int.toNat_natCast];refine uK (cS m).length (fun i=>(⟨(i:Int),dz (cS m) (i:Int)⟩:iw)) id (fun i s=>lp cM.tree (.c6 (cS m) s (i:Int))) j (by omega) (fun i h s hs=> ?_) (fun s=> ?_)
   ·rw[aB];have h1:∀x:iw,((s.length:Int)+(([x]:List iw).length:Int))*(16:Nat)≤room:=fun x=>dR s x 1048576 (by omega) (by omega) 16 (by omega);simp only[cM.tree,Tr.ag,Tr.al,Tr.ai,bh h,bW h,and_self,h1,decide_true,↓reduceIte,aN (show i<4611686018427387904 by omega)]
   ·rw[aB];simp only[cM.tree,Tr.ag,Tr.aj,dv,Bool.false_eq_true,↓reduceIte,id]
def ri (g:List Int) (a b:Int):List Int:=if a=(g.length:Int)then(if(g.length:Int)<255 then g++[b]else g)else g
theorem B6 (g:List Int) (a b:Int) (h:g.length≤1048576):(ri g a b).length≤1048576:=by
 unfold ri;split
 ·split
  ·rw[List.length_append,List.length_singleton];omega
  ·exact h
 ·exact h
theorem vi (g:List Int) (a b:Int) (hg:g.length≤1048576):fD.f g a b=some (ri g a b):=by
 simp only[fD.f,fD.begin,Tr.ag,Tr.al,Tr.aj,dR g b 1048576 hg (by omega) 8 (by omega),↓reduceIte,decide_eq_true_eq,ri];split
 ·split<;>rfl
 ·rfl
theorem vy (g:List Int) (a b:Int) (hg:g.length≤1048576):fE.f g a b=some (ri g a b,((ri g a b).length:Int)):=by
 simp only[fE.f,fE.begin,Tr.ag,Tr.al,Tr.aj,Tr.ah,Tr.fq,Tr.bf,aL.told,eG g hg,af,dR g b 1048576 hg (by omega) 8 (by omega),↓reduceIte,decide_eq_true_eq,cB,ri];split
 ·split<;>rfl
 ·rfl
def iG (g:List Int) (p:iw×Bool):List Int:=if p.2=true then ri g p.1.f0 p.1.f1 else g
def kv (g:List Int) (l:List iw) (k:List Bool):List Int:=(l.zip k).foldl iG g
theorem sL (g:List Int) (p:iw×Bool) (h:g.length≤1048576):(iG g p).length≤1048576:=by
 unfold iG;split
 ·exact B6 _ _ _ h
 ·exact h
theorem qS (g:List Int) (l:List iw) (k:List Bool) (hg:g.length≤1048576) (hl:l.length≤1048576) (hk:k.length≤1048576):bR.f g l k=some (kv g l k,((kv g l k).length:Int)):=by
 simp only[bR.f,bR.begin,Tr.al,Tr.ai,fits ([]:List Int) g (by simp) hg 8 (by omega),↓reduceIte,List.nil_append];refine sD (l.zip k) iG (fun s=>(s,(s.length:Int))) (fun _ s=>s.length≤1048576) (fun i s=>lp bR.tree (.c3 l k [] s (i:Int))) g hg (fun i h s hs=> ?_) (fun s hs=> ?_)
 ·have h':=h;rw[List.length_zip]at h';have h1:i<l.length:=by omega
  have h2:i<k.length:=by omega
  refine⟨?_,sL _ _ hs⟩;rw[aB,List.getElem_zip];simp only[bR.tree,Tr.ag,Tr.al,Tr.ai,Tr.ah,fD.told,bh h1,bh h2,bW h1,bW h2,aU h1,aU h2,and_self,↓reduceIte,vi s _ _ hs,af,aN (show i<4611686018427387904 by omega),iG];cases k[i]<;>rfl
 ·rw[aB,List.length_zip]
  by_cases h:l.length≤k.length
  ·simp only[bR.tree,Tr.ag,Tr.aj,Nat.min_eq_left h,dv,Bool.false_eq_true,↓reduceIte]
  ·simp only[bR.tree,Tr.ag,Tr.aj,Nat.min_eq_right (by omega:k.length≤l.length),dv,Bool.false_eq_true,↓reduceIte];split<;>rfl
theorem qF (g:List Int) (l:List iw) (k:List Bool) (hg:g.length≤1048576) (hl:l.length≤1048576) (hk:k.length≤1048576):bI.f g l k=some (kv g l k,((kv g l k).length:Int)):=by
 simp only[bI.f,bI.begin,Tr.ah,Tr.ai,aL.told,eG g hg,af];refine sD (l.zip k) iG (fun s=>(s,(s.length:Int))) (fun _ s=>s.length≤1048576) (fun i s=>lp bI.tree (.c3 k [] s l (List.length l:Int) (i:Int))) g hg (fun i h s hs=> ?_) (fun s hs=> ?_)
 ·have h':=h;rw[List.length_zip]at h';have h1:i<l.length:=by omega
  have h2:i<k.length:=by omega
  refine⟨?_,sL _ _ hs⟩;rw[aB,List.getElem_zip];simp only[bI.tree,Tr.ag,Tr.al,Tr.ai,Tr.ah,fE.told,bh h1,bh h2,bW h1,bW h2,aU h1,aU h2,and_self,↓reduceIte,vy s _ _ hs,af,aN (show i<4611686018427387904 by omega),iG];cases k[i]<;>rfl
 ·have key:∀(n i:Nat),i+n=l.length→min l.length k.length≤i→lp bI.tree (.c3 k [] s l (List.length l:Int) (i:Int))=some (s,(s.length:Int)):=by
   intro n
   induction n with
   | zero=>
     intro i hi _;obtain rfl:i=l.length:=by omega
     rw[aB];simp only[bI.tree,Tr.ag,Tr.fq,Tr.bf,Tr.aj,dv,Bool.false_eq_true,↓reduceIte,cB]
   | succ n ih=>
     intro i hi hm;have h1:i<l.length:=by omega
     have h2:decide ((i:Int)<(k.length:Int))=false:=decide_eq_false (by omega);rw[aB];simp only[bI.tree,Tr.ag,Tr.al,Tr.ai,bh h1,h2,bW h1,and_self,↓reduceIte,Bool.false_eq_true,aN (show i<4611686018427387904 by omega)];exact ih (i+1) (by omega) (by omega)
  rw[List.length_zip];exact key (l.length-min l.length k.length) (min l.length k.length) (by omega) (Nat.le_refl _)
theorem oc (x:Int) (h:List Int) (hh:h.length≤1048576):eQ.f x h=some (x,h):=by
 simp only[eQ.f,eQ.begin,Tr.fq,Tr.bf,Tr.al,Tr.aj,fits ([]:List Int) h (by simp) hh 8 (by omega),↓reduceIte,List.nil_append,cB]
theorem nO (x:Int) (h:List Int) (hh:h.length≤1048576):dN.f x h=some (x,h):=by
 simp only[dN.f,dN.begin,Tr.fq,Tr.bf,Tr.ah,Tr.aj,aL.told,eG h hh,af,cB]
def kr (m:List Int) (x:Int) (h:List Int) (k:List Bool) (b:Bool):Int×List Int×Bool:=
 if kq m x h=true then(if b=true then((kv h (lM (cS m) x) k).length:Int)else x,kv h (lM (cS m) x) k,true)else(x,h,false)
theorem sE (m:List Int) (x:Int) (h:List Int) (k:List Bool) (b:Bool) (hm:m.length≤1048576) (hh:h.length≤1048576) (hk:k.length≤1048576):ef.f m x h k b=some (kr m x h k b):=by
 have hp:=Nat.le_trans (yv (cS m) x) (gA m _ hm);simp only[ef.f,ef.begin,Tr.ah,Tr.ag,Tr.fq,Tr.bf,Tr.aj,eQ.told,oc x h hh,fu.told,pw m x h hm hh,cQ.told,sc m x hm,bR.told,qS h _ k hh hp hk,af,cB,kr];cases kq m x h<;>cases b<;>rfl
theorem rV (m:List Int) (x:Int) (h:List Int) (k:List Bool) (b:Bool) (hm:m.length≤1048576) (hh:h.length≤1048576) (hk:k.length≤1048576):eu.f m x h k b=some (kr m x h k b):=by
 have hp:=Nat.le_trans (yv (cS m) x) (gA m _ hm);simp only[eu.f,eu.begin,Tr.ah,Tr.ag,Tr.fq,Tr.bf,Tr.aj,dN.told,nO x h hh,fv.told,pJ m x h hm hh,cM.told,sq m x hm,bI.told,qF h _ k hh hp hk,af,cB,kr];cases kq m x h<;>cases b<;>rfl
theorem nX (p:List az) (m r:List Int) (a3 a4 a5 a6 a7 a8 a9 a10:Int) (h:List Int) (a12:Int) (hp:p.length≤1048576) (hs:∀t∈p,t.f0.length≤1048576) (hm:m.length≤1048576) (hr:r.length≤1048576) (hh:h.length≤1048576):
 cV.f p m r a3 a4 a5 a6 a7 a8 a9 a10 h a12=some (p,m,r,a3,a4,a5,a6,a7,a8,a9,a10,h,a12):=by
 simp only[cV.f,cV.begin,Tr.ah,Tr.al,Tr.aj,ca.told,oe p hp hs,eQ.told,oc _ h hh,fits ([]:List Int) m (by simp) hm 8 (by omega),fits ([]:List Int) r (by simp) hr 8 (by omega),af,↓reduceIte,List.nil_append]
theorem nE (p:List az) (m r:List Int) (a3 a4 a5 a6 a7 a8 a9 a10:Int) (h:List Int) (a12:Int) (hp:p.length≤1048576) (hs:∀t∈p,t.f0.length≤1048576) (hm:m.length≤1048576) (hr:r.length≤1048576) (hh:h.length≤1048576):
 cZ.f p m r a3 a4 a5 a6 a7 a8 a9 a10 h a12=some (p,m,r,a3,a4,a5,a6,a7,a8,a9,a10,h,a12):=by
 simp only[cZ.f,cZ.begin,Tr.ah,Tr.bf,Tr.aj,cf.told,p9 p hp hs,aL.told,eG m hm,eG r hr,dN.told,nO _ h hh,af]
def vp (p:List az) (m r:List Int) (a3 a4 a5 a6 a7 a8 a9 a10:Int) (h:List Int) (a12:Int) (k:List Bool) (b:Bool):List az×List Int×List Int×Int×Int×Int×Int×Int×Int×Int×Int×List Int×Int×Bool:=
 if gW p m r a3 a4 a5 a6 a7 a8 a9 a10 h a12=true then(p,m,r,a3,a4,a5,a6,a7,a8,a9,(kr m a10 h k b).1,(kr m a10 h k b).2.1,a12,true)else(p,m,r,a3,a4,a5,a6,a7,a8,a9,a10,h,a12,false)
theorem vX (p:List az) (m r:List Int) (a3 a4 a5 a6 a7 a8 a9 a10:Int) (h:List Int) (a12:Int) (k:List Bool) (b:Bool) (hp:p.length≤1048576) (hs:∀t∈p,t.f0.length≤1048576) (hm:m.length≤1048576) (hr:r.length≤1048576) (hh:h.length≤1048576) (hk:k.length≤1048576):
 fy.f p m r a3 a4 a5 a6 a7 a8 a9 a10 h a12 k b=some (vp p m r a3 a4 a5 a6 a7 a8 a9 a10 h a12 k b):=by
 simp only[fy.f,fy.begin,Tr.ah,Tr.ag,Tr.aj,cV.told,nX p m r a3 a4 a5 a6 a7 a8 a9 a10 h a12 hp hs hm hr hh,eZ.told,mr p m r a3 a4 a5 a6 a7 a8 a9 a10 h a12 hp hs hm hr hh,ef.told,sE m a10 h k b hm hh hk,af,vp];cases gW p m r a3 a4 a5 a6 a7 a8 a9 a10 h a12<;>rfl
theorem pE (p:List az) (m r:List Int) (a3 a4 a5 a6 a7 a8 a9 a10:Int) (h:List Int) (a12:Int) (k:List Bool) (b:Bool) (hp:p.length≤1048576) (hs:∀t∈p,t.f0.length≤1048576) (hm:m.length≤1048576) (hr:r.length≤1048576) (hh:h.length≤1048576) (hk:k.length≤1048576):
 fa.f p m r a3 a4 a5 a6 a7 a8 a9 a10 h a12 k b=some (vp p m r a3 a4 a5 a6 a7 a8 a9 a10 h a12 k b):=by
 simp only[fa.f,fa.begin,Tr.ah,Tr.ag,Tr.aj,cZ.told,nE p m r a3 a4 a5 a6 a7 a8 a9 a10 h a12 hp hs hm hr hh,cJ.told,iB p m r a3 a4 a5 a6 a7 a8 a9 a10 h a12 hp hs hm hr hh,eu.told,rV m a10 h k b hm hh hk,af,vp];cases gW p m r a3 a4 a5 a6 a7 a8 a9 a10 h a12<;>rfl
def sat (n:Int):Int:=if n< -1000000 then -1000000 else if n>1000000 then 1000000 else n
theorem oF (n:Int): -1000000≤sat n∧sat n≤1000000:=by unfold sat;split;omega;split<;>omega
theorem yj (a:Int):dB.f a (-1000000) 1000000=some (sat a):=by
 simp only[dB.f,dB.begin,Tr.ag,Tr.aj,decide_eq_true_eq,sat];rw[if_neg (by omega)];split
 ·rfl
 ·split<;>rfl
theorem xo (a:Int):db.f a (-1000000) 1000000=some (sat a):=by
 simp only[db.f,db.begin,Tr.ag,Tr.aj,decide_eq_true_eq,sat];rw[if_neg (by omega)];refine congrArg some (show(_:Int)=_ from ?_);split<;>split<;>(try split)<;>(try split)<;>omega
theorem kO (a:Int):bP.f a=some (sat a):=by simp only[bP.f,bP.begin,Tr.ah,Tr.aj,dB.told,yj,af]
theorem kS (a:Int):bQ.f a=some (sat a):=by simp only[bQ.f,bQ.begin,Tr.ah,Tr.aj,db.told,xo,af]
theorem AK (a b:Int):wr (sat a+sat b)=sat a+sat b:=cd (by have:=oF a;have:=oF b;omega)
theorem AO (a b:Int):wr (sat a-sat b)=sat a-sat b:=cd (by have:=oF a;have:=oF b;omega)
theorem Dy (x y:Int) (hx: -1000000≤x∧x≤1000000) (hy: -1000000≤y∧y≤1000000): -1000000000000≤x*y∧x*y≤1000000000000:=by
 have h1:=Int.mul_nonneg (a:=1000000-x) (b:=1000000-y) (by omega) (by omega);have h2:=Int.mul_nonneg (a:=1000000+x) (b:=1000000+y) (by omega) (by omega);have h3:=Int.mul_nonneg (a:=1000000-x) (b:=1000000+y) (by omega) (by omega);have h4:=Int.mul_nonneg (a:=1000000+x) (b:=1000000-y) (by omega) (by omega);rw[Int.sub_mul,Int.mul_sub,Int.mul_sub]at h1;rw[Int.add_mul,Int.mul_add,Int.mul_add]at h2;rw[Int.sub_mul,Int.mul_add,Int.mul_add]at h3;rw[Int.add_mul,Int.mul_sub,Int.mul_sub]at h4;generalize x*y=p at*;omega
theorem AH (a b:Int):wr (sat a*sat b)=sat a*sat b:=cd (by have:=Dy _ _ (oF a) (oF b);omega)
theorem mQ (a b:Int):dk.f a b=some (sat (sat a+sat b)):=by simp only[dk.f,dk.begin,Tr.ah,Tr.aj,bP.told,kO,af,AK]
theorem mX (a b:Int):dn.f a b=some (sat (sat a+sat b)):=by simp only[dn.f,dn.begin,Tr.ah,Tr.aj,bQ.told,kS,af,AK]
theorem rN (a b:Int):dP.f a b=some (sat (sat a-sat b)):=by simp only[dP.f,dP.begin,Tr.ah,Tr.aj,bP.told,kO,af,AO]
theorem rQ (a b:Int):ey.f a b=some (sat (sat a-sat b)):=by simp only[ey.f,ey.begin,Tr.ah,Tr.aj,bQ.told,kS,af,AO]
theorem sa (a b:Int):dZ.f a b=some (sat (sat a*sat b)):=by simp only[dZ.f,dZ.begin,Tr.ah,Tr.aj,bP.told,kO,af,AH]
theorem rM (a b:Int):dW.f a b=some (sat (sat a*sat b)):=by simp only[dW.f,dW.begin,Tr.ah,Tr.aj,bQ.told,kS,af,AH]
def A3 (b:Bool):Int:=if b=true then 1 else 0
theorem pN (b:Bool):fJ.f b=some (A3 b):=by cases b<;>rfl
theorem vv (b:Bool):gM.f b=some (A3 b):=by cases b<;>rfl
def val (vs:List Int) (n:Int):Int:=if n<0 then dz vs (-1-n)else n
theorem wT {vs:List Int} {n:Int} (hv:vs.length=8) (hn: -8≤n) (h:n<0):wr (-1-n)= -1-n∧((0:Int)≤-1-n∧-1-n<(vs.length:Int)):=⟨cd (by omega),by omega,by omega⟩
theorem nF (vs:List Int) (n:Int) (hv:vs.length=8) (hn: -8≤n):eE.f vs n=some (val vs n):=by
 simp only[eE.f,eE.begin,Tr.ag,Tr.al,Tr.aj,decide_eq_true_eq];unfold val
 by_cases h:n<0
 ·obtain⟨w,f⟩:=wT hv hn h;rw[if_pos h,if_pos h,w,if_pos f]
 ·rw[if_neg h,if_neg h]
theorem oW (vs:List Int) (n:Int) (hv:vs.length=8) (hn: -8≤n):fi.f vs n=some (val vs n):=by
 simp only[fi.f,fi.begin,Tr.ag,Tr.al,Tr.aj,decide_eq_true_eq];unfold val
 by_cases h:n<0
 ·obtain⟨w,f⟩:=wT hv hn h;rw[if_pos h,if_pos h,w,if_pos f]
 ·rw[if_neg h,if_neg h]
def Di (vs:List Int) (o a b:Int):Int:=
 if o=1 then sat (sat (val vs a)+sat (val vs b))else if o=2 then sat (sat (val vs a)-sat (val vs b))else if o=3 then sat (sat (val vs a)*sat (val vs b))
 else if o=4 then(if val vs b<val vs a then val vs b else val vs a)else if o=5 then(if val vs b>val vs a then val vs b else val vs a)
 else if o=6 then A3 (decide (val vs a<val vs b))else A3 (decide (val vs a=val vs b))
theorem vk (vs:List Int) (o a b:Int) (hv:vs.length=8) (ha: -8≤a) (hb: -8≤b):cw.f vs o a b=some (Di vs o a b):=by
 simp only[cw.f,cw.begin,Tr.ah,Tr.ag,Tr.aj,eE.told,nF vs a hv ha,nF vs b hv hb,dk.told,mQ,dP.told,rN,dZ.told,sa,fJ.told,pN,af,decide_eq_true_eq,Di];split
 ·rfl
 split
 ·rfl
 split
 ·rfl
 split
 ·rfl
 split
 ·rfl
 split<;>rfl
def Av (vs:List Int):Bool:=vs.all isVal&&decide ((vs.length:Int)=8)
theorem vg {o a b:Int} (h:po o a b=true):(1≤o∧o≤7)∧(-8≤a∧a≤999)∧(-8≤b∧b≤999):=by
 unfold po at h;rw[Bool.and_eq_true,Bool.and_eq_true,bd,bd,bd]at h;exact⟨h.1,h.2.1,h.2.2⟩
theorem CH {vs:List Int} (h:Av vs=true):vs.length=8:=by
 unfold Av at h;rw[Bool.and_eq_true]at h;have:=of_decide_eq_true h.2;omega
theorem tx (vs:List Int) (o a b:Int) (hl:vs.length≤1048576):cr.f vs o a b=some (if Av vs=true then(if po o a b=true then Di vs o a b else 0)else 0):=by
 simp only[cr.f,cr.begin,Tr.ah,Tr.ag,Tr.aj,Tr.bf,fz.told,pH vs hl,da.told,iA,af];show(if(!Av vs)=true then _ else _)=_;cases hv:Av vs with
 | false=>rfl
 | true=>
   cases hx:po o a b with
   | false=>rfl
   | true=>
     obtain⟨_,ha,hb⟩:=vg hx;have hl8:=CH hv;simp only[Bool.not_true,Bool.false_eq_true,↓reduceIte,fi.told,oW vs a hl8 ha.1,oW vs b hl8 hb.1,dn.told,mX,ey.told,rQ,dW.told,rM,gM.told,vv,af,decide_eq_true_eq,Di];split
     ·rfl
     split
     ·rfl
     split
     ·rfl
     split
     ·rfl
     split
     ·rfl
     split<;>rfl
theorem wP {x:Int}:isVal x=true↔-1000000≤x∧x≤1000000:=bd
theorem AW {vs:List Int} (h:vs.all isVal=true) (i:Int):isVal (dz vs i)=true:=by
 unfold dz;rw[List.getD_eq_getElem?_getD];cases hg:vs[i.toNat]? with
 | none=>rfl
 | some x=>exact List.all_eq_true.mp h x (List.mem_of_getElem? hg)
theorem AJ {vs:List Int} {n:Int} (h:vs.all isVal=true) (hn:n≤999):isVal (val vs n)=true:=by
 unfold val;split
 ·exact AW h _
 ·rw[wP];omega
theorem CE {vs:List Int} {o a b:Int} (hv:Av vs=true) (hx:po o a b=true):isVal (Di vs o a b)=true:=by
 unfold Av at hv;rw[Bool.and_eq_true]at hv;obtain⟨_,ha,hb⟩:=vg hx;have va:=AJ (n:=a) hv.1 ha.2;have vb:=AJ (n:=b) hv.1 hb.2;have hs:∀n,isVal (sat n)=true:=fun n=>wP.mpr (oF n);have h01:∀b,isVal (A3 b)=true:=fun b=>by cases b<;>rfl
 unfold Di;split
 ·exact hs _
 split
 ·exact hs _
 split
 ·exact hs _
 split
 ·split
  ·exact vb
  ·exact va
 split
 ·split
  ·exact vb
  ·exact va
 split
 ·exact h01 _
 ·exact h01 _
def qK (m:List Int):Nat→List fY→Option (List fY)
 | 0,acc=>some acc
 | i+1,acc=>if fU (dz m (9+2*(i:Int))) 0 7=true then qK m i (acc++[(⟨dz m (9+2*(i:Int)),dz m (9+2*(i:Int)+1)⟩:fY)])else none
def rT (m:List Int) (o:Option (List fY)):List fY:=match o with
 | some l=>l++[(⟨8,pack (unpack (dz m 8)).1 0 (unpack (dz m 8)).2.2⟩:fY)]
 | none=>[]
def k7 (m:List Int):List fY:=if m.length=49 then(if(unpack (dz m 8)).2.1<1 then[]else rT m (qK m (unpack (dz m 8)).2.1.toNat []))else[]
theorem zv (m:List Int):∀(i:Nat) (acc l:List fY),qK m i acc=some l→l.length=acc.length+i
 | 0,acc,l,h=>by cases h;rfl
 | i+1,acc,l,h=>by
   unfold qK at h;split at h
   ·have:=zv m i _ l h;rw[List.length_append,List.length_singleton]at this;omega
   ·cases h
theorem nd (c:Int) (h:¬(unpack c).2.1<1):(unpack c).2.1≤8:=by
 rcases pb c with e | e
 ·rw[e]at h;exact absurd (by decide) h
 ·omega
theorem uR (m:List Int):(k7 m).length≤9:=by
 unfold k7;split
 ·split
  ·simp
  ·rename_i h;have h8:=nd _ h;unfold rT;split
   ·rename_i l hl;have:=zv m _ _ _ hl;rw[List.length_append,List.length_singleton];rw[List.length_nil]at this;omega
   ·simp
 ·simp
theorem w9 (m:List Int) (hm:m.length=49) (i:Nat) (hi:i<8):
 wr (2*(i:Int))=2*(i:Int)∧wr (9+2*(i:Int))=9+2*(i:Int)∧wr (9+2*(i:Int)+1)=9+2*(i:Int)+1∧((0:Int)≤9+2*(i:Int)∧9+2*(i:Int)<(m.length:Int))∧((0:Int)≤9+2*(i:Int)+1∧9+2*(i:Int)+1<(m.length:Int))∧wr ((i:Int)-1)=(i:Int)-1∧((i+1:Nat):Int)-1=(i:Int)∧decide ((i:Int)≥0)=true:=
 ⟨cd (by omega),cd (by omega),cd (by omega),by omega,by omega,cd (by omega),by omega,decide_eq_true (by omega)⟩
theorem pI (m:List Int) (hm:m.length=49) (t c tl:Int) (hc:¬c<1):∀(i:Nat) (acc:List fY),i≤8→acc.length+i≤8→
 lp ba.tree (.c6 m acc t c tl ((i:Int)-1))=some (match qK m i acc with | some l=>l++[(⟨8,pack t 0 tl⟩:fY)] | none=>[])
 | 0,acc,_,ha=>by
   rw[aB];have h1:∀x:fY,((acc.length:Int)+(([x]:List fY).length:Int))*(16:Nat)≤room:=fun x=>fits acc [x] (by omega) (by simp) 16 (by omega);have h2:decide (((0:Nat):Int)-1≥0)=false:=by decide
   have h3:decide (c≤0)=false:=decide_eq_false (by omega);simp only[ba.tree,Tr.ag,Tr.al,Tr.ah,Tr.aj,h2,h3,bz.told,iN,af,h1,Bool.false_eq_true,↓reduceIte,qK]
 | i+1,acc,hi,ha=>by
   rw[aB];obtain⟨w1,w2,w3,n1,n2,w4,e1,e2⟩:=w9 m hm i (by omega);have h1:∀x:fY,((acc.length:Int)+(([x]:List fY).length:Int))*(16:Nat)≤room:=fun x=>fits acc [x] (by omega) (by simp) 16 (by omega);simp only[ba.tree,Tr.ag,Tr.al,Tr.ah,Tr.aj,Tr.gL,Tr.ai,e1,e2,w1,w2,w3,w4,n1,n2,and_self,aE.told,dG,af,h1,↓reduceIte];unfold qK;cases hb:fU (dz m (9+2*(i:Int))) 0 7 with
   | false=>rfl
   | true=>
     simp only[Bool.not_true,Bool.false_eq_true,↓reduceIte];exact pI m hm t c tl hc i _ (by omega) (by rw[List.length_append,List.length_singleton];omega)
theorem pC (m:List Int) (hm:m.length=49) (t tl:Int):∀(i:Nat) (acc:List fY),i≤8→acc.length+i≤8→
 lp bn.tree (.c8 m t tl acc ((i:Int)-1))=some (match qK m i acc with | some l=>l++[(⟨8,pack t 0 tl⟩:fY)] | none=>[])
 | 0,acc,_,ha=>by
   rw[aB];have h1:∀x:fY,((acc.length:Int)+(([x]:List fY).length:Int))*(16:Nat)≤room:=fun x=>fits acc [x] (by omega) (by simp) 16 (by omega);have h2:decide (((0:Nat):Int)-1≥0)=false:=by decide
   simp only[bn.tree,Tr.ag,Tr.al,Tr.ah,Tr.aj,h2,bq.told,iM,af,h1,Bool.false_eq_true,↓reduceIte,qK]
 | i+1,acc,hi,ha=>by
   rw[aB];obtain⟨w1,w2,w3,n1,n2,w4,e1,e2⟩:=w9 m hm i (by omega);have h1:∀x:fY,((acc.length:Int)+(([x]:List fY).length:Int))*(16:Nat)≤room:=fun x=>fits acc [x] (by omega) (by simp) 16 (by omega);simp only[bn.tree,Tr.ag,Tr.al,Tr.ah,Tr.aj,Tr.gL,Tr.ai,e1,e2,w1,w2,w3,w4,n1,n2,and_self,eF.told,eF.f,eF.begin,aK.told,dt,af,h1,↓reduceIte];unfold qK;cases hb:fU (dz m (9+2*(i:Int))) 0 7 with
   | false=>rfl
   | true=>
     simp only[Bool.not_true,Bool.false_eq_true,↓reduceIte];exact pC m hm t tl i _ (by omega) (by rw[List.length_append,List.length_singleton];omega)
theorem wE (m:List Int) (t c tl i:Int) (hi:i<0) (hc:c<1):lp ba.tree (.c6 m [] t c tl i)=some []:=by
 rw[aB];have h2:decide (i≥0)=false:=decide_eq_false (by omega);have h3:decide (c≤0)=true:=decide_eq_true (by omega);simp only[ba.tree,Tr.ag,Tr.aj,h2,h3,Bool.false_eq_true,↓reduceIte]
theorem kn (m:List Int):ba.f m=some (k7 m):=by
 simp only[ba.f,ba.begin,Tr.ag,Tr.al,Tr.ah,Tr.aj,Tr.ai,bk.told,iv,af];unfold k7
 by_cases hm:m.length=49
 ·have hm':decide ((m.length:Int)=49)=true:=decide_eq_true (by omega);rw[if_pos hm];simp only[hm',kz m hm,and_self,Bool.not_true,Bool.false_eq_true,↓reduceIte]
  by_cases h:(unpack (dz m 8)).2.1<1
  ·rw[if_pos h]
   have hw:wr ((unpack (dz m 8)).2.1-1)<0:=by
    have:wr ((unpack (dz m 8)).2.1-1)=(unpack (dz m 8)).2.1-1:=cd (by rcases pb (dz m 8)with e | e<;>first | (rw[e];decide) | omega);omega
   exact wE m _ _ _ _ hw h
  ·rw[if_neg h];have h8:=nd _ h;obtain⟨n,hn⟩:∃n:Nat,(unpack (dz m 8)).2.1=n:=⟨(unpack (dz m 8)).2.1.toNat,by omega⟩;have hw:wr ((unpack (dz m 8)).2.1-1)=(n:Int)-1:=by rw[hn];exact cd (by omega)
   rw[hw,pI m hm _ _ _ h n [] (by omega) (by simp;omega),hn,Int.toNat_natCast];rfl
 ·have hm':decide ((m.length:Int)=49)=false:=decide_eq_false (by omega);rw[if_neg hm];simp only[hm',Bool.not_false,↓reduceIte]
theorem kg (m:List Int):bn.f m=some (k7 m):=by
 simp only[bn.f,bn.begin,Tr.ag,Tr.al,Tr.ah,Tr.aj,Tr.ai,bm.told,iy,af,decide_eq_true_eq];unfold k7
 by_cases hm:m.length=49
 ·have hm':decide ((m.length:Int)=49)=true:=decide_eq_true (by omega);rw[if_pos hm];simp only[hm',kz m hm,and_self,Bool.not_true,Bool.false_eq_true,↓reduceIte]
  by_cases h:(unpack (dz m 8)).2.1<1
  ·rw[if_pos h,if_pos h]
  ·rw[if_neg h,if_neg h];have h8:=nd _ h;obtain⟨n,hn⟩:∃n:Nat,(unpack (dz m 8)).2.1=n:=⟨(unpack (dz m 8)).2.1.toNat,by omega⟩;have hw:wr ((unpack (dz m 8)).2.1-1)=(n:Int)-1:=by rw[hn];exact cd (by omega)
   rw[hw,pC m hm _ _ n [] (by omega) (by simp;omega),hn,Int.toNat_natCast];rfl
 ·have hm':decide ((m.length:Int)=49)=false:=decide_eq_false (by omega);rw[if_neg hm];simp only[hm',Bool.not_false,↓reduceIte]
def C8 (m:List Int) (w:fY):List Int:=if fU w.f0 0 ((m.length:Int)-1)=true then m.set w.f0.toNat w.f1 else m
def jZ (m:List Int) (l:List fY):List Int:=l.foldl C8 m
theorem A0 (m:List Int) (w:fY):(C8 m w).length=m.length:=by unfold C8;split<;>simp
theorem uf:∀(l:List fY) (m:List Int),(jZ m l).length=m.length
 | [],m=>rfl
 | w::l,m=>by
   show(jZ (C8 m w) l).length=_;rw[uf l,A0]
theorem qB (m:List Int) (l:List fY) (k:Nat) (hm:m.length≤1048576) (hl:l.length≤1048576):bJ.f m l (k:Int)=some (jZ m (l.take k)):=by
 simp only[bJ.f,bJ.begin,Tr.al,Tr.ai,fits ([]:List Int) m (by simp) hm 8 (by omega),↓reduceIte,List.nil_append];refine sD (l.take k) C8 id (fun _ s=>s.length=m.length) (fun i s=>lp bJ.tree (.c3 m l (k:Int) s (i:Int))) m rfl (fun i h s hs=> ?_) (fun s hs=> ?_)
 ·have h':=h;rw[List.length_take]at h';have h1:i<l.length:=by omega
  have h2:i<k:=by omega
  refine⟨?_,by rw[A0];exact hs⟩;rw[aB,List.getElem_take];have hw:wr ((m.length:Int)-1)=(m.length:Int)-1:=cd (by omega);simp only[bJ.tree,Tr.ag,Tr.al,Tr.ah,Tr.ai,Tr.bf,aE.told,dG,af,bh h1,bh h2,bW h1,aU h1,and_self,↓reduceIte,hw,aN (show i<4611686018427387904 by omega)];unfold C8;rw[hs];cases hb:fU l[i].f0 0 ((m.length:Int)-1)with
  | false=>rfl
  | true=>
    rw[bd]at hb;have hn:(0:Int)≤l[i].f0∧l[i].f0<(m.length:Int):=by omega
    simp only[hn,and_self,decide_true,↓reduceIte]
 ·rw[aB,List.length_take]
  by_cases h:l.length≤k
  ·simp only[bJ.tree,Tr.ag,Tr.aj,Nat.min_eq_right h,dv,Bool.false_eq_true,↓reduceIte,id]
  ·simp only[bJ.tree,Tr.ag,Tr.aj,Nat.min_eq_left (by omega:k≤l.length),dv,Bool.false_eq_true,↓reduceIte,id];split<;>rfl
theorem gj {n:Nat} {m:List Int} (h:jm n m=true):m.length=49∧¬(unpack (dz m 8)).1<0∧(unpack (dz m 8)).1<n∧(m.take 8).all isVal=true∧(ma m).all isVal=true∧(List.range (Int.toNat (unpack (dz m 8)).2.1)).all (jb m)=true:=by
 unfold jm at h;simp only[Bool.and_eq_true,decide_eq_true_eq,Bool.not_eq_true',decide_eq_false_iff_not]at h;exact⟨h.1,h.2.1,by omega,h.2.2.2.1,h.2.2.2.2.1,h.2.2.2.2.2⟩
theorem ui (m:List Int):fg.f m=some (if m.length=49 then m.take 8 else[]):=by
 simp only[fg.f,fg.begin,Tr.ag,Tr.al,Tr.aj,List.nil_append]
 by_cases hm:m.length=49
 ·have hm':decide ((m.length:Int)=49)=true:=decide_eq_true (by omega);have n1:(0:Int)≤0∧(0:Int)≤8∧(8:Int)≤(m.length:Int):=by omega
  have n2:=fits ([]:List Int) (m.take (Int.toNat 8)) (by simp) (by rw[List.length_take];omega) 8 (by omega);rw[if_pos hm];simp only[hm',n1,n2,and_self,Bool.not_true,Bool.false_eq_true,↓reduceIte];rfl
 ·have hm':decide ((m.length:Int)=49)=false:=decide_eq_false (by omega);rw[if_neg hm];simp only[hm',Bool.not_false,↓reduceIte]
theorem uh (m:List Int):fh.f m=some (if m.length=49 then m.take 8 else[]):=by
 simp only[fh.f,fh.begin,Tr.ag,Tr.al,Tr.aj,Tr.ah]
 by_cases hm:m.length=49
 ·have hm':decide ((m.length:Int)=49)=true:=decide_eq_true (by omega);have n1:(0:Int)≤0∧(0:Int)≤8∧(8:Int)≤(m.length:Int):=by omega
  rw[if_pos hm];simp only[hm',n1,and_self,Bool.not_true,Bool.false_eq_true,↓reduceIte,aL.told,eG (m.take (Int.toNat 8)) (by rw[List.length_take];omega),af];rfl
 ·have hm':decide ((m.length:Int)=49)=false:=decide_eq_false (by omega);rw[if_neg hm];simp only[hm',Bool.not_false,↓reduceIte]
def Ok {A:Type} (o:Option A) (P:A→Prop):Prop:=∃r,o=some r∧P r
theorem upto {S R:Type} (N:Nat) (Inv:Nat→S→Prop) (L:Nat→S→Option R) (P:R→Prop)
 (h:∀i,i≤N→∀s,Inv i s→Ok (L i s) P∨(i<N∧∃s',L i s=L (i+1) s'∧Inv (i+1) s')):∀i,i≤N→∀s,Inv i s→Ok (L i s) P:=by
 have key:∀(n i:Nat),i+n=N→∀s,Inv i s→Ok (L i s) P:=by
  intro n
  induction n with
  | zero=>
    intro i hi s hs;rcases h i (by omega) s hs with e | ⟨e,_⟩
    ·exact e
    ·omega
  | succ n ih=>
    intro i hi s hs;rcases h i (by omega) s hs with e | ⟨_,s',e,hs'⟩
    ·exact e
    ·rw[e];exact ih (i+1) (by omega) s' hs'
 exact fun i hi s hs=>key (N-i) i (by omega) s hs
def lP (b:List Int) (i:Int):Prop:=b.length≤1048576∧0≤i
theorem ua (x:Int):0≤jH .i64 x 255∧jH .i64 x 255≤255:=by
 unfold jH
 have h:(BitVec.ofInt (IntKind.bits .i64) x&&& BitVec.ofInt (IntKind.bits .i64) 255).toNat≤255:=by
  rw[BitVec.toNat_and];exact Nat.le_trans Nat.and_le_right (by decide)
 rw[cd (by omega)];omega
theorem jC {b:List Int} {i:Int} (h:Int) (c:lP b i):∃x i' h',cU.f b i h=some (x,b,i',h')∧0≤x∧x≤255∧lP b i':=by
 have h1:(0:Int)≤33:=by omega
 have h2:(0:Int)≤45:=by omega
 simp only[cU.f,cU.begin,Tr.fq,Tr.al,Tr.gL,Tr.bf,Tr.ai,cB,h1,h2,↓reduceIte];rw[aB]
 by_cases q:i<(b.length:Int)
 ·have h3:(0:Int)≤i∧i<(b.length:Int):=⟨c.2,q⟩;simp only[cU.tree,Tr.ag,Tr.al,Tr.bf,Tr.aj,decide_eq_true q,h3,and_self,↓reduceIte];have w:wr (i+1)=i+1:=cd (by have:=c.1;have:=c.2;omega);exact⟨_,_,_,rfl,(ua _).1,(ua _).2,c.1,by rw[w];have:=c.2;omega⟩
 ·simp only[cU.tree,Tr.ag,Tr.aj,decide_eq_false q,Bool.false_eq_true,↓reduceIte];exact⟨_,_,_,rfl,(ua _).1,(ua _).2,c⟩
theorem bp {b:List Int} {i:Int} (n h:Int) (hn:1≤n) (c:lP b i):∃x i' h',ar.f n b i h=some (x,b,i',h')∧0≤x∧x<n∧lP b i':=by
 have h0:decide (n≤0)=false:=decide_eq_false (by omega);have h1:n≠0:=by omega
 obtain⟨x1,i1,j1,e1,a1,b1,c1⟩:=jC h c
 by_cases q:n≤256
 ·simp only[ar.f,ar.begin,Tr.ag,Tr.ah,Tr.al,Tr.aj,h0,decide_eq_true q,cU.told,e1,af,h1,ne_eq,not_false_eq_true,Bool.false_eq_true,↓reduceIte];refine⟨_,_,_,rfl,?_,?_,c1⟩
  ·rw[Int.tmod_eq_emod_of_nonneg a1];exact Int.emod_nonneg _ h1
  ·rw[Int.tmod_eq_emod_of_nonneg a1];exact Int.emod_lt_of_pos _ (by omega)
 ·obtain⟨x2,i2,j2,e2,a2,b2,c2⟩:=jC j1 c1;obtain⟨x3,i3,j3,e3,a3,b3,c3⟩:=jC j2 c2;obtain⟨x4,i4,j4,e4,a4,b4,c4⟩:=jC j3 c3;have w1:wr (x1*16777216)=x1*16777216:=cd (by omega);have w2:wr (x2*65536)=x2*65536:=cd (by omega);have w3:wr (x3*256)=x3*256:=cd (by omega);have w4:wr (x1*16777216+x2*65536)=x1*16777216+x2*65536:=cd (by omega);have w5:wr (x1*16777216+x2*65536+x3*256)=x1*16777216+x2*65536+x3*256:=cd (by omega);have w6:wr (x1*16777216+x2*65536+x3*256+x4)=x1*16777216+x2*65536+x3*256+x4:=cd (by omega);have a0:0≤x1*16777216+x2*65536+x3*256+x4:=by omega
  simp only[ar.f,ar.begin,Tr.ag,Tr.ah,Tr.al,Tr.gL,Tr.aj,h0,decide_eq_false q,cU.told,e1,e2,e3,e4,af,h1,ne_eq,not_false_eq_true,Bool.false_eq_true,↓reduceIte,w1,w2,w3,w4,w5,w6];refine⟨_,_,_,rfl,?_,?_,c4⟩
  ·rw[Int.tmod_eq_emod_of_nonneg a0];exact Int.emod_nonneg _ h1
  ·rw[Int.tmod_eq_emod_of_nonneg a0];exact Int.emod_lt_of_pos _ (by omega)
theorem iq {b:List Int} {i:Int} (n h:Int) (hn:1≤n) (c:lP b i):∃x i' h',bF.f n b i h=some (x,b,i',h')∧lP b i':=by
 obtain⟨x1,i1,j1,e1,a1,b1,c1⟩:=bp n h hn c;simp only[bF.f,bF.begin,Tr.ah,Tr.aj,ar.told,e1,af];exact⟨_,_,_,rfl,c1⟩
theorem jF {b:List Int} {i:Int} (l:List Int) (h:Int) (P:Int→Prop) (hn:1≤l.length) (hp:∀x∈l,P x) (c:lP b i):∃x i' h',b7.f l b i h=some (x,b,i',h')∧P x∧lP b i':=by
 obtain⟨x1,i1,j1,e1,a1,b1,c1⟩:=bp (l.length:Int) h (by omega) c;have h1:(0:Int)≤x1∧x1<(l.length:Int):=⟨a1,b1⟩;simp only[b7.f,b7.begin,Tr.ah,Tr.al,Tr.aj,ar.told,e1,af,h1,and_self,↓reduceIte];refine⟨_,_,_,rfl,?_,c1⟩;have h2:x1.toNat<l.length:=by omega
 have:dz l x1=l[x1.toNat]:=by show l.getD x1.toNat 0=_;rw[List.getD_eq_getElem?_getD,List.getElem?_eq_getElem h2];rfl
 rw[this];exact hp _ (List.getElem_mem h2)
theorem nY (b:List Int) (hb:b.length≤1048576):∃h,eJ.f b=some (b,0,h):=by
 have key:=upto b.length (fun _ (_:Int)=>True) (fun i s=>lp eJ.tree (.c3 b s (i:Int))) (fun r=>∃h,r=(b,0,h)) (fun i hi s _=>by
  rw[aB]
  by_cases q:i<b.length
  ·by_cases q':(i:Int)<4000
   ·refine Or.inr ⟨q,jH .i64 (wr (wr (wr (s*131)+wr (dz b (i:Int)))+7)) 1073741823,?_,trivial⟩;simp only[eJ.tree,Tr.ag,Tr.al,Tr.gL,Tr.ai,bh q,decide_eq_true q',decide_true,q',bW q,and_self,↓reduceIte,aN (show i<4611686018427387904 by omega)]
   ·refine Or.inl ⟨(b,0,s),?_,s,rfl⟩;simp only[eJ.tree,Tr.ag,Tr.aj,bh q,decide_eq_false q',Bool.false_eq_true,↓reduceIte]
  ·refine Or.inl ⟨(b,0,s),?_,s,rfl⟩;obtain rfl:i=b.length:=by omega
   simp only[eJ.tree,Tr.ag,Tr.aj,dv,Bool.false_eq_true,↓reduceIte]) 0 (by omega) (wr (98347+(b.length:Int))) trivial
 obtain⟨r,e,h,rfl⟩:=key;exact⟨h,e⟩
theorem lF {b:List Int} {i:Int} (h:Int) (c:lP b i):∃x i' h',cH.f b i h=some (x,b,i',h')∧fU x (-8) 999=true∧lP b i':=by
 obtain⟨x1,i1,j1,e1,c1⟩:=iq 2 h (by omega) c;cases x1 with
 | true=>
   obtain⟨x2,i2,j2,e2,a2,b2,c2⟩:=bp 5 j1 (by omega) c1;simp only[cH.f,cH.begin,Tr.ah,Tr.ag,Tr.aj,bF.told,e1,ar.told,e2,af,↓reduceIte];refine⟨_,_,_,rfl,?_,c2⟩;have w:wr (-1-x2)= -1-x2:=cd (by omega);rw[w,bd];omega
 | false=>
   obtain⟨x2,i2,j2,e2,a2,c2⟩:=jF [0,1,2,3,10,999] j1 (fun x=>fU x (-8) 999=true) (by decide) (by decide) c1;simp only[cH.f,cH.begin,Tr.ah,Tr.ag,Tr.aj,bF.told,e1,b7.told,e2,af,Bool.false_eq_true,↓reduceIte];exact⟨_,_,_,rfl,a2,c2⟩
theorem jE {b:List Int} {i:Int} (h:Int) (c:lP b i):∃o x y i' h',cW.f b i h=some (o,x,y,b,i',h')∧po o x y=true∧lP b i':=by
 obtain⟨x1,i1,j1,e1,a1,b1,c1⟩:=bp 7 h (by omega) c;obtain⟨x2,i2,j2,e2,a2,c2⟩:=lF j1 c1;obtain⟨x3,i3,j3,e3,a3,c3⟩:=lF j2 c2;simp only[cW.f,cW.begin,Tr.ah,Tr.aj,ar.told,e1,cH.told,e2,e3,af];refine⟨_,_,_,_,_,rfl,?_,c3⟩;unfold po;have w:wr (1+x1)=1+x1:=cd (by omega);rw[a2,a3,w];simp only[Bool.and_true,bd];omega
theorem tu {b:List Int} {i:Int} (h:Int) (c:lP b i):∃l i' h',bK.f b i h=some (l,b,i',h')∧l.all isVal=true∧l.length=8∧lP b i':=by
 have key:=upto 8 (fun k (s:List Int×Int×Int)=>s.1.length=k∧s.1.all isVal=true∧lP b s.2.1) (fun k s=>lp bK.tree (.c3 s.1 (k:Int) b s.2.1 s.2.2)) (fun r=>∃l i' h',r=(l,b,i',h')∧l.all isVal=true∧l.length=8∧lP b i') (fun k hk s hs=>by
  obtain⟨s1,s2,s3⟩:=s;obtain⟨hl,hv,hc⟩:=hs;simp only at hl hv hc;rw[aB]
  by_cases q:k<8
  ·obtain⟨x1,i1,j1,e1,a1,b1,c1⟩:=bp 2000 s3 (by omega) hc;have w:wr (x1-1000)=x1-1000:=cd (by omega);have hvx:isVal (x1-1000)=true:=by unfold isVal;rw[bd];omega
   obtain⟨x2,i2,j2,e2,a2,c2⟩:=jF [0,1,2,5,x1-1000,1000000] j1 (fun x=>isVal x=true) (by simp) (by
    intro x hx;simp only[List.mem_cons,List.not_mem_nil,or_false]at hx;rcases hx with rfl | rfl | rfl | rfl | rfl | rfl
    ·rfl
    ·rfl
    ·rfl
    ·rfl
    ·exact hvx
    ·rfl) c1
   have q':decide ((k:Int)<8)=true:=decide_eq_true (by omega);refine Or.inr ⟨q,(s1++[x2],i2,j2),?_,by simp[hl],by simp[hv,a2],c2⟩;simp only[bK.tree,Tr.ah,Tr.ag,Tr.al,Tr.ai,q',ar.told,e1,w,b7.told,e2,af,dR s1 x2 1048576 (by omega) (by omega) 8 (by omega),↓reduceIte,aN (show k<4611686018427387904 by omega)]
  ·have q':decide ((k:Int)<8)=false:=decide_eq_false (by omega);refine Or.inl ⟨(s1,b,s2,s3),?_,s1,s2,s3,rfl,hv,by omega,hc⟩;simp only[bK.tree,Tr.ag,Tr.aj,q',Bool.false_eq_true,↓reduceIte]) 0 (by omega) ([],i,h) ⟨rfl,rfl,c⟩
 obtain⟨r,e,l,i',h',rfl,p⟩:=key;exact⟨l,i',h',e,p⟩
theorem tq {b:List Int} {i:Int} (h:Int) (c:lP b i):∃x0 x1 x2 x3 x4 x5 i' h',dE.f b i h=some (x0,x1,x2,x3,x4,x5,b,i',h')∧jA x0 x1 x2 x3 x4 x5=true∧x0≤3∧lP b i':=by
 obtain⟨x1,i1,j1,e1,a1,b1,c1⟩:=bp 7 h (by omega) c;obtain⟨x2,i2,j2,e2,a2,b2,c2⟩:=bp 5 j1 (by omega) c1;obtain⟨x3,i3,j3,e3,a3,b3,c3⟩:=bp 4 j2 (by omega) c2;obtain⟨o4,x4,y4,i4,j4,e4,a4,c4⟩:=jE j1 c1;obtain⟨o5,x5,y5,i5,j5,e5,a5,c5⟩:=jE j2 c2
 have k1:jA 2 x2 x3 0 0 0=true:=by
  have h1:fU x2 0 7=true:=by rw[bd];omega
  have h2:fU x3 0 3=true:=by rw[bd];omega
  simp[jA,h1,h2]
 have k2:jA 3 0 0 o4 x4 y4=true:=by simp[jA,a4]
 have k3:jA 1 x2 0 o5 x5 y5=true:=by
  have h1:fU x2 0 7=true:=by rw[bd];omega
  simp[jA,a5,h1]
 simp only[dE.f,dE.begin,Tr.ah,Tr.ag,Tr.aj,ar.told,e1,e2,e3,cW.told,e4,e5,af]
 by_cases q0:x1=0
 ·simp only[q0,decide_true,↓reduceIte];exact⟨_,_,_,_,_,_,_,_,rfl,k1,by decide,c3⟩
 ·by_cases q1:x1=1
  ·subst q1;simp only[show decide ((1:Int)=0)=false from rfl,decide_true,Bool.false_eq_true,↓reduceIte];exact⟨_,_,_,_,_,_,_,_,rfl,k1,by decide,c3⟩
  ·by_cases q2:x1=2
   ·subst q2;simp only[show decide ((2:Int)=0)=false from rfl,show decide ((2:Int)=1)=false from rfl,decide_true,Bool.false_eq_true,↓reduceIte];exact⟨_,_,_,_,_,_,_,_,rfl,k2,by decide,c4⟩
   ·simp only[decide_eq_false q0,decide_eq_false q1,decide_eq_false q2,Bool.false_eq_true,↓reduceIte];exact⟨_,_,_,_,_,_,_,_,rfl,k3,by decide,c5⟩
def Trans (d:Int) (l:List aw):Prop:=∀n t,okB n (l++t) d=okB n t d
theorem Trans.nil (d:Int):Trans d []:=fun _ _=>rfl
theorem Trans.app {d:Int} {l m:List aw} (h:Trans d l) (g:Trans d m):Trans d (l++m):=fun n t=>by rw[List.append_assoc,h,g]
theorem Trans.one {d:Int} {x0 x1 x2 x3 x4 x5:Int} (h:jA x0 x1 x2 x3 x4 x5=true) (h0:x0≤3) (hd:0≤d) (hd':d≤3):Trans d [(⟨x0,x1,x2,(⟨x3,x4,x5⟩:iZ)⟩:aw)]:=fun n t=>by
 have e:dep x0 d=d:=by unfold dep;rw[if_neg (by omega),if_neg (by omega)]
 have hb:fU d 0 3=true:=by rw[bd];omega
 show(jA x0 x1 x2 x3 x4 x5&&(fU (dep x0 d) 0 3&&okB n t (dep x0 d)))=_;rw[h,e,hb];rfl
theorem Trans.nest {d:Int} {x0 x1 x2 x3 x4 x5:Int} {l:List aw} (h:jA x0 x1 x2 x3 x4 x5=true) (h0:x0=4∨x0=5) (hd:0≤d) (hd':d≤2) (hl:Trans (d+1) l):
 Trans d (([(⟨x0,x1,x2,(⟨x3,x4,x5⟩:iZ)⟩:aw)]++l)++[(⟨6,0,0,(⟨0,0,0⟩:iZ)⟩:aw)]):=fun n t=>by
 have e:dep x0 d=d+1:=by unfold dep;rw[if_pos h0]
 have e':dep 6 (d+1)=d:=by unfold dep;rw[if_neg (by omega),if_pos rfl];omega
 have hb:fU (d+1) 0 3=true:=by rw[bd];omega
 have hb':fU d 0 3=true:=by rw[bd];omega
 rw[List.append_assoc,List.append_assoc];show(jA x0 x1 x2 x3 x4 x5&&(fU (dep x0 d) 0 3&&okB n (l++([(⟨6,0,0,(⟨0,0,0⟩:iZ)⟩:aw)]++t)) (dep x0 d)))=_;rw[h,e,hb,hl];show(true&&(true&&(jA 6 0 0 0 0 0&&(fU (dep 6 (d+1)) 0 3&&okB n t (dep 6 (d+1))))))=_;rw[e',hb'];rfl
def zg (d:Int) (n:Nat):Nat:=if d=2 then n else if d=1 then 4*n else 15+n
theorem tP {d:Int} {n:Nat} (hn:n≤5):zg d n≤20:=by unfold zg;split;omega;split<;>omega
theorem CJ {d:Int} {k n:Nat} (h:k≤zg d n):k+1≤zg d (n+1):=by unfold zg at*;split at h;rw[if_pos ‹_›];omega;rw[if_neg ‹_›];split at h;rw[if_pos ‹_›];omega;rw[if_neg ‹_›];omega
theorem yP {d:Int} {k j n m:Nat} (hd:d=0∨d=1) (h:k≤zg d n) (h6:k<6) (hm:m≤2) (hj:j≤zg (d+1) m):k+1+j+1≤zg d (n+1):=by
 rcases hd with rfl | rfl
 ·have e:zg (0+1) m=4*m:=rfl;have e2:zg 0 (n+1)=15+(n+1):=rfl;rw[e]at hj;rw[e2];omega
 ·have e:zg (1+1) m=m:=rfl;have e2:zg 1 (n+1)=4*(n+1):=rfl;have e3:zg 1 n=4*n:=rfl;rw[e]at hj;rw[e3]at h;rw[e2];omega
def C3 (self_:Self bb.I bb.A bb.K) (d:Int):Prop:=
 ∀(n:Nat) (b:List Int) (i h:Int),n≤5→lP b i→∃l i' h',self_.f ((n:Int),d,b,i,h)=some (l,b,i',h')∧Trans d l∧l.length≤zg d n∧lP b i'
theorem vr (self_:Self bb.I bb.A bb.K) (d:Int) (hd:0≤d∧d≤2) (hs:d<2→C3 self_ (d+1)):C3 (bb.step self_) d:=by
 intro n b i h hn c
 have key:=upto n (fun k (s:List aw×Int×Int)=>Trans d s.1∧s.1.length≤zg d k∧lP b s.2.1) (fun k s=>lp (bb.tree self_) (.c3 (n:Int) d s.1 (k:Int) b s.2.1 s.2.2)) (fun r=>∃l i' h',r=(l,b,i',h')∧Trans d l∧l.length≤zg d n∧lP b i') (fun k hk s hs'=>by
  obtain⟨s1,s2,s3⟩:=s;obtain⟨hT,hL,hC⟩:=hs';simp only at hT hL hC;rw[aB];have hb20:=tP (d:=d) (show k≤5 by omega)
  by_cases q:k<n
  ·have wk:=aN (show k<4611686018427387904 by omega)
   have plain:∀(s2 s3:Int),lP b s2→∃x0 x1 x2 x3 x4 x5 i' h',dE.f b s2 s3=some (x0,x1,x2,x3,x4,x5,b,i',h')∧Trans d (s1++[(⟨x0,x1,x2,(⟨x3,x4,x5⟩:iZ)⟩:aw)])∧(s1++[(⟨x0,x1,x2,(⟨x3,x4,x5⟩:iZ)⟩:aw)]).length≤zg d (k+1)∧lP b i':=by
    intro s2 s3 hC;obtain⟨x0,x1,x2,x3,x4,x5,i',h',e,ho,h3,c'⟩:=tq s3 hC;exact⟨x0,x1,x2,x3,x4,x5,i',h',e,hT.app (Trans.one ho h3 (by omega) (by omega)),by rw[List.length_append,List.length_singleton];exact CJ hL,c'⟩
   have fit:∀x:aw,((s1.length:Int)+(([x]:List aw).length:Int))*(48:Nat)≤room:=fun x=>dR s1 x 1048576 (by omega) (by omega) 48 (by omega)
   by_cases q2:d<2
   ·by_cases q6:(s1.length:Int)<6
    ·obtain⟨x1,i1,j1,e1,c1⟩:=iq 5 s3 (by omega) hC;cases x1 with
     | false=>
       obtain⟨y0,y1,y2,y3,y4,y5,i2,j2,e2,t2,l2,c2⟩:=plain i1 j1 c1;refine Or.inr ⟨q,(_,i2,j2),?_,t2,l2,c2⟩;simp only[bb.tree,Tr.ag,Tr.ah,Tr.gL,Tr.al,Tr.ai,bh q,decide_eq_true q2,decide_eq_true q6,bF.told,e1,dE.told,e2,af,fit,wk,Bool.false_eq_true,↓reduceIte]
     | true=>
       obtain⟨x2,i2,j2,e2,a2,b2,c2⟩:=bp 3 j1 (by omega) c1;obtain⟨x3,i3,j3,e3,c3⟩:=iq 2 j2 (by omega) c2;have wd:wr (d+1)=d+1:=cd (by omega);cases x3 with
       | true=>
         obtain⟨o4,x4,y4,i4,j4,e4,a4,c4⟩:=jE j3 c3;obtain⟨x5,i5,j5,e5,a5,b5,c5⟩:=bp 2 j4 (by omega) c4;obtain⟨m,hm⟩:∃m:Nat,wr (1+x5)=m:=⟨(1+x5).toNat,by have w5:wr (1+x5)=1+x5:=cd (by omega);omega⟩;have hm2:m≤2:=by have w5:wr (1+x5)=1+x5:=cd (by omega);omega
         obtain⟨l6,i6,j6,e6,t6,n6,c6⟩:=hs q2 m b i5 j5 (by omega) c5;have hn20:=tP (d:=d+1) (show m≤5 by omega);have fit2:∀x:aw,(((s1++[x]).length:Int)+(l6.length:Int))*(48:Nat)≤room:=fun x=>fits _ _ (by rw[List.length_append,List.length_singleton];omega) (by omega) 48 (by omega);have fit3:∀x y:aw,((((s1++[x])++l6).length:Int)+(([y]:List aw).length:Int))*(48:Nat)≤room:=fun x y=>fits _ _ (by rw[List.length_append,List.length_append,List.length_singleton];omega) (by simp) 48 (by omega);refine Or.inr ⟨q,(((s1++[(⟨4,0,0,(⟨o4,x4,y4⟩:iZ)⟩:aw)])++l6)++[(⟨6,0,0,(⟨0,0,0⟩:iZ)⟩:aw)],i6,j6),?_,?_,?_,c6⟩
         rotate_left 1
         ·have:=hT.app (Trans.nest (x0:=4) (x1:=0) (x2:=0) (x3:=o4) (x4:=x4) (x5:=y4) (l:=l6) (by simp[jA,a4]) (Or.inl rfl) hd.1 (by omega) t6);rw[←List.append_assoc,←List.append_assoc]at this;exact this
         ·simp only[List.length_append,List.length_singleton];exact yP (by omega) hL (by omega) hm2 n6
         ·simp only[bb.tree,Tr.ag,Tr.ah,Tr.gL,Tr.al,Tr.ai,bh q,decide_eq_true q2,decide_eq_true q6,bF.told,e1,e3,ar.told,e2,e5,cW.told,e4,Self.told,hm,wd,e6,af,fit,fit2,fit3,wk,↓reduceIte]
       | false=>
         obtain⟨x5,i5,j5,e5,a5,b5,c5⟩:=bp 2 j3 (by omega) c3;obtain⟨m,hm⟩:∃m:Nat,wr (1+x5)=m:=⟨(1+x5).toNat,by have w5:wr (1+x5)=1+x5:=cd (by omega);omega⟩;have hm2:m≤2:=by have w5:wr (1+x5)=1+x5:=cd (by omega);omega
         have w2:wr (1+x2)=1+x2:=cd (by omega);obtain⟨l6,i6,j6,e6,t6,n6,c6⟩:=hs q2 m b i5 j5 (by omega) c5;have hn20:=tP (d:=d+1) (show m≤5 by omega);have fit2:∀x:aw,(((s1++[x]).length:Int)+(l6.length:Int))*(48:Nat)≤room:=fun x=>fits _ _ (by rw[List.length_append,List.length_singleton];omega) (by omega) 48 (by omega);have fit3:∀x y:aw,((((s1++[x])++l6).length:Int)+(([y]:List aw).length:Int))*(48:Nat)≤room:=fun x y=>fits _ _ (by rw[List.length_append,List.length_append,List.length_singleton];omega) (by simp) 48 (by omega);have hin:fU (1+x2) 1 5=true:=by rw[bd];omega
         refine Or.inr ⟨q,(((s1++[(⟨5,0,1+x2,(⟨0,0,0⟩:iZ)⟩:aw)])++l6)++[(⟨6,0,0,(⟨0,0,0⟩:iZ)⟩:aw)],i6,j6),?_,?_,?_,c6⟩
         rotate_left 1
         ·have:=hT.app (Trans.nest (x0:=5) (x1:=0) (x2:=1+x2) (x3:=0) (x4:=0) (x5:=0) (l:=l6) (by simp[jA,hin]) (Or.inr rfl) hd.1 (by omega) t6);rw[←List.append_assoc,←List.append_assoc]at this;exact this
         ·simp only[List.length_append,List.length_singleton];exact yP (by omega) hL (by omega) hm2 n6
         ·simp only[bb.tree,Tr.ag,Tr.ah,Tr.gL,Tr.al,Tr.ai,bh q,decide_eq_true q2,decide_eq_true q6,bF.told,e1,e3,ar.told,e2,e5,Self.told,hm,wd,w2,e6,af,fit,fit2,fit3,wk,Bool.false_eq_true,↓reduceIte]
    ·obtain⟨y0,y1,y2,y3,y4,y5,i2,j2,e2,t2,l2,c2⟩:=plain s2 s3 hC;refine Or.inr ⟨q,(_,i2,j2),?_,t2,l2,c2⟩;simp only[bb.tree,Tr.ag,Tr.ah,Tr.gL,Tr.al,Tr.ai,bh q,decide_eq_true q2,decide_eq_false q6,dE.told,e2,af,fit,wk,Bool.false_eq_true,↓reduceIte]
   ·obtain⟨y0,y1,y2,y3,y4,y5,i2,j2,e2,t2,l2,c2⟩:=plain s2 s3 hC;refine Or.inr ⟨q,(_,i2,j2),?_,t2,l2,c2⟩;simp only[bb.tree,Tr.ag,Tr.ah,Tr.gL,Tr.al,Tr.ai,bh q,decide_eq_false q2,dE.told,e2,af,fit,wk,Bool.false_eq_true,↓reduceIte]
  ·obtain rfl:k=n:=by omega
   refine Or.inl ⟨(s1,b,s2,s3),?_,s1,s2,s3,rfl,hT,hL,hC⟩;simp only[bb.tree,Tr.ag,Tr.aj,dv,Bool.false_eq_true,↓reduceIte]) 0 (by omega) ([],i,h) ⟨Trans.nil d,by simp,c⟩
 obtain⟨r,e,l,i',h',rfl,p⟩:=key;refine⟨l,i',h',?_,p⟩;simp only[bb.step,bb.begin,Tr.ai];exact e
theorem sv (n:Nat) {b:List Int} {i:Int} (h:Int) (hn:n≤5) (c:lP b i):∃l i' h',bb.f (n:Int) 0 b i h=some (l,b,i',h')∧Trans 0 l∧l.length≤20∧lP b i':=by
 have h2:=vr (Self.iter bb.step 5) 2 (by omega) (fun h=>absurd h (by omega));have h1:=vr (Self.iter bb.step 6) 1 (by omega) (fun _=>h2);have h0:=vr (Self.iter bb.step 7) 0 (by omega) (fun _=>h1);obtain⟨l,i',h',e,t,n',c'⟩:=h0 n b i h hn c;exact⟨l,i',h',e,t,Nat.le_trans n' (tP hn),c'⟩
theorem te {b:List Int} {i:Int} (h:Int) (c:lP b i):∃l i' h',fm.f b i h=some (l,b,i',h')∧okB l.length l 0=true∧l.length≤20∧lP b i':=by
 obtain⟨x1,i1,j1,e1,a1,b1,c1⟩:=bp 6 h (by omega) c;obtain⟨m,rfl⟩:∃m:Nat,x1=m:=⟨x1.toNat,by omega⟩;obtain⟨l,i2,j2,e2,t2,n2,c2⟩:=sv m j1 (by omega) c1;simp only[fm.f,fm.begin,Tr.ah,Tr.aj,ar.told,e1,bb.told,e2,af];refine⟨_,_,_,rfl,?_,n2,c2⟩;have:=t2 l.length [];rw[List.append_nil]at this;rw[this];show(decide ((0:Int)=0)&&decide ((l.length:Int)≤24))=true;rw[decide_eq_true (show(l.length:Int)≤24 by omega)];rfl
def DD (p:List az):Prop:=tg p=true∧1≤p.length∧p.length≤3∧∀t∈p,t.f0.length≤20
theorem pT {b:List Int} {i:Int} (h:Int) (c:lP b i):∃p i' h',cF.f b i h=some (p,b,i',h')∧DD p∧lP b i':=by
 have key:=upto 3 (fun k (s:List az×Int×Int)=>s.1.length=k∧s.1.all CD=true∧(∀t∈s.1,t.f0.length≤20)∧lP b s.2.1) (fun k s=>lp cF.tree (.c3 [] s.1 (k:Int) b s.2.1 s.2.2)) (fun r=>∃l i' h',r=(l,b,i',h')∧DD l∧lP b i') (fun k hk s hs=>by
  obtain⟨s1,s2,s3⟩:=s;obtain⟨hl,hv,hb,hc⟩:=hs;simp only at hl hv hb hc;rw[aB];obtain⟨x1,i1,j1,e1,a1,b1,c1⟩:=bp 3 s3 (by omega) hc;have w:wr (1+x1)=1+x1:=cd (by omega)
  by_cases q:(k:Int)<1+x1
  ·obtain⟨l2,i2,j2,e2,o2,n2,c2⟩:=te j1 c1;obtain⟨o3,x3,y3,i3,j3,e3,a3,c3⟩:=jE j2 c2;have fit:∀x:az,((s1.length:Int)+(([x]:List az).length:Int))*(48:Nat)≤room:=fun x=>dR s1 x 1048576 (by omega) (by omega) 48 (by omega);refine Or.inr ⟨by omega,(s1++[(⟨l2,(⟨o3,x3,y3⟩:iZ)⟩:az)],i3,j3),?_,by simp[hl],?_,?_,c3⟩
   ·simp only[cF.tree,Tr.ah,Tr.ag,Tr.fq,Tr.bf,Tr.al,Tr.ai,ar.told,e1,af,w,decide_eq_true q,fm.told,e2,cW.told,e3,fit,cB,↓reduceIte,aN (show k<4611686018427387904 by omega)]
   ·rw[List.all_append,hv];show(true&&(okB l2.length l2 0&&po o3 x3 y3&&true))=true;rw[o2,a3];rfl
   ·intro t ht;rcases List.mem_append.mp ht with ht | ht
    ·exact hb t ht
    ·rw[List.mem_singleton]at ht;rw[ht];exact n2
  ·refine Or.inl ⟨(s1,b,i1,j1),?_,s1,i1,j1,rfl,⟨?_,by omega,by omega,hb⟩,c1⟩
   ·simp only[cF.tree,Tr.ah,Tr.ag,Tr.aj,ar.told,e1,af,w,decide_eq_false q,Bool.false_eq_true,↓reduceIte]
   ·unfold tg;rw[hv,(bd (x:=(s1.length:Int)) (a:=1) (b:=6)).mpr (by omega)];rfl) 0 (by omega) ([],i,h) ⟨rfl,rfl,by simp,c⟩
 obtain⟨r,e,l,i',h',rfl,p⟩:=key;refine⟨l,i',h',?_,p⟩;simp only[cF.f,cF.begin,Tr.ai];exact e
theorem l3 {a b c:Int} (ha:0≤a∧a≤5) (hb:0≤b∧b≤8) (hc:0≤c∧c≤24):unpack (pack a b c)=(a,b,c):=by
 have hp:∀x y z:Int,0≤x∧x≤5→0≤y∧y≤8→0≤z∧z≤24→pack x y z=x+8*(y+16*z):=fun x y z h1 h2 h3=>by
  unfold pack;rw[bd.mpr h1,bd.mpr h2,bd.mpr h3];rfl
 rw[hp a b c ha hb hc];unfold unpack;generalize hw:a+8*(b+16*c)=w;have w0:0≤w:=by omega
 have e1:Int.tmod w 8=a:=by rw[Int.tmod_eq_emod_of_nonneg w0];omega
 have e2:Int.tdiv w 8=b+16*c:=by rw[Int.tdiv_eq_ediv_of_nonneg w0];omega
 have e3:wr (b+16*c)=b+16*c:=cd (by omega);have e4:Int.tmod (b+16*c) 16=b:=by rw[Int.tmod_eq_emod_of_nonneg (by omega)];omega
 have e5:Int.tdiv w 128=c:=by rw[Int.tdiv_eq_ediv_of_nonneg w0];omega
 have e6:wr c=c:=cd (by omega);rw[e1,e2,e3,e4,e5,e6,hp a b c ha hb hc,if_neg (by omega),if_pos hw]
theorem xO {m:List Int} {k:Nat} {j:Int} {v:Int} (hk:k<m.length) (hj:j=(k:Int)):dz (m.set k v) j=v:=by
 subst hj;show(m.set k v).getD ((k:Int)).toNat 0=v;rw[List.getD,Int.toNat_natCast,List.getElem?_set_self hk];rfl
theorem CC {m:List Int} {k:Nat} {v:Int} (h:m.all isVal=true) (hv:isVal v=true):(m.set k v).all isVal=true:=by
 rw[List.all_eq_true]at h⊢;intro x hx;rcases List.mem_or_eq_of_mem_set hx with hx | rfl
 ·exact h x hx
 ·exact hv
theorem zl {m:List Int} (k:Nat) (h:m.all isVal=true):(m.take k).all isVal=true:=by
 rw[List.all_eq_true]at h⊢;exact fun x hx=>h x (List.mem_of_mem_take hx)
theorem BY {m:List Int} (k:Nat) (h:m.all isVal=true):(m.drop k).all isVal=true:=by
 rw[List.all_eq_true]at h⊢;exact fun x hx=>h x (List.mem_of_mem_drop hx)
def Clean (n:Nat) (m:List Int):Prop:=jm n m=true∧(unpack (dz m 8)).2.1=0
theorem oG {n:Nat} {m:List Int} {t c tl:Int} (hm:m.length=49) (e:unpack (dz m 8)=(t,c,tl)) (ht:0≤t∧t<n) (h8:(m.take 8).all isVal=true) (hs:(ma m).all isVal=true) (hl:(List.range c.toNat).all (jb m)=true):jm n m=true:=by
 unfold jm;rw[e,decide_eq_true hm,decide_eq_false (show¬t<0 by omega),decide_eq_false (show¬t≥(n:Int) by omega),h8,hs,hl];rfl
theorem pq {b:List Int} {i:Int} (h:Int) (c:lP b i):∃l i' h',aI.f b i h=some (l,b,i',h')∧l.all isVal=true∧1≤l.length∧l.length≤9∧lP b i':=by
 have key:=upto 9 (fun k (s:List Int×Int×Int)=>s.1.length=k∧s.1.all isVal=true∧lP b s.2.1) (fun k s=>lp aI.tree (.c3 s.1 (k:Int) b s.2.1 s.2.2)) (fun r=>∃l i' h',r=(l,b,i',h')∧l.all isVal=true∧1≤l.length∧l.length≤9∧lP b i') (fun k hk s hs=>by
  obtain⟨s1,s2,s3⟩:=s;obtain⟨hl,hv,hc⟩:=hs;simp only at hl hv hc;rw[aB];obtain⟨x1,i1,j1,e1,a1,b1,c1⟩:=bp 9 s3 (by omega) hc;have w:wr (1+x1)=1+x1:=cd (by omega)
  by_cases q:(k:Int)<1+x1
  ·obtain⟨x2,i2,j2,e2,a2,b2,c2⟩:=bp 800 j1 (by omega) c1;have w2:wr (x2-200)=x2-200:=cd (by omega);have hvx:isVal (x2-200)=true:=by unfold isVal;rw[bd];omega
   refine Or.inr ⟨by omega,(s1++[x2-200],i2,j2),?_,by simp[hl],by simp[hv,hvx],c2⟩;simp only[aI.tree,Tr.ah,Tr.ag,Tr.al,Tr.ai,ar.told,e1,e2,af,w,w2,decide_eq_true q,dR s1 _ 1048576 (by omega) (by omega) 8 (by omega),↓reduceIte,aN (show k<4611686018427387904 by omega)]
  ·refine Or.inl ⟨(s1,b,i1,j1),?_,s1,i1,j1,rfl,hv,by omega,by omega,c1⟩;simp only[aI.tree,Tr.ah,Tr.ag,Tr.aj,ar.told,e1,af,w,decide_eq_false q,Bool.false_eq_true,↓reduceIte]) 0 (by omega) ([],i,h) ⟨rfl,rfl,c⟩
 obtain⟨r,e,l,i',h',rfl,p⟩:=key;exact⟨l,i',h',e,p⟩
theorem qp (b:List Int) (hb:b.length≤1048576):∃l,cG.f b=some l∧l.length=12∧∀x∈l,0≤x∧x<10000:=by
 obtain⟨h,e1⟩:=nY b hb
 have key:=upto 12 (fun k (s:List Int×Int×Int)=>s.1.length=k∧(∀x∈s.1,0≤x∧x<10000)∧lP b s.2.1) (fun k s=>lp cG.tree (.c4 s.1 (k:Int) b s.2.1 s.2.2)) (fun l=>l.length=12∧∀x∈l,0≤x∧x<10000) (fun k hk s hs=>by
  obtain⟨s1,s2,s3⟩:=s;obtain⟨hl,hv,hc⟩:=hs;simp only at hl hv hc;rw[aB]
  by_cases q:k<12
  ·have q':decide ((k:Int)<12)=true:=decide_eq_true (by omega);obtain⟨x2,i2,j2,e2,a2,b2,c2⟩:=bp 10000 s3 (by omega) hc;refine Or.inr ⟨q,(s1++[x2],i2,j2),?_,by simp[hl],?_,c2⟩
   ·simp only[cG.tree,Tr.ah,Tr.ag,Tr.al,Tr.ai,ar.told,e2,af,q',dR s1 _ 1048576 (by omega) (by omega) 8 (by omega),↓reduceIte,aN (show k<4611686018427387904 by omega)]
   ·intro x hx;rcases List.mem_append.mp hx with hx | hx
    ·exact hv x hx
    ·rw[List.mem_singleton]at hx;rw[hx];exact⟨a2,b2⟩
  ·have q':decide ((k:Int)<12)=false:=decide_eq_false (by omega);refine Or.inl ⟨s1,?_,by omega,hv⟩;simp only[cG.tree,Tr.ag,Tr.aj,q',Bool.false_eq_true,↓reduceIte]) 0 (by omega) ([],0,h) ⟨rfl,by simp,hb,by show(0:Int)≤0;omega⟩
 obtain⟨l,e,p⟩:=key;refine⟨l,?_,p⟩;simp only[cG.f,cG.begin,Tr.ah,Tr.ai,eJ.told,e1,af];exact e
def xc (s:aw):Bool:=jA s.f0 s.f1 s.f2 s.f3.f0 s.f3.f1 s.f3.f2
def inr (lo hi:Int):List aw→Int→Bool
 | [],_=>true
 | s::l,d=>xc s&&(fU (dep s.f0 d) lo hi&&inr lo hi l (dep s.f0 d))
def fin:List aw→Int→Int
 | [],d=>d
 | s::l,d=>fin l (dep s.f0 d)
theorem jX (n:Nat):∀(l:List aw) (d:Int),okB n l d=true→inr 0 3 l d=true∧fin l d=0∧n≤24
 | [],d,h=>by
   unfold okB at h;rw[Bool.and_eq_true,decide_eq_true_eq,decide_eq_true_eq]at h;exact⟨rfl,h.1,by omega⟩
 | s::l,d,h=>by
   unfold okB at h;rw[Bool.and_eq_true,Bool.and_eq_true]at h;obtain⟨a,b,c⟩:=jX n l _ h.2.2;refine⟨?_,b,c⟩;unfold inr xc;rw[h.1,h.2.1,a];rfl
theorem AT (x d c:Int):dep x (d+c)=dep x d+c:=by unfold dep;split;omega;split<;>omega
theorem CQ (x a b c:Int):fU (x+c) (a+c) (b+c)=fU x a b:=by
 rw[Bool.eq_iff_iff,bd,bd];omega
theorem xB (lo hi c:Int):∀(l:List aw) (d:Int),inr (lo+c) (hi+c) l (d+c)=inr lo hi l d
 | [],d=>rfl
 | s::l,d=>by
   show(xc s&&(fU (dep s.f0 (d+c)) (lo+c) (hi+c)&&inr (lo+c) (hi+c) l (dep s.f0 (d+c))))=_;rw[AT,CQ,xB lo hi c l];rfl
theorem xy (c:Int):∀(l:List aw) (d:Int),fin l (d+c)=fin l d+c
 | [],d=>rfl
 | s::l,d=>by show fin l (dep s.f0 (d+c))=_;rw[AT,xy c l];rfl
theorem mH {lo hi lo' hi':Int} (h1:lo'≤lo) (h2:hi≤hi'):∀(l:List aw) (d:Int),inr lo hi l d=true→inr lo' hi' l d=true
 | [],d,_=>rfl
 | s::l,d,h=>by
   unfold inr at h⊢;rw[Bool.and_eq_true,Bool.and_eq_true,bd]at h;rw[h.1,mH h1 h2 l _ h.2.2,(bd (x:=dep s.f0 d)).mpr (by omega)];rfl
theorem uQ (k c:Int) (hc:0≤c):∀(l:List aw) (d:Int),c<d→d≤k→inr 0 k l d=true→fin l d≤c→
 ∃a s r,l=a++s::r∧s.f0=6∧inr (c+1) k a d=true∧fin a d=c+1∧inr 0 k r c=true∧fin r c=fin l d
 | [],d,hd,_,_,h=>absurd (show d≤c from h) (by omega)
 | s::l,d,hd,hk,h,hf=>by
   unfold inr at h;rw[Bool.and_eq_true,Bool.and_eq_true,bd]at h;obtain⟨h1,⟨h2,h2'⟩,h3⟩:=h
   by_cases q:dep s.f0 d≤c
   ·have hs:s.f0=6∧d=c+1∧dep s.f0 d=c:=by
     revert q h2 h2';unfold dep;intro h2 h2' q;split at q
     ·omega
     ·split at q
      ·rename_i e;exact⟨e,by omega,by rw[if_neg (by omega),if_pos e];omega⟩
      ·omega
    obtain⟨hs6,hd1,hdc⟩:=hs;rw[hdc]at h3;exact⟨[],s,l,rfl,hs6,rfl,hd1,h3,by show _=fin l (dep s.f0 d);rw[hdc]⟩
   ·obtain⟨a,s',r,e,e6,p1,p2,p3,p4⟩:=uQ k c hc l (dep s.f0 d) (by omega) h2' h3 hf;refine⟨s::a,s',r,by rw[e];rfl,e6,?_,p2,p3,p4⟩;unfold inr;rw[h1,p1,(bd (x:=dep s.f0 d)).mpr (by omega)];rfl
def Ee (k:Int) (l:List aw):Prop:=inr 0 k l 0=true∧fin l 0=0
theorem qy {k d:Int} {x:aw} {l:List aw} (hd:0≤d) (hx:x.f0=4∨x.f0=5) (h:inr 0 k (x::l) d=true) (hf:fin (x::l) d=0):
 ∃a s r,l=a++s::r∧s.f0=6∧1≤k∧Ee (k-1) a∧inr 1 k a 1=true∧fin a 1=1∧inr 0 k r d=true∧fin r d=0:=by
 unfold inr at h;rw[Bool.and_eq_true,Bool.and_eq_true,bd]at h;obtain⟨h1,⟨h2,h2'⟩,h3⟩:=h;have e:dep x.f0 d=d+1:=by unfold dep;rw[if_pos hx]
 rw[e]at h2 h2' h3;have hf':fin l (d+1)=0:=by have:fin l (dep x.f0 d)=0:=hf;rw[e]at this;exact this
 obtain⟨a,s,r,e1,e6,p1,p2,p3,p4⟩:=uQ k d hd l (d+1) (by omega) h2' h3 (by omega);have q1:=xB 1 (k-d) d a 1;rw[show 1+d=d+1 by omega,show k-d+d=k by omega,p1]at q1;have q2:=xy d a 1;rw[show 1+d=d+1 by omega,p2]at q2;have q3:=xB 0 (k-d-1) 1 a 0;rw[show(0:Int)+1=1 by omega,show k-d-1+1=k-d by omega,←q1]at q3;have q4:=xy 1 a 0;rw[show(0:Int)+1=1 by omega]at q4;exact⟨a,s,r,e1,e6,by omega,⟨mH (by omega) (by omega) a 0 q3.symm,by omega⟩,mH (by omega) (by omega) a 1 q1.symm,by omega,p3,by omega⟩
theorem drop_at {A:Type} {l a r:List A} {x:A} {i:Nat} (h:l.drop i=a++x::r):∃h':i+a.length<l.length,l[i+a.length]=x∧l.drop (i+a.length+1)=r:=by
 have hl:=congrArg List.length h;rw[List.length_drop,List.length_append,List.length_cons]at hl;have h':i+a.length<l.length:=by omega
 refine⟨h',?_,?_⟩
 ·have e:(l.drop i)[a.length]? =some x:=by rw[h];simp
  rw[List.getElem?_drop,List.getElem?_eq_getElem h']at e;exact Option.some.inj e
 ·rw[show i+a.length+1=i+(a.length+1)from rfl,←List.drop_drop,h];simp
theorem jo (x:Int):bN.f x=some (decide (x=4∨x=5)):=by
 simp only[bN.f,bN.begin,Tr.ag,Tr.aj]
 by_cases h4:x=4
 ·simp[h4]
 ·simp[h4]
theorem AE {x d:Int} (h0:0≤d) (h1:d≤30):wr (d+1)=d+1∧wr (d-1)=d-1∧wr (d+1-1)=d+1-1:=⟨cd (by omega),cd (by omega),cd (by omega)⟩
theorem oz (l:List aw) (i:Nat) (d:Int) (hi:i<l.length) (hl:l.length≤1048576) (h0:0≤d) (h1:d≤30):
 lp cT.tree (.c3 l d (i:Int))=if dep l[i].f0 d=0 then some (i:Int)else lp cT.tree (.c3 l (dep l[i].f0 d) ((i+1:Nat):Int)):=by
 rw[aB];obtain⟨w1,w2,w3⟩:=AE (x:=0) h0 h1;have w7:wr ((i:Int)+1)=((i+1:Nat):Int):=aN (by omega);simp only[cT.tree,Tr.ag,Tr.ah,Tr.al,Tr.aj,Tr.ai,bN.told,jo,af,bh hi,bW hi,aU hi,and_self,↓reduceIte,w1,w2,w3,w7,decide_eq_true_eq];unfold dep
 by_cases h4:l[i].f0=4∨l[i].f0=5
 ·have h6:¬l[i].f0=6:=by omega
  simp only[h4,h6,↓reduceIte]
 ·by_cases h6:l[i].f0=6
  ·simp only[h6,show¬((6:Int)=4∨(6:Int)=5) by omega,↓reduceIte]
  ·simp only[h4,h6,↓reduceIte]
theorem yV (l:List aw) (hl:l.length≤1048576) (k:Int) (hk:k≤30):∀(a:List aw) (d:Int) (j:Nat) (s:aw) (r:List aw),l.drop j=a++s::r→s.f0=6→1≤d→d≤k→inr 1 k a d=true→fin a d=1→
 lp cT.tree (.c3 l d (j:Int))=some ((j+a.length:Nat):Int)
 | [],d,j,s,r,hd,h6,h1,hk',_,hf=>by
   obtain⟨h',e,_⟩:=drop_at (a:=[]) hd;have hd1:d=1:=hf;rw[oz l j d h' hl (by omega) (by omega)];rw[show l[j]=s from e,h6,hd1];rfl
 | x::a,d,j,s,r,hd,h6,h1,hk',hp,hf=>by
   obtain⟨h',e,e2⟩:=drop_at (a:=[]) (show l.drop j=[]++x::(a++s::r)from hd);rw[oz l j d h' hl (by omega) (by omega)];rw[show l[j]=x from e];unfold inr at hp;rw[Bool.and_eq_true,Bool.and_eq_true,bd]at hp;rw[if_neg (by omega),yV l hl k hk a (dep x.f0 d) (j+1) s r e2 h6 hp.2.1.1 hp.2.1.2 hp.2.2 hf,List.length_cons];congr 2;omega
theorem pM (l:List aw) (hl:l.length≤1048576) (k:Int) (hk1:1≤k) (hk:k≤30) (i:Nat) (x:aw) (a:List aw) (s:aw) (r:List aw) (hd:l.drop i=x::(a++s::r)) (hx:x.f0=4∨x.f0=5) (h6:s.f0=6) (hp:inr 1 k a 1=true) (hf:fin a 1=1):
 cT.f l (i:Int)=some ((i+1+a.length:Nat):Int):=by
 simp only[cT.f,cT.begin,Tr.ai];obtain⟨h',e,e2⟩:=drop_at (a:=[]) (show l.drop i=[]++x::(a++s::r)from hd);rw[oz l i 0 h' hl (by omega) (by omega),show l[i]=x from e];have hdep:dep x.f0 0=1:=by unfold dep;rw[if_pos hx];rfl
 rw[hdep,if_neg (by omega)];exact yV l hl k hk a 1 (i+1) s r e2 h6 (by omega) (by omega) hp hf
theorem iY (x:Int):bZ.f x=some (decide (x=1∨x=2)):=by
 simp only[bZ.f,bZ.begin,Tr.ag,Tr.aj]
 by_cases h4:x=1
 ·simp[h4]
 ·simp[h4]
theorem uY (x:Int):dd.f x=some (decide (x=1∨x=3∨x=4)):=by
 simp only[dd.f,dd.begin,Tr.ag,Tr.aj]
 by_cases h4:x=1
 ·simp[h4]
 ·by_cases h3:x=3
  ·simp[h3]
  ·simp[h4,h3]
theorem lW (zs:List Int) (P:Int→Prop) (h:∀x∈zs,P x):∀m,m≤zs.length→(∀x∈Go.Lib.compactUpTo zs.toArray m,P x)∧(Go.Lib.compactUpTo zs.toArray m).length≤m
 | 0,_=>by
   have:Go.Lib.compactUpTo zs.toArray 0=[]:=rfl;rw[this];exact⟨by simp,by simp⟩
 | m+1,hm=>by
   obtain⟨a,b⟩:=lW zs P h m (by omega);rw[Go.Lib.compactUpTo_succ]
   have hx:P (zs.toArray[m]!):=by
    have h':m<zs.length:=by omega
    have:zs.toArray[m]! =zs[m]:=by simp[h']
    rw[this];exact h _ (List.getElem_mem h')
   split
   ·refine⟨fun x hx'=> ?_,by rw[List.length_append,List.length_singleton];omega⟩;rcases List.mem_append.mp hx' with hx' | hx'
    ·exact a x hx'
    ·rw[List.mem_singleton]at hx';rw[hx'];exact hx
   ·rw[List.append_nil];exact⟨a,by omega⟩
theorem Bl (l:List Int) (P:Int→Prop) (h:∀x∈l,P x) (hl:l.length≤1048576):∃m n,slices_Sort_int.f l=some m∧slices_Compact_int.f m=some n∧(∀x∈n,P x)∧n.length≤l.length:=by
 have e1:slices_Sort_int.f l=some (l.mergeSort fun x y=>decide (x≤y)):=by
  unfold slices_Sort_int.f;rw[if_pos (by omega)]
 have hm:∀x∈(l.mergeSort fun x y=>decide (x≤y)),P x:=fun x hx=>h x (List.mem_mergeSort.mp hx);obtain⟨a,b⟩:=lW (l.mergeSort fun x y=>decide (x≤y)) P hm _ (Nat.le_refl _);refine⟨_,_,e1,rfl,a,?_⟩;have b':(Go.Lib.compact (l.mergeSort fun x y=>decide (x≤y))).length≤(l.mergeSort fun x y=>decide (x≤y)).length:=b;rw[List.length_mergeSort]at b';exact b'
def kM (k:Int) (l:List aw) (i:Nat):Prop:=∃d:Int,0≤d∧inr 0 k (l.drop i) d=true∧fin (l.drop i) d=0
theorem kM.next {k:Int} {l:List aw} {i:Nat} (h:kM k l i) (hi:i<l.length):xc l[i]=true∧kM k l (i+1):=by
 obtain⟨d,hd,h1,h2⟩:=h;rw[List.drop_eq_getElem_cons hi]at h1 h2;unfold inr at h1;rw[Bool.and_eq_true,Bool.and_eq_true,bd]at h1;exact⟨h1.1,dep l[i].f0 d,h1.2.1.1,h1.2.2,h2⟩
theorem kM.nest {k:Int} {l:List aw} {i:Nat} (h:kM k l i) (hi:i<l.length) (hl:l.length≤1048576) (hk:k≤30) (hx:l[i].f0=4∨l[i].f0=5):
 ∃e:Nat,cT.f l (i:Int)=some (e:Int)∧i<e∧e<l.length∧1≤k∧Ee (k-1) ((l.take e).drop (i+1))∧((l.take e).drop (i+1)).length+2+(l.drop (e+1)).length=(l.drop i).length∧kM k l (e+1):=by
 obtain⟨d,hd,h1,h2⟩:=h;have hdr:=List.drop_eq_getElem_cons hi;rw[hdr]at h1 h2;obtain⟨a,s,r,e1,e6,k1,hb,p1,p2,p3,p4⟩:=qy hd hx h1 h2;rw[e1]at hdr;have hend:=pM l hl k k1 hk i l[i] a s r hdr hx e6 p1 p2;obtain⟨g1,g2,g3⟩:=drop_at (show l.drop i=(l[i]::a)++s::r from hdr);simp only[List.length_cons]at g1 g3
 have hia:(l.take (i+1+a.length)).drop (i+1)=a:=by
  rw[List.drop_take,show i+1+a.length-(i+1)=a.length by omega];have:l.drop (i+1)=a++s::r:=e1;rw[this];simp
 refine⟨i+1+a.length,hend,by omega,by omega,k1,by rw[hia];exact hb,?_,d,hd,?_,?_⟩
 ·rw[hia,List.length_drop,List.length_drop];omega
 ·rw[show i+1+a.length+1=i+(a.length+1)+1 by omega,g3];exact p3
 ·rw[show i+1+a.length+1=i+(a.length+1)+1 by omega,g3];exact p4
theorem qN {s:aw} (h:xc s=true) (hv:s.f0=1∨s.f0=2):0≤s.f1∧s.f1≤7:=by
 unfold xc jA at h;rcases hv with e | e
 ·rw[if_pos e]at h;simp only[Bool.and_eq_true,bd]at h;exact h.2.1
 ·rw[if_neg (by omega),if_pos e]at h;simp only[Bool.and_eq_true,bd]at h;exact h.2.1
def mw (m:List Int) (x:aO):List Int:=if x.f1= -1 then m else m.set x.f1.toNat x.f2
def dc (m:List Int) (o:List aO):List Int:=o.foldl mw m
def pf (x:aO):Prop:=(0≤x.f0∧x.f0≤5)∧(-1≤x.f1∧x.f1<49)
def jh (n:Nat) (M m:List Int):Prop:=jm n m=true∧cS M<+:cS m
def zi (n:Nat) (M:List Int) (o:List aO):Prop:=(∀x∈o,pf x)∧∀k,jh n M (dc M (o.take k))
theorem iI (m:List Int) (o:List aO) (x:aO):dc m (o++[x])=mw (dc m o) x:=by unfold dc;rw[List.foldl_append];rfl
theorem zi.snoc {n:Nat} {M:List Int} {o:List aO} {x:aO} (h:zi n M o) (hx:pf x) (hg:jh n M (mw (dc M o) x)):zi n M (o++[x]):=by
 refine⟨fun y hy=> ?_,fun k=> ?_⟩
 ·rcases List.mem_append.mp hy with hy | hy
  ·exact h.1 y hy
  ·rw[List.mem_singleton]at hy;rw[hy];exact hx
 ·by_cases q:k≤o.length
  ·rw[List.take_append_of_le_length q];exact h.2 k
  ·rw[List.take_of_length_le (by rw[List.length_append,List.length_singleton];omega),iI];exact hg
def zX (m:List Int) (tl:Int):List Int:=(m.drop 25).take tl.toNat
theorem mU {m:List Int} {tl:Int} (h:(unpack (dz m 8)).2.2=tl) (h0:0≤tl):ma m=zX m tl:=by
 unfold ma zX;rw[h,List.drop_take];congr 1;omega
theorem jM {m:List Int} {t c tl:Int} (hm:m.length=49) (h:unpack (dz m 8)=(t,c,tl)) (h0:0≤tl):cS m=zX m tl:=by
 unfold cS;rw[if_pos hm,h,if_neg (by simp only;omega)];exact mU (by rw[h]) h0
theorem fO {m:List Int} {j i:Nat} {v:Int} (hj:j<m.length):(m.set j v).getD i 0=if i=j then v else m.getD i 0:=by
 rw[List.getD_eq_getElem?_getD,List.getElem?_set]
 by_cases h:i=j
 ·subst h;rw[if_pos rfl,if_pos rfl,if_pos hj];rfl
 ·rw[if_neg (fun e=>h e.symm),if_neg h,List.getD_eq_getElem?_getD]
theorem tN (m:List Int) (tl:Int) (i:Nat):(zX m tl)[i]? =if i<tl.toNat then m[25+i]? else none:=by
 unfold zX;rw[List.getElem?_take,List.getElem?_drop]
theorem tT {m:List Int} {tl:Int} (h:∀i:Nat,(i:Int)<tl→isVal (m.getD (25+i) 0)=true):(zX m tl).all isVal=true:=by
 rw[List.all_eq_true];intro x hx;obtain⟨i,hi⟩:=List.mem_iff_getElem?.mp hx;rw[tN]at hi;split at hi
 ·have:=h i (by omega);rw[List.getD_eq_getElem?_getD,hi]at this;exact this
 ·cases hi
theorem xQ {m M:List Int} {tl:Int} (hm:m.length=49) (hM:M.length=49) (h:∀i:Nat,(i:Int)<tl→m.getD (25+i) 0=M.getD (25+i) 0):zX m tl=zX M tl:=by
 refine List.ext_getElem? (fun i=> ?_);rw[tN,tN]
 by_cases q:i<tl.toNat
 ·rw[if_pos q,if_pos q]
  by_cases q':25+i<49
  ·have:=h i (by omega);rw[List.getD_eq_getElem?_getD,List.getElem?_eq_getElem (by omega),List.getD_eq_getElem?_getD,List.getElem?_eq_getElem (by omega)]at this;rw[List.getElem?_eq_getElem (by omega),List.getElem?_eq_getElem (by omega)];exact congrArg some this
  ·rw[List.getElem?_eq_none (by omega),List.getElem?_eq_none (by omega)]
 ·rw[if_neg q,if_neg q]
theorem CP (m:List Int) {a b:Int} (h:a≤b):zX m a<+:zX m b:=by
 unfold zX;have:(m.drop 25).take a.toNat=((m.drop 25).take b.toNat).take a.toNat:=by rw[List.take_take,Nat.min_eq_left (by omega)]
 rw[this];exact List.take_prefix _ _
structure oH (n:Nat) (t tl:Int) (M:List Int):Prop where
 len:M.length=49
 t0:0≤t∧t<n∧t≤5
 Ec:0≤tl∧tl≤24
 ma:cS M=zX M tl
 val:∀i:Nat,(i:Int)<tl→isVal (M.getD (25+i) 0)=true
structure vQ (t tl:Int) (M:List Int) (c:Nat) (s:Int) (m:List Int):Prop where
 len:m.length=49
 D9:dz m 8=pack t c tl
 c8:c≤8
 s0:0≤s
 var:∀i:Nat,i<8→isVal (m.getD i 0)=true
 log:∀i:Nat,i<c→jb m i=true
 zq:∀i:Nat,(i:Int)<tl→m.getD (25+i) 0=M.getD (25+i) 0
 new:∀i:Nat,tl≤(i:Int)→(i:Int)<tl+s→i<24→isVal (m.getD (25+i) 0)=true
theorem vQ.gD {n:Nat} {t tl:Int} {M m:List Int} {c:Nat} {s:Int} (b:oH n t tl M) (h:vQ t tl M c s m):jh n M m:=by
 have hc:=h.c8;have ht:=b.t0;have htl:=b.Ec;have hu:unpack (dz m 8)=(t,(c:Int),tl):=by rw[h.D9];exact l3 (by omega) (by omega) (by omega)
 refine⟨oG h.len hu (by omega) ?_ ?_ ?_,?_⟩
 ·rw[List.all_eq_true];intro x hx;obtain⟨i,hi,rfl⟩:=List.mem_iff_getElem.mp hx;rw[List.length_take]at hi;have:=h.var i (by omega);rw[List.getD_eq_getElem?_getD,List.getElem?_eq_getElem (by have:=h.len;omega)]at this;rw[List.getElem_take];exact this
 ·rw[mU (tl:=tl) (by rw[hu]) (by omega)];exact tT (fun i hi=>by rw[h.zq i hi];exact b.val i hi)
 ·rw[List.all_eq_true];intro i hi;rw[List.mem_range]at hi;exact h.log i (by omega)
 ·rw[jM h.len hu (by omega),b.ma,xQ h.len b.len h.zq];exact List.prefix_rfl
theorem mz (m:List Int) (i:Nat):dz m (i:Int)=m.getD i 0:=by show m.getD ((i:Int)).toNat 0=_;rw[Int.toNat_natCast]
theorem l9 (m:List Int) (i:Nat):jb m i=(fU (m.getD (9+2*i) 0) 0 7&&isVal (m.getD (9+2*i+1) 0)):=by
 unfold jb;rw[←mz,←mz];congr 2
theorem vQ.set {t tl:Int} {M m:List Int} {c:Nat} {s:Int} (h:vQ t tl M c s m) {j:Nat} {v:Int} (hj:j<49) (h8:j≠8) (hv:j<8→isVal v=true) (hlog:j<9∨9+2*c≤j) (hbox:j<25∨(tl≤(j:Int)-25∧isVal v=true)):vQ t tl M c s (m.set j v) where
 len:=by rw[List.length_set];exact h.len
 D9:=by have e:=h.D9;have:=h.len;rw[show(8:Int)=((8:Nat):Int)from rfl,mz]at e⊢;rw[fO (by omega),if_neg (by omega)];exact e
 c8:=h.c8
 s0:=h.s0
 var:=fun i hi=>by
  have:=h.len;rw[fO (by omega)];split
  ·exact hv (by omega)
  ·exact h.var i hi
 log:=fun i hi=>by
  have:=h.len;have e:=h.log i hi;rw[l9]at e⊢;rw[fO (by omega),fO (by omega)]
  by_cases q:j<9
  ·rw[if_neg (by omega),if_neg (by omega)];exact e
  ·rw[if_neg (by omega),if_neg (by omega)];exact e
 zq:=fun i hi=>by
  have:=h.len;rw[fO (by omega),if_neg (by omega)];exact h.zq i hi
 new:=fun i h1 h2 h3=>by
  have:=h.len;rw[fO (by omega)];split
  ·rcases hbox with q | q
   ·omega
   ·exact q.2
  ·exact h.new i h1 h2 h3
theorem vQ.Eo {t tl:Int} {M m:List Int} {c:Nat} {s:Int} (h:vQ t tl M c s m) (hc:c<8) (hp:jb m c=true):vQ t tl M (c+1) s (m.set 8 (pack t ((c+1:Nat):Int) tl)) where
 len:=by rw[List.length_set];exact h.len
 D9:=xO (by have:=h.len;omega) rfl
 c8:=by omega
 s0:=h.s0
 var:=fun i hi=>by have:=h.len;rw[fO (by omega),if_neg (by omega)];exact h.var i hi
 log:=fun i hi=>by
  have:=h.len
  have e:jb m i=true:=by
   rcases(show i<c∨i=c by omega)with q | q
   ·exact h.log i q
   ·rw[q];exact hp
  rw[l9]at e⊢;rw[fO (by omega),fO (by omega),if_neg (by omega),if_neg (by omega)];exact e
 zq:=fun i hi=>by have:=h.len;rw[fO (by omega),if_neg (by omega)];exact h.zq i hi
 new:=fun i h1 h2 h3=>by have:=h.len;rw[fO (by omega),if_neg (by omega)];exact h.new i h1 h2 h3
theorem vQ.box {t tl:Int} {M m:List Int} {c:Nat} {s:Int} (htl:0≤tl) (h:vQ t tl M c s m) {j:Nat} {v:Int} (hj:(j:Int)=tl+s) (h24:j<24) (hv:isVal v=true):vQ t tl M c (s+1) (m.set (25+j) v):=by
 have hs:=h.s0;have hc:=h.c8;have h':=h.set (j:=25+j) (v:=v) (by omega) (by omega) (fun q=>by omega) (Or.inr (by omega)) (Or.inr ⟨by omega,hv⟩)
 exact{h' with
  s0:=by omega
  new:=fun i h1 h2 h3=>by
   by_cases q:i=j
   ·subst q;rw[fO (by have:=h.len;omega),if_pos rfl];exact hv
   ·exact h'.new i h1 (by omega) h3}
theorem vQ.Ek {t tl:Int} {M m:List Int} {c:Nat} {s:Int} (h:vQ t tl M c s m) (h24:24≤tl+s):vQ t tl M c (s+1) m:=
 {h with
  s0:=by have:=h.s0;omega
  new:=fun i h1 h2 h3=>h.new i h1 (by omega) h3}
theorem vQ.last {n:Nat} {t tl:Int} {M m:List Int} {c:Nat} {s nt tl':Int} (b:oH n t tl M) (h:vQ t tl M c s m) (hn:n≤6) (hnt:0≤nt∧nt<n) (htl:tl'=if tl+s<24 then tl+s else 24):
 jh n M (m.set 8 (pack nt 0 tl'))∧unpack (dz (m.set 8 (pack nt 0 tl')) 8)=(nt,0,tl'):=by
 have hs:=h.s0;have h0:=b.Ec;have hr:tl≤tl'∧tl'≤24∧tl'≤tl+s:=by rw[htl];split<;>omega
 have hlen:=h.len;have hu:unpack (dz (m.set 8 (pack nt 0 tl')) 8)=(nt,0,tl'):=by rw[show dz (m.set 8 (pack nt 0 tl')) 8=pack nt 0 tl' from xO (by omega) rfl];exact l3 (by omega) (by omega) (by omega)
 have hl':(m.set 8 (pack nt 0 tl')).length=49:=by rw[List.length_set];exact h.len
 have hg:∀i:Nat,i≠8→(m.set 8 (pack nt 0 tl')).getD i 0=m.getD i 0:=fun i hi=>by rw[fO (by omega),if_neg hi]
 refine⟨⟨oG hl' hu (by omega) ?_ ?_ rfl,?_⟩,hu⟩
 ·rw[List.all_eq_true];intro x hx;obtain⟨i,hi,rfl⟩:=List.mem_iff_getElem.mp hx;rw[List.length_take]at hi;have:=h.var i (by omega);rw[←hg i (by omega),List.getD_eq_getElem?_getD,List.getElem?_eq_getElem (by omega)]at this;rw[List.getElem_take];exact this
 ·rw[mU (tl:=tl') (by rw[hu]) (by omega)];refine tT (fun i hi=> ?_);rw[hg _ (by omega)]
  by_cases q:(i:Int)<tl
  ·rw[h.zq i q];exact b.val i q
  ·exact h.new i (by omega) (by omega) (by omega)
 ·rw[jM hl' hu (by omega),b.ma];have e:zX M tl=zX (m.set 8 (pack nt 0 tl')) tl:=(xQ hl' b.len (fun i hi=>by rw[hg _ (by omega)];exact h.zq i hi)).symm;rw[e];exact CP _ hr.1
structure TI (n:Nat) (t tl:Int) (M:List Int) (B:Nat) (o:List aO) (u:List Int) (sn:Int) (lg:List Int) (f:List Bool) (vs:List Int):Prop where
 safe:zi n M o
 run:vQ t tl M lg.length sn (dc M o)
 used:∀x∈u,isVal x=true
 mG:o.length≤B
 uH:u.length≤B
 A6:sn≤B
 CX:lg.length≤f.count true
 A1:Av vs=true
theorem TI.mono {n:Nat} {t tl:Int} {M:List Int} {B B':Nat} {o:List aO} {u:List Int} {sn:Int} {lg:List Int} {f:List Bool} {vs:List Int} (h:TI n t tl M B o u sn lg f vs) (hB:B≤B'):TI n t tl M B' o u sn lg f vs:=
 {h with mG:=Nat.le_trans h.mG hB,uH:=Nat.le_trans h.uH hB,A6:=by have:=h.A6;omega}
theorem TI.push {n:Nat} {t tl:Int} {M:List Int} {B:Nat} {o:List aO} {u:List Int} {sn:Int} {lg:List Int} {f:List Bool} {vs:List Int} (b:oH n t tl M) (h:TI n t tl M B o u sn lg f vs)
 (x:aO) {sn':Int} {lg':List Int} {f':List Bool} {vs':List Int} (hx:pf x) (hr:vQ t tl M lg'.length sn' (mw (dc M o) x)) (hs:sn'≤B+1) (hl:lg'.length≤f'.count true) (hv:Av vs'=true):
 TI n t tl M (B+1) (o++[x]) u sn' lg' f' vs' where
 safe:=h.safe.snoc hx (hr.gD b)
 run:=by rw[iI];exact hr
 used:=h.used
 mG:=by rw[List.length_append,List.length_singleton];have:=h.mG;omega
 uH:=by have:=h.uH;omega
 A6:=by omega
 CX:=hl
 A1:=hv
theorem TI.work {n:Nat} {t tl:Int} {M:List Int} {B:Nat} {o:List aO} {u:List Int} {sn:Int} {lg:List Int} {f:List Bool} {vs:List Int} (b:oH n t tl M) (h:TI n t tl M B o u sn lg f vs)
 {c:Int} (hc:0≤c∧c≤5):TI n t tl M (B+1) (o++[(⟨c,-1,0⟩:aO)]) u sn lg f vs:=
 h.push b _ ⟨hc,by show(-1:Int)≤-1∧(-1:Int)<49;omega⟩ h.run (by have:=h.A6;omega) h.CX h.A1
theorem nc {vs:List Int}:Av vs=true↔vs.all isVal=true∧vs.length=8:=by
 unfold Av;rw[Bool.and_eq_true,decide_eq_true_eq];exact⟨fun h=>⟨h.1,by have:=h.2;omega⟩,fun h=>⟨h.1,by have:=h.2;omega⟩⟩
theorem Cy {vs:List Int} {k:Nat} {v:Int} (h:Av vs=true) (hv:isVal v=true):Av (vs.set k v)=true:=by
 rw[nc]at h⊢;exact⟨CC h.1 hv,by rw[List.length_set];exact h.2⟩
theorem nu (m:List Int) (c j v:Int) (hj:0≤j):mw m (⟨c,j,v⟩:aO)=m.set j.toNat v:=by
 unfold mw;rw[if_neg (by show¬j= -1;omega)]
theorem wZ (l:List Bool):l.count true≤l.length:=List.count_le_length
theorem xm (l:List Bool) (k:Nat):l.count true≤(l.set k true).count true:=by
 by_cases h:k<l.length
 ·have hp:=List.count_pos_iff (a:=true) (l:=l);rw[List.count_set h];cases hb:l[k]with
  | true=>
    have:0<l.count true:=hp.mpr (hb▸List.getElem_mem h);simp;omega
  | false=>simp
 ·rw[List.set_eq_of_length_le (by omega)];exact Nat.le_refl _
theorem wg (l:List Bool) (k:Nat) (h:k<l.length) (hf:l.getD k true=false):(l.set k true).count true=l.count true+1:=by
 rw[List.getD_eq_getElem?_getD,List.getElem?_eq_getElem h]at hf;have hf':l[k]=false:=hf;rw[List.count_set h,hf'];simp
theorem jI (c:Int) (o:List aO) (u:List Int) (t tl sn:Int) (lg:List Int) (f0 f1 f2 f3 f4 f5 f6 f7:Bool) (vs:List Int) (ho:o.length≤1000000):
 cg.f c o u t tl sn lg f0 f1 f2 f3 f4 f5 f6 f7 vs=some (o++[(⟨c,-1,0⟩:aO)],u,t,tl,sn,lg,f0,f1,f2,f3,f4,f5,f6,f7,vs):=by
 simp only[cg.f,cg.begin,Tr.al,Tr.aj,dR o _ 1048576 (by omega) (by omega) 24 (by omega),↓reduceIte]
theorem gl (a v:Int) (o:List aO) (u:List Int) (t tl sn:Int) (lg:List Int) (f0 f1 f2 f3 f4 f5 f6 f7:Bool) (vs:List Int) (ho:o.length≤1000000):
 aX.f a v o u t tl sn lg f0 f1 f2 f3 f4 f5 f6 f7 vs=some (o++[(⟨3,a,v⟩:aO)],u,t,tl,sn,lg,f0,f1,f2,f3,f4,f5,f6,f7,vs):=by
 simp only[aX.f,aX.begin,Tr.al,Tr.aj,dR o _ 1048576 (by omega) (by omega) 24 (by omega),↓reduceIte]
set_option maxHeartbeats 4000000 in
theorem BI (k v:Int) (o:List aO) (u:List Int) (t tl sn:Int) (lg:List Int) (f0 f1 f2 f3 f4 f5 f6 f7:Bool) (vs:List Int) (hk:0≤k∧k≤7):∃g0 g1 g2 g3 g4 g5 g6 g7:Bool,[g0,g1,g2,g3,g4,g5,g6,g7]=([f0,f1,f2,f3,f4,f5,f6,f7]:List Bool).set k.toNat true∧lp aM.tree (.c6 k v o u t tl sn lg f0 f1 f2 f3 f4 f5 f6 f7 vs)=lp aM.tree (.c7 k v o u t tl sn lg g0 g1 g2 g3 g4 g5 g6 g7 vs):=by
 rw[aB]
 rcases(show k=0∨k=1∨k=2∨k=3∨k=4∨k=5∨k=6∨k=7 by omega)with rfl | rfl | rfl | rfl | rfl | rfl | rfl | rfl<;>
  (simp only[aM.tree,Tr.ag,Tr.ai,decide_true,↓reduceIte,Int.reduceEq,decide_false,Bool.false_eq_true]
   exact⟨_,_,_,_,_,_,_,_,rfl,rfl⟩)
theorem vK {s:aw} (h:xc s=true):(1≤s.f0∧s.f0≤6)∧(s.f0=5→1≤s.f2∧s.f2≤5):=by
 unfold xc jA at h;refine⟨?_,fun e=> ?_⟩
 ·split at h
  ·omega
  ·split at h
   ·omega
   ·split at h
    ·omega
    ·split at h
     ·omega
     ·split at h
      ·omega
      ·cases h
 ·rw[if_neg (by omega),if_neg (by omega),if_neg (by omega),if_pos e]at h;simp only[Bool.and_eq_true,bd]at h;exact h.2.2
theorem Bt (x:Int):isVal (sat x)=true:=by unfold isVal;rw[bd];exact oF x
theorem TI.D2 {n:Nat} {t tl:Int} {M:List Int} {B:Nat} {o:List aO} {u:List Int} {sn:Int} {lg:List Int} {f:List Bool} {vs:List Int} (h:TI n t tl M B o u sn lg f vs) {v:Int} (hv:isVal v=true):TI n t tl M (B+1) o (u++[v]) sn lg f vs:=
 {h with
  used:=fun x hx=>by
   rcases List.mem_append.mp hx with hx | hx
   ·exact h.used x hx
   ·rw[List.mem_singleton]at hx;rw[hx];exact hv
  mG:=by have:=h.mG;omega
  uH:=by have:=h.uH;rw[List.length_append,List.length_singleton];omega
  A6:=by have:=h.A6;omega}
def W5 (k:Nat):Nat:=6*5 ^ k
theorem CA (k:Nat):W5 (k+1)=5*W5 k:=by unfold W5;rw[Nat.pow_succ];omega
theorem Da (k:Nat):6≤W5 k:=by have:0<5 ^ k:=Nat.pow_pos (by omega);unfold W5;omega
theorem Ap {w a b c:Int} (h:unpack w=(a,b,c)) (ha:0≤a):w=pack a b c:=by
 unfold unpack at h;split at h
 ·have:=congrArg Prod.fst h;simp only at this;omega
 ·split at h
  ·rename_i e;have h1:Int.tmod w 8=a:=congrArg Prod.fst h;have h2:Int.tmod (wr (Int.tdiv w 8)) 16=b:=congrArg (fun x=>x.2.1) h;have h3:wr (Int.tdiv w 128)=c:=congrArg (fun x=>x.2.2) h;rw[h1,h2,h3]at e;exact e.symm
  ·have:=congrArg Prod.fst h;simp only at this;omega
theorem ku {n:Nat} {m:List Int} (h:jm n m=true):∃t c tl,unpack (dz m 8)=(t,c,tl)∧dz m 8=pack t c tl∧m.length=49∧(0≤t∧t<n∧t≤5)∧(0≤c∧c≤8)∧(0≤tl∧tl≤24)∧
 (m.take 8).all isVal=true∧(∀i:Nat,(i:Int)<tl→isVal (m.getD (25+i) 0)=true)∧(∀i:Nat,(i:Int)<c→jb m i=true)∧cS m=zX m tl:=by
 obtain⟨h1,h2,h3,h4,h5,h6⟩:=gj h;obtain⟨g1,g2,g3,g4,g5,g6⟩:=sH h2;rcases hu:unpack (dz m 8)with⟨t,c,tl⟩
 rw[hu]at h2 h3 h6 g1 g2 g3 g4 g5 g6;simp only at h2 h3 h6 g1 g2 g3 g4 g5 g6;refine⟨t,c,tl,rfl,Ap hu g1,h1,⟨g1,h3,g2⟩,⟨g3,g4⟩,⟨g5,g6⟩,h4,fun i hi=> ?_,fun i hi=> ?_,jM h1 hu g5⟩
 ·rw[mU (tl:=tl) (by rw[hu]) g5,List.all_eq_true]at h5;refine h5 _ (List.mem_iff_getElem?.mpr ⟨i,?_⟩);rw[tN,if_pos (by omega),List.getD_eq_getElem?_getD,List.getElem?_eq_getElem (by omega)];rfl
 ·rw[List.all_eq_true]at h6;exact h6 i (List.mem_range.mpr (by omega))
theorem vx {m:List Int} (hm:m.length=49) (h:(m.take 8).all isVal=true) (i:Nat) (hi:i<8):isVal (m.getD i 0)=true:=by
 rw[List.all_eq_true]at h;refine h _ (List.mem_iff_getElem?.mpr ⟨i,?_⟩);rw[List.getElem?_take,if_pos hi,List.getD_eq_getElem?_getD,List.getElem?_eq_getElem (by omega)];rfl
theorem Clean.base {n:Nat} {m:List Int} (h:Clean n m):∃t tl,unpack (dz m 8)=(t,0,tl)∧oH n t tl m∧vQ t tl m 0 0 m:=by
 obtain⟨t,c,tl,hu,hc,hm,ht,hcc,htl,h8,hs,hl,hw⟩:=ku h.1;have hc0:c=0:=by have:=h.2;rw[hu]at this;exact this
 subst hc0;exact⟨t,tl,hu,⟨hm,ht,htl,hw,hs⟩,⟨hm,hc,by omega,by omega,fun i hi=>vx hm h8 i hi,fun i hi=>absurd hi (by omega),fun i _=>rfl,fun i h1 h2 _=>absurd h1 (by omega)⟩⟩
theorem BP {p:List az} (hp:tg p=true) {t:Int} (ht:0≤t∧t<(p.length:Int)):okB (cy p t).f0.length (cy p t).f0 0=true∧(cy p t).f0.length≤24:=by
 obtain⟨i,rfl⟩:∃i:Nat,t=i:=⟨t.toNat,by omega⟩;have hi:i<p.length:=by omega
 have e:cy p (i:Int)=p[i]:=aU hi;unfold tg at hp;rw[Bool.and_eq_true,List.all_eq_true]at hp;have:=hp.1 _ (List.getElem_mem hi);unfold CD at this;rw[Bool.and_eq_true]at this;rw[e];exact⟨this.1,(jX _ _ _ this.1).2.2⟩
structure Dj (n:Nat) (m:List Int) (o:List aO) (u:List Int):Prop where
 safe:zi n m o
 mG:o.length≤20000
 used:∀x∈u,isVal x=true
 uH:u.length≤20000
 clean:Clean n (dc m o)
theorem nG (zs:List Int) (x:Int):∀m,m≤zs.length→(x∈Go.Lib.compactUpTo zs.toArray m↔x∈zs.take m)
 | 0,_=>by
   have:Go.Lib.compactUpTo zs.toArray 0=[]:=rfl;rw[this,List.take_zero]
 | m+1,hm=>by
   have h':m<zs.length:=by omega
   have ih:=nG zs x m (by omega);have hm':zs.toArray[m]! =zs[m]:=by simp[h']
   rw[Go.Lib.compactUpTo_succ,List.take_add_one,List.getElem?_eq_getElem h',List.mem_append,List.mem_append,ih,hm']
   by_cases q:Go.Lib.keeps zs.toArray m=true
   ·rw[if_pos q];rfl
   ·rw[if_neg q];unfold Go.Lib.keeps at q;rw[decide_eq_true_eq,not_or,Classical.not_not,hm']at q;have h'':m-1<zs.length:=by omega
    have e:zs.toArray[m-1]! =zs[m-1]:=by simp[h'']
    rw[e]at q;refine⟨fun h=>h.elim Or.inl (fun h=>by simp at h),fun h=>h.elim Or.inl fun h=>Or.inl ?_⟩;have hx:x=zs[m]:=by simpa using h
    rw[hx,q.2];refine List.mem_iff_getElem?.mpr ⟨m-1,?_⟩;rw[List.getElem?_take,if_pos (by omega),List.getElem?_eq_getElem h'']
theorem pX (l:List Int) (hl:l.length≤1048576):∃m n,slices_Sort_int.f l=some m∧slices_Compact_int.f m=some n∧(∀x,x∈n↔x∈l)∧n.length≤l.length:=by
 obtain⟨m,n,e1,e2,_,h⟩:=Bl l (fun _=>True) (fun _ _=>trivial) hl;refine⟨m,n,e1,e2,fun x=> ?_,h⟩
 have e1':slices_Sort_int.f l=some (l.mergeSort fun x y=>decide (x≤y)):=by
  unfold slices_Sort_int.f;rw[if_pos (by omega)]
 obtain rfl:=Option.some.inj (e1.symm.trans e1');have e2':slices_Compact_int.f (l.mergeSort fun x y=>decide (x≤y))=some (Go.Lib.compact (l.mergeSort fun x y=>decide (x≤y))):=rfl;obtain rfl:=Option.some.inj (e2.symm.trans e2');have:=nG (l.mergeSort fun x y=>decide (x≤y)) x _ (Nat.le_refl _);rw[List.take_length,List.mem_mergeSort]at this;exact this
theorem pW (l:List Int) (k:Int) (hl:l.length≤1048576):∃r,cj.f l k=some r∧decide (r≥0)=l.any (fun x=>decide (k=x)):=by
 simp only[cj.f,cj.begin,Tr.ai];refine rW l (fun x=>decide (k=x)) (fun i=>lp cj.tree (.c2 l k (l.length:Int) (i:Int))) (fun i h=> ?_) ?_
 ·rw[aB];simp only[cj.tree,Tr.ag,Tr.al,Tr.aj,Tr.ai,bh h,bW h,aU h,and_self,decide_true,↓reduceIte,aN (show i<4611686018427387904 by omega)]
 ·rw[aB];simp only[cj.tree,Tr.ag,Tr.aj,dv,Bool.false_eq_true,↓reduceIte]
theorem mo (l:List Int) (k:Int) (hl:l.length≤1048576):eK.f l k=some (decide (k∈l)):=by
 obtain⟨r,e,h⟩:=pW l k hl;simp only[eK.f,eK.begin,Tr.ah,Tr.aj,cD.told,cD.f,cD.begin,cj.told,e,af,h];congr 1;rw[Bool.eq_iff_iff,List.any_eq_true,decide_eq_true_eq];exact⟨fun⟨x,hx,he⟩=>by rw[of_decide_eq_true he];exact hx,fun h=>⟨k,h,decide_eq_true rfl⟩⟩
def Wr (l:List aw) (g:Nat→Prop) (i:Nat) (x:Int):Prop:=∃j y,j<i∧l[j]? =some y∧g j∧(y.f0=1∨y.f0=2)∧y.f1=x
theorem tY {l:List aw} {g:Nat→Prop} {x:Int}:¬Wr l g 0 x:=fun⟨_,_,h,_⟩=>absurd h (by omega)
theorem kZ {l:List aw} {g:Nat→Prop} {i:Nat} {x:Int} (h:i<l.length):Wr l g (i+1) x↔Wr l g i x∨(g i∧(l[i].f0=1∨l[i].f0=2)∧l[i].f1=x):=by
 refine⟨fun⟨j,y,h1,h2,h3⟩=> ?_,fun h'=> ?_⟩
 ·by_cases q:j<i
  ·exact Or.inl ⟨j,y,q,h2,h3⟩
  ·obtain rfl:j=i:=by omega
   rw[List.getElem?_eq_getElem h]at h2;cases h2;exact Or.inr h3
 ·rcases h' with⟨j,y,h1,h2⟩ | h'
  ·exact⟨j,y,by omega,h2⟩
  ·exact⟨i,l[i],by omega,List.getElem?_eq_getElem h,h'⟩
theorem B3 {l:List aw} {g g':Nat→Prop} {i:Nat} {x:Int} (h:∀j,j<i→(g j↔g' j)):Wr l g i x↔Wr l g' i x:=
 ⟨fun⟨j,y,h1,h2,h3,h4⟩=>⟨j,y,h1,h2,(h j h1).mp h3,h4⟩,fun⟨j,y,h1,h2,h3,h4⟩=>⟨j,y,h1,h2,(h j h1).mpr h3,h4⟩⟩
theorem iS (x a:Int) (s:List Int):x∈s++[a]↔x∈s∨a=x:=by
 rw[List.mem_append,List.mem_singleton];exact⟨fun h=>h.imp id Eq.symm,fun h=>h.imp id Eq.symm⟩
theorem ru (l:List aw) (hl:l.length≤1048576) (hb:okB l.length l 0=true):∃r,eU.f l=some r∧r.length≤l.length∧∀x,x∈r↔Wr l (fun _=>True) l.length x:=by
 have key:=upto l.length (fun i (s:List Int)=>s.length≤i∧∀x,x∈s↔Wr l (fun _=>True) i x) (fun i s=>lp cP.tree (.c3 s l (l.length:Int) (i:Int))) (fun r=>r.length≤l.length∧∀x,x∈r↔Wr l (fun _=>True) l.length x) (fun i hi s hs=>by
  obtain⟨hs,hm⟩:=hs;rw[aB]
  by_cases q:i<l.length
  ·have fit:∀x:Int,((s.length:Int)+(([x]:List Int).length:Int))*(8:Nat)≤room:=fun x=>dR s x 1048576 (by omega) (by omega) 8 (by omega)
   by_cases hv:l[i].f0=1∨l[i].f0=2
   ·refine Or.inr ⟨q,s++[l[i].f1],?_,by rw[List.length_append,List.length_singleton];omega,fun x=> ?_⟩
    ·simp only[cP.tree,Tr.ag,Tr.al,Tr.ah,Tr.ai,bh q,bW q,aU q,and_self,↓reduceIte,bZ.told,iY,af,hv,decide_true,dO.told,dO.f,dO.begin,Tr.aj,fit,aN (show i<4611686018427387904 by omega)]
    ·rw[iS,hm,kZ q];exact⟨fun h=>h.imp id fun h=>⟨trivial,hv,h⟩,fun h=>h.imp id fun h=>h.2.2⟩
   ·refine Or.inr ⟨q,s,?_,by omega,fun x=> ?_⟩
    ·simp only[cP.tree,Tr.ag,Tr.al,Tr.ah,Tr.ai,bh q,bW q,aU q,and_self,↓reduceIte,bZ.told,iY,af,hv,decide_false,decide_true,Bool.false_eq_true,aN (show i<4611686018427387904 by omega)]
    ·rw[hm,kZ q];exact⟨Or.inl,fun h=>h.elim id fun h=>absurd h.2.1 hv⟩
  ·obtain rfl:i=l.length:=by omega
   obtain⟨m,n,e1,e2,hn,b⟩:=pX s (by omega);refine Or.inl ⟨n,?_,by omega,fun x=>by rw[hn,hm]⟩;simp only[cP.tree,Tr.ag,Tr.ah,Tr.aj,dv,Bool.false_eq_true,↓reduceIte,slices_Sort_int.told,e1,slices_Compact_int.told,e2,af]) 0 (by omega) [] ⟨by simp,fun x=>⟨fun h=>by simp at h,fun h=>absurd h tY⟩⟩
 obtain⟨r,e,h⟩:=key;refine⟨r,?_,h⟩;simp only[eU.f,eU.begin,Tr.ah,Tr.ag,Tr.aj,bU.told,ji l hl,af,cP.told,cP.f,cP.begin,Tr.ai,hb,Bool.not_true,Bool.false_eq_true,↓reduceIte];have e':lp cP.tree (.c3 [] l (l.length:Int) 0)=some r:=e;rw[e'];rfl
theorem rS (l:List aw) (g:List Bool) (hl:l.length≤1048576) (hg:g.length=l.length):∃r,dV.f l g=some r∧r.1.length≤l.length∧∀x,x∈r.1↔Wr l (fun j=>g[j]? =some false) l.length x:=by
 have key:=upto l.length (fun i (s:List Int)=>s.length≤i∧∀x,x∈s↔Wr l (fun j=>g[j]? =some false) i x) (fun i s=>lp dV.tree (.c3 s l (l.length:Int) (i:Int) g)) (fun r=>r.1.length≤l.length∧∀x,x∈r.1↔Wr l (fun j=>g[j]? =some false) l.length x) (fun i hi s hs=>by
  obtain⟨hs,hm⟩:=hs;rw[aB]
  by_cases q:i<l.length
  ·have q':i<g.length:=by omega
   have fit:∀x:Int,((s.length:Int)+(([x]:List Int).length:Int))*(8:Nat)≤room:=fun x=>dR s x 1048576 (by omega) (by omega) 8 (by omega)
   by_cases hv:l[i].f0=1∨l[i].f0=2
   ·cases hb:g[i]with
    | false=>
      refine Or.inr ⟨q,s++[l[i].f1],?_,by rw[List.length_append,List.length_singleton];omega,fun x=> ?_⟩
      ·simp only[dV.tree,Tr.ag,Tr.al,Tr.ah,Tr.ai,bh q,bW q,bW q',aU q,aU q',hb,and_self,↓reduceIte,bZ.told,iY,af,hv,decide_true,cC.told,cC.f,cC.begin,Tr.aj,Bool.not_false,fit,aN (show i<4611686018427387904 by omega)]
      ·rw[iS,hm,kZ q,List.getElem?_eq_getElem q',hb];exact⟨fun h=>h.imp id fun h=>⟨rfl,hv,h⟩,fun h=>h.imp id fun h=>h.2.2⟩
    | true=>
      refine Or.inr ⟨q,s,?_,by omega,fun x=> ?_⟩
      ·simp only[dV.tree,Tr.ag,Tr.al,Tr.ah,Tr.ai,bh q,bW q,bW q',aU q,aU q',hb,and_self,↓reduceIte,bZ.told,iY,af,hv,decide_true,cC.told,cC.f,cC.begin,Tr.aj,Bool.not_true,Bool.false_eq_true,fit,aN (show i<4611686018427387904 by omega)]
      ·rw[hm,kZ q,List.getElem?_eq_getElem q',hb];exact⟨Or.inl,fun h=>h.elim id fun h=>by cases h.1⟩
   ·refine Or.inr ⟨q,s,?_,by omega,fun x=> ?_⟩
    ·simp only[dV.tree,Tr.ag,Tr.al,Tr.ah,Tr.ai,bh q,bW q,aU q,and_self,↓reduceIte,bZ.told,iY,af,hv,decide_false,decide_true,Bool.false_eq_true,aN (show i<4611686018427387904 by omega)]
    ·rw[hm,kZ q];exact⟨Or.inl,fun h=>h.elim id fun h=>absurd h.2.1 hv⟩
  ·obtain rfl:i=l.length:=by omega
   obtain⟨m,n,e1,e2,hn,b⟩:=pX s (by omega);refine Or.inl ⟨(n,g),?_,by show n.length≤_;omega,fun x=>by rw[←hm];exact hn x⟩;simp only[dV.tree,Tr.ag,Tr.ah,Tr.aj,dv,Bool.false_eq_true,↓reduceIte,slices_Sort_int.told,e1,slices_Compact_int.told,e2,af]) 0 (by omega) [] ⟨by simp,fun x=>⟨fun h=>by simp at h,fun h=>absurd h tY⟩⟩
 exact key
def Ends (l:List aw) (i e:Nat):Prop:=∃x a s r,l.drop i=x::(a++s::r)∧(x.f0=4∨x.f0=5)∧s.f0=6∧inr 1 30 a 1=true∧fin a 1=1∧e=i+1+a.length
theorem Ends.zI {l:List aw} {i e:Nat} (h:Ends l i e) (hl:l.length≤1048576):cT.f l (i:Int)=some (e:Int):=by
 obtain⟨x,a,s,r,h1,h2,h3,h4,h5,rfl⟩:=h;exact pM l hl 30 (by omega) (by omega) i x a s r h1 h2 h3 h4 h5
theorem Ends.inj {l:List aw} {i e e':Nat} (hl:l.length≤1048576) (h:Ends l i e) (h':Ends l i e'):e=e':=by
 have:=(h.zI hl).symm.trans (h'.zI hl);have:=Option.some.inj this;omega
theorem kM.AF {k:Int} {l:List aw} {i:Nat} (h:kM k l i) (hi:i<l.length) (hk:k≤30) (hx:l[i].f0=4∨l[i].f0=5):
 ∃a s r,l.drop i=l[i]::(a++s::r)∧s.f0=6∧1≤k∧Ee (k-1) a∧inr 1 30 a 1=true∧fin a 1=1∧i+1+a.length<l.length∧(l.take (i+1+a.length)).drop (i+1)=a∧l.drop (i+1+a.length+1)=r∧kM k l (i+1+a.length+1):=by
 obtain⟨d,hd,h1,h2⟩:=h;have hdr:=List.drop_eq_getElem_cons hi;rw[hdr]at h1 h2;obtain⟨a,s,r,e1,e6,k1,hb,p1,p2,p3,p4⟩:=qy hd hx h1 h2;rw[e1]at hdr;obtain⟨g1,g2,g3⟩:=drop_at (show l.drop i=(l[i]::a)++s::r from hdr);simp only[List.length_cons]at g1 g3
 have hia:(l.take (i+1+a.length)).drop (i+1)=a:=by
  rw[List.drop_take,show i+1+a.length-(i+1)=a.length by omega];have:l.drop (i+1)=a++s::r:=e1;rw[this];simp
 have g3':l.drop (i+1+a.length+1)=r:=by rw[show i+1+a.length+1=i+(a.length+1)+1 by omega];exact g3
 exact⟨a,s,r,hdr,e6,k1,hb,mH (by omega) hk a 1 p1,p2,by omega,hia,g3',d,hd,by rw[g3'];exact p3,by rw[g3'];exact p4⟩
def zL (l:List aw) (i e:Nat):Prop:=(∃x,l[i]? =some x∧x.f0=4)∧Ends l i e
def zW (l:List aw) (j:Nat):Prop:=∃i e,zL l i e∧i≤j∧j≤e
theorem kM.at {k:Int} {l:List aw}:∀(i:Nat),kM k l 0→i≤l.length→kM k l i
 | 0,h,_=>h
 | i+1,h,hi=>((kM.at i h (by omega)).next (by omega)).2
theorem nested {k:Int} {l:List aw} {i:Nat} {x:aw} {a:List aw} {s:aw} {r:List aw} (hl:l.length≤1048576) (hd:l.drop i=x::(a++s::r)) (hs:s.f0=6) (hb:Ee k a) (hk:k≤30) {i' e':Nat} (h1:i<i') (h2:i'≤i+1+a.length) (h:zL l i' e'):e'≤i+1+a.length:=by
 obtain⟨⟨y,hy,h4⟩,he⟩:=h;obtain⟨m,rfl⟩:∃m,i'=i+1+m:=⟨i'-(i+1),by omega⟩;have hdrop:l.drop (i+1)=a++s::r:=by rw[←List.drop_drop,hd];rfl
 have hy':(a++s::r)[m]? =some y:=by rw[←hdrop,List.getElem?_drop];exact hy
 have hm:m<a.length:=by
  by_cases q:m<a.length
  ·exact q
  ·have:m=a.length:=by omega
   subst this;rw[List.getElem?_append_right (Nat.le_refl _),Nat.sub_self]at hy';have:s=y:=Option.some.inj hy';rw[←this]at h4;omega
 rw[List.getElem?_append_left hm,List.getElem?_eq_getElem hm]at hy';have hy'':a[m]=y:=Option.some.inj hy';have hF:kM k a 0:=⟨0,by omega,hb.1,hb.2⟩;obtain⟨a',s',r',e1,e6,_,_,p1,p2,p3,_,_,_⟩:=(hF.at m (by omega)).AF hm hk (Or.inl (by rw[hy''];exact h4))
 have hd':l.drop (i+1+m)=a[m]::(a'++s'::(r'++s::r)):=by
  rw[←List.drop_drop,hdrop,List.drop_append_of_le_length (by omega),e1];simp
 have:=he.inj hl (⟨a[m],a',s',_,hd',Or.inl (by rw[hy''];exact h4),e6,p1,p2,rfl⟩:Ends l (i+1+m) _);omega
theorem p8 (l:List aw) (hl:l.length≤1048576) (hb:okB l.length l 0=true):∃r,bj.f l=some r∧r.length≤l.length∧∀x,x∈r↔Wr l (fun j=>¬zW l j) l.length x:=by
 obtain⟨b1,b2,b3⟩:=jX _ _ _ hb;have n1:(0:Int)≤(l.length:Int)∧(l.length:Int)≤(l.length:Int)∧(l.length:Int)*(1:Nat)≤room:=⟨by omega,by omega,by unfold room;omega⟩
 have key9:∀(e i:Nat),e<l.length→cT.f l (i:Int)=some (e:Int)→∀(n j:Nat) (g:List Bool),j+n=e+1→g.length=l.length→∃g',g'.length=l.length∧(∀m,m<l.length→(g'[m]? =some true↔g[m]? =some true∨(j≤m∧m≤e)))∧lp bj.tree (.c9 l g (i:Int) (j:Int) l (l.length:Int) (i:Int))=lp bj.tree (.c5 l g' l (l.length:Int) (wr ((i:Int)+1))):=by
  intro e i he hend n
  induction n with
  | zero=>
    intro j g hj hg;refine⟨g,hg,fun m _=>⟨Or.inl,fun h=>h.elim id fun h=>by omega⟩,?_⟩;rw[aB];have q:decide ((j:Int)≤(e:Int))=false:=decide_eq_false (by omega);simp only[bj.tree,Tr.ah,Tr.ag,Tr.ai,cT.told,hend,af,q,Bool.false_eq_true,↓reduceIte]
  | succ n ih=>
    intro j g hj hg;obtain⟨g',hg',hm',e'⟩:=ih (j+1) (g.set j true) (by omega) (by rw[List.length_set];exact hg);refine⟨g',hg',fun m hm=> ?_,?_⟩
    ·rw[hm' m hm,List.getElem?_set]
     by_cases qm:j=m
     ·subst qm;rw[if_pos rfl,if_pos (by omega)];exact⟨fun _=>Or.inr ⟨by omega,by omega⟩,fun _=>Or.inl rfl⟩
     ·rw[if_neg qm];exact⟨fun h=>h.imp id fun h=>by omega,fun h=>h.imp id fun h=>by omega⟩
    ·rw[aB];have q:decide ((j:Int)≤(e:Int))=true:=decide_eq_true (by omega);have q':j<g.length:=by omega
     simp only[bj.tree,Tr.ah,Tr.ag,Tr.al,Tr.ai,cT.told,hend,af,q,bW q',and_self,↓reduceIte,Int.toNat_natCast,aN (show j<4611686018427387904 by omega)];exact e'
 have key:=upto l.length (fun i (g:List Bool)=>g.length=l.length∧kM 3 l i∧∀m,m<l.length→(g[m]? =some true↔∃i' e,i'<i∧zL l i' e∧i'≤m∧m≤e)) (fun i g=>lp bj.tree (.c5 l g l (l.length:Int) (i:Int))) (fun r=>r.length≤l.length∧∀x,x∈r↔Wr l (fun j=>¬zW l j) l.length x) (fun i hi g hs=>by
  obtain⟨hg,hF,hM⟩:=hs
  by_cases q:i<l.length
  ·obtain⟨hok,hF'⟩:=hF.next q
   by_cases h4:l[i].f0=4
   ·obtain⟨a,s,r,e1,e6,_,_,p1,p2,p3,_,_,_⟩:=hF.AF q (by omega) (Or.inl h4);have hE:Ends l i (i+1+a.length):=⟨l[i],a,s,r,e1,Or.inl h4,e6,p1,p2,rfl⟩;have hI:zL l i (i+1+a.length):=⟨⟨l[i],List.getElem?_eq_getElem q,h4⟩,hE⟩;obtain⟨g',hg',hm',e'⟩:=key9 (i+1+a.length) i p3 (hE.zI hl) (i+1+a.length+1-i) i g (by omega) hg;refine Or.inr ⟨q,g',?_,hg',hF',fun m hm=> ?_⟩
    ·rw[aB];simp only[bj.tree,Tr.ag,Tr.al,Tr.ai,bh q,bW q,aU q,and_self,↓reduceIte,decide_eq_true h4,decide_true,e',aN (show i<4611686018427387904 by omega)]
    ·rw[hm' m hm,hM m hm];refine⟨fun h=>h.elim (fun⟨i',e,h1,h2⟩=>⟨i',e,by omega,h2⟩) fun h=>⟨i,_,by omega,hI,h⟩,fun⟨i',e,h1,h2,h3⟩=> ?_⟩
     by_cases qi:i'<i
     ·exact Or.inl ⟨i',e,qi,h2,h3⟩
     ·obtain rfl:i'=i:=by omega
      have:=h2.2.inj hl hE;exact Or.inr (by omega)
   ·refine Or.inr ⟨q,g,?_,hg,hF',fun m hm=> ?_⟩
    ·rw[aB];simp only[bj.tree,Tr.ag,Tr.al,Tr.ai,bh q,bW q,aU q,and_self,↓reduceIte,decide_eq_false h4,decide_true,Bool.false_eq_true,aN (show i<4611686018427387904 by omega)]
    ·rw[hM m hm];refine⟨fun⟨i',e,h1,h2⟩=>⟨i',e,by omega,h2⟩,fun⟨i',e,h1,h2,h3⟩=> ?_⟩
     by_cases qi:i'<i
     ·exact⟨i',e,qi,h2,h3⟩
     ·obtain rfl:i'=i:=by omega
      obtain⟨⟨y,hy,hy4⟩,_⟩:=h2;rw[List.getElem?_eq_getElem q]at hy;cases hy;exact absurd hy4 h4
  ·obtain rfl:i=l.length:=by omega
   obtain⟨r,er,hr,hrm⟩:=rS l g hl hg;refine Or.inl ⟨r.1,?_,hr,fun x=> ?_⟩
   ·rw[aB];simp only[bj.tree,Tr.ag,Tr.ah,Tr.aj,dv,Bool.false_eq_true,↓reduceIte,dV.told,er,af]
   ·rw[hrm];refine B3 fun j hj=> ?_;have hj':j<g.length:=by omega
    have:=hM j hj;rw[List.getElem?_eq_getElem hj']at this⊢;cases hgj:g[j]with
    | true=>
      rw[hgj]at this;obtain⟨i',e,h1,h2,h3⟩:=this.mp rfl;exact⟨fun h=>(by cases h),fun h=>(h ⟨i',e,h2,h3⟩).elim⟩
    | false=>
      rw[hgj]at this;refine⟨fun _ hI=> ?_,fun _=>rfl⟩;obtain⟨i',e,h2,h3⟩:=hI;have hi':i'<l.length:=by omega
      have:=this.mpr ⟨i',e,hi',h2,h3⟩;cases this) 0 (by omega) (List.replicate l.length false) ⟨by simp,⟨0,by omega,b1,b2⟩,fun m hm=>⟨fun h=>by simp[List.getElem?_replicate,hm]at h,fun⟨i',e,h,_⟩=>absurd h (by omega)⟩⟩
 obtain⟨r,e,hr⟩:=key;refine⟨r,?_,hr⟩;simp only[bj.f,bj.begin,Tr.ah,Tr.ag,Tr.al,Tr.ai,bU.told,ji l hl,af,hb,Bool.not_true,Bool.false_eq_true,↓reduceIte,n1,and_self,Int.toNat_natCast];exact e
theorem im {A:Type} {o:List A} {j:Nat} (q:j<o.length):o.take (j+1)=o.take j++[o[j]]:=by rw[List.take_add_one,List.getElem?_eq_getElem q];rfl
def mP (o a b:Int) (k:Nat):Bool:=po o a b&&(decide (a= -1-(k:Int)) || decide (b= -1-(k:Int)))
def note (W F R:Nat→Bool) (k:Nat):Bool:=F k || (R k&& !W k)
def ng (W:Nat→Bool) (v:Int) (k:Nat):Bool:=W k || decide (v=(k:Int))
def ia (x:aw) (W:Nat→Bool):Nat→Bool:=if x.f0=1∨x.f0=2 then ng W x.f1 else W
def ir (x:aw) (W F:Nat→Bool):Nat→Bool:=if x.f0=1∨x.f0=3∨x.f0=4 then note W F (mP x.f3.f0 x.f3.f1 x.f3.f2)else F
inductive jx:Nat→List aw→(Nat→Bool)→(Nat→Bool)→(Nat→Bool)→(Nat→Bool)→Prop
 | nil (n W F):jx n [] W F W F
 | plain {n x l W F W' F'}:x.f0≠4→xc x=true→jx n l (ia x W) (ir x W F) W' F'→jx n (x::l) W F W' F'
 | ifs {n x a s r W F W1 F1 W' F'}:x.f0=4→xc x=true→s.f0=6→inr 1 30 a 1=true→fin a 1=1→jx n a (ia x W) (ir x W F) W1 F1→jx (n+1) r (ia x W) F1 W' F'→jx (n+1) (x::(a++s::r)) W F W' F'
theorem sG (o a b:Int):∃r,de.f o a b=some r∧r.length≤2∧(∀x∈r,0≤x∧x≤7)∧∀k:Nat,(k:Int)∈r↔mP o a b k=true:=by
 cases hx:po o a b with
 | false=>
   simp only[de.f,de.begin,Tr.ah,Tr.ag,Tr.aj,da.told,iA,hx,af,Bool.not_false,↓reduceIte];exact⟨_,rfl,by simp,by simp,fun k=>by unfold mP;rw[hx];simp⟩
 | true=>
   obtain⟨_,ha,hb⟩:=vg hx
   have key:=upto 2 (fun i (s:List Int)=>s.length≤i∧(∀x∈s,0≤x∧x≤7)∧∀k:Nat,(k:Int)∈s↔∃j,j<i∧dz [a,b] (j:Int)= -1-(k:Int)) (fun i s=>lp de.tree (.c5 s [a,b] (2:Int) (i:Int))) (fun r=>r.length≤2∧(∀x∈r,0≤x∧x≤7)∧∀k:Nat,(k:Int)∈r↔mP o a b k=true) (fun i hi s hs=>by
    obtain⟨hl,hv,hm⟩:=hs;rw[aB]
    by_cases q:i<2
    ·have q1:decide ((i:Int)<2)=true:=decide_eq_true (by omega);have q2:(0:Int)≤(i:Int)∧(i:Int)<((([a,b]:List Int).length:Nat):Int):=by simp;omega
     have hr: -8≤dz [a,b] (i:Int)∧dz [a,b] (i:Int)≤999:=by
      rcases(show i=0∨i=1 by omega)with rfl | rfl
      ·exact ha
      ·exact hb
     have hsucc:∀k:Nat,(∃j,j<i+1∧dz [a,b] (j:Int)= -1-(k:Int))↔(∃j,j<i∧dz [a,b] (j:Int)= -1-(k:Int))∨dz [a,b] (i:Int)= -1-(k:Int):=fun k=>
      ⟨fun⟨j,h1,h2⟩=>by
       by_cases qj:j<i
       ·exact Or.inl ⟨j,qj,h2⟩
       ·obtain rfl:j=i:=by omega
        exact Or.inr h2,fun h=>h.elim (fun⟨j,h1,h2⟩=>⟨j,by omega,h2⟩) fun h=>⟨i,by omega,h⟩⟩
     by_cases hn:dz [a,b] (i:Int)<0
     ·have w:wr (-1-dz [a,b] (i:Int))= -1-dz [a,b] (i:Int):=cd (by omega);refine Or.inr ⟨q,s++[-1-dz [a,b] (i:Int)],?_,by rw[List.length_append,List.length_singleton];omega,?_,fun k=> ?_⟩
      ·simp only[de.tree,Tr.ag,Tr.al,Tr.ai,q1,q2,and_self,decide_eq_true hn,w,dR s _ 1048576 (by omega) (by omega) 8 (by omega),decide_true,↓reduceIte,aN (show i<4611686018427387904 by omega)]
      ·intro x hx;rcases List.mem_append.mp hx with hx | hx
       ·exact hv x hx
       ·rw[List.mem_singleton]at hx;omega
      ·rw[iS,hm,hsucc];exact⟨fun h=>h.imp id fun h=>by omega,fun h=>h.imp id fun h=>by omega⟩
     ·refine Or.inr ⟨q,s,?_,by omega,hv,fun k=> ?_⟩
      ·simp only[de.tree,Tr.ag,Tr.al,Tr.ai,q1,q2,and_self,decide_eq_false hn,Bool.false_eq_true,decide_true,↓reduceIte,aN (show i<4611686018427387904 by omega)]
      ·rw[hm,hsucc];exact⟨Or.inl,fun h=>h.elim id fun h=>by omega⟩
    ·have q1:decide ((i:Int)<2)=false:=decide_eq_false (by omega);obtain⟨m,n,e1,e2,hn,hb⟩:=pX s (by omega);refine Or.inl ⟨n,?_,by omega,fun x hx=>hv x ((hn x).mp hx),fun k=> ?_⟩
     ·simp only[de.tree,Tr.ag,Tr.ah,Tr.aj,q1,Bool.false_eq_true,↓reduceIte,slices_Sort_int.told,e1,slices_Compact_int.told,e2,af]
     ·obtain rfl:i=2:=by omega
      rw[hn,hm];unfold mP;rw[hx,Bool.true_and,Bool.or_eq_true,decide_eq_true_eq,decide_eq_true_eq];refine⟨fun⟨j,h1,h2⟩=> ?_,fun h=>h.elim (fun h=>⟨0,by omega,h⟩) fun h=>⟨1,by omega,h⟩⟩;rcases(show j=0∨j=1 by omega)with rfl | rfl
      ·exact Or.inl h2
      ·exact Or.inr h2) 0 (by omega) [] ⟨by simp,by simp,fun k=>⟨fun h=>by simp at h,fun⟨j,h,_⟩=>absurd h (by omega)⟩⟩
   obtain⟨r,e,h⟩:=key;refine⟨r,?_,h⟩;simp only[de.f,de.begin,Tr.ah,Tr.ag,Tr.ai,da.told,iA,hx,af,Bool.not_true,Bool.false_eq_true,↓reduceIte];exact e
set_option maxHeartbeats 8000000 in
theorem lE (o a b:Int) (W F:Nat→Bool):bo.f o a b (W 0) (W 1) (W 2) (W 3) (W 4) (W 5) (W 6) (W 7) (F 0) (F 1) (F 2) (F 3) (F 4) (F 5) (F 6) (F 7)=some (W 0,W 1,W 2,W 3,W 4,W 5,W 6,W 7,note W F (mP o a b) 0,note W F (mP o a b) 1,note W F (mP o a b) 2,note W F (mP o a b) 3,note W F (mP o a b) 4,note W F (mP o a b) 5,note W F (mP o a b) 6,note W F (mP o a b) 7):=by
 obtain⟨l,e,hl,hv,hm⟩:=sG o a b;simp only[bo.f,bo.begin,Tr.ah,Tr.ai,de.told,e,af];obtain⟨G,hG⟩:∃G:Nat→Nat→Bool,∀i k,G i k=note W F (fun k=>decide ((k:Int)∈l.take i)) k:=⟨_,fun _ _=>rfl⟩
 have key:∀(n i:Nat),i+n=l.length→lp bo.tree (.c2 l (l.length:Int) (i:Int) (W 0) (W 1) (W 2) (W 3) (W 4) (W 5) (W 6) (W 7) (G i 0) (G i 1) (G i 2) (G i 3) (G i 4) (G i 5) (G i 6) (G i 7))=some (W 0,W 1,W 2,W 3,W 4,W 5,W 6,W 7,G l.length 0,G l.length 1,G l.length 2,G l.length 3,G l.length 4,G l.length 5,G l.length 6,G l.length 7):=by
  intro n
  induction n with
  | zero=>
    intro i hi;obtain rfl:i=l.length:=by omega
    rw[aB];simp only[bo.tree,Tr.ag,Tr.aj,dv,Bool.false_eq_true,↓reduceIte]
  | succ n ih=>
    intro i hi;have q:i<l.length:=by omega
    rw[←ih (i+1) (by omega)];have hk:=hv l[i] (List.getElem_mem q);have hr:dz l (i:Int)=l[i]:=aU q
    have hs:∀k:Nat,G (i+1) k=(G i k || (decide (l[i]=(k:Int))&& !W k)):=fun k=>by
     rw[hG,hG];unfold note;dsimp only
     have:decide ((k:Int)∈l.take (i+1))=(decide ((k:Int)∈l.take i) || decide (l[i]=(k:Int))):=by
      rw[Bool.eq_iff_iff,Bool.or_eq_true,decide_eq_true_eq,decide_eq_true_eq,decide_eq_true_eq,List.take_add_one,List.getElem?_eq_getElem q];exact iS _ _ _
     rw[this,Bool.and_or_distrib_right,Bool.or_assoc]
    clear ih hG hm e hv;generalize l[i]=k at hk hr hs;have w:wr ((i:Int)+1)=((i+1:Nat):Int):=aN (show i<4611686018427387904 by omega);have h0:G (i+1) 0=(G i 0 || (decide (k=(0:Int))&& !W 0)):=hs 0;have h1:G (i+1) 1=(G i 1 || (decide (k=(1:Int))&& !W 1)):=hs 1;have h2:G (i+1) 2=(G i 2 || (decide (k=(2:Int))&& !W 2)):=hs 2;have h3:G (i+1) 3=(G i 3 || (decide (k=(3:Int))&& !W 3)):=hs 3;have h4:G (i+1) 4=(G i 4 || (decide (k=(4:Int))&& !W 4)):=hs 4;have h5:G (i+1) 5=(G i 5 || (decide (k=(5:Int))&& !W 5)):=hs 5;have h6:G (i+1) 6=(G i 6 || (decide (k=(6:Int))&& !W 6)):=hs 6;have h7:G (i+1) 7=(G i 7 || (decide (k=(7:Int))&& !W 7)):=hs 7;clear hs;rw[aB];simp only[bo.tree,Tr.ag,Tr.al,Tr.ai,bh q,bW q,and_self,decide_true,↓reduceIte];rw[hr]
    rcases(show k=0∨k=1∨k=2∨k=3∨k=4∨k=5∨k=6∨k=7 by omega)with rfl | rfl | rfl | rfl | rfl | rfl | rfl | rfl<;>
     (simp only[Int.reduceEq,decide_false,decide_true,Bool.false_and,Bool.true_and,Bool.or_false]at h0 h1 h2 h3 h4 h5 h6 h7
      simp only[Int.reduceEq,decide_false,decide_true,Bool.false_eq_true,↓reduceIte,h0,h1,h2,h3,h4,h5,h6,h7];split
      ·rename_i h;simp only[h,Bool.or_true];rw[aB];simp only[bo.tree,Tr.ag,Tr.ai,decide_true,↓reduceIte,Int.reduceEq,decide_false,Bool.false_eq_true];rw[aB];simp only[bo.tree,Tr.ai,w]
      ·rename_i h;simp only[Bool.eq_false_iff.mpr h,Bool.or_false];rw[aB];simp only[bo.tree,Tr.ai,w])
 have e0:∀k,G 0 k=F k:=fun k=>by rw[hG];unfold note;rw[List.take_zero];simp
 have e1:∀k,G l.length k=note W F (mP o a b) k:=fun k=>by
  rw[hG];unfold note;dsimp only;have:decide ((k:Int)∈l.take l.length)=mP o a b k:=by rw[List.take_length,Bool.eq_iff_iff,decide_eq_true_eq,hm]
  rw[this]
 have:=key l.length 0 (by omega);simp only[e0,e1]at this;exact this
theorem CN (W:Nat→Bool) (v:Int) (k:Nat) (h:v=(k:Int)):ng W v k=true:=by unfold ng;rw[decide_eq_true h,Bool.or_true]
theorem Cw (W:Nat→Bool) (v:Int) (k:Nat) (h:¬v=(k:Int)):ng W v k=W k:=by unfold ng;rw[decide_eq_false h,Bool.or_false]
set_option maxHeartbeats 8000000 in
theorem ue (self_:Self aD.I aD.A aD.K) (l:List aw) (i:Nat) (hi:i<l.length) (hok:xc l[i]=true) (W F:Nat→Bool):
 lp (aD.tree self_) (.c1 l (i:Int) (W 0) (W 1) (W 2) (W 3) (W 4) (W 5) (W 6) (W 7) (F 0) (F 1) (F 2) (F 3) (F 4) (F 5) (F 6) (F 7))=lp (aD.tree self_) (.c8 l (i:Int) l[i].f0 l[i].f1 l[i].f2 l[i].f3.f0 l[i].f3.f1 l[i].f3.f2 (ia l[i] W 0) (ia l[i] W 1) (ia l[i] W 2) (ia l[i] W 3) (ia l[i] W 4) (ia l[i] W 5) (ia l[i] W 6) (ia l[i] W 7) (ir l[i] W F 0) (ir l[i] W F 1) (ir l[i] W F 2) (ir l[i] W F 3) (ir l[i] W F 4) (ir l[i] W F 5) (ir l[i] W F 6) (ir l[i] W F 7)):=by
 rw[aB];have hvar:=qN hok;generalize hx:l[i]=x at hok hvar;have hr:ak l (i:Int)=x:=(aU hi).trans hx;have sF:(x.f0=1∨x.f0=3∨x.f0=4)→ir x W F=note W F (mP x.f3.f0 x.f3.f1 x.f3.f2):=fun h=>by unfold ir;rw[if_pos h]
 have sF':¬(x.f0=1∨x.f0=3∨x.f0=4)→ir x W F=F:=fun h=>by unfold ir;rw[if_neg h]
 have sW:(x.f0=1∨x.f0=2)→ia x W=ng W x.f1:=fun h=>by unfold ia;rw[if_pos h]
 have sW':¬(x.f0=1∨x.f0=2)→ia x W=W:=fun h=>by unfold ia;rw[if_neg h]
 generalize hWW:ia x W=W' at sW sW';generalize hFF:ir x W F=F' at sF sF';simp only[aD.tree,Tr.ag,Tr.al,Tr.ah,bh hi,bW hi,hr,and_self,decide_true,↓reduceIte,dd.told,uY,bZ.told,iY,af];clear hWW hFF hok hx hr
 by_cases hE:x.f0=1∨x.f0=3∨x.f0=4
 ·simp only[decide_eq_true hE,↓reduceIte,bo.told,lE x.f3.f0 x.f3.f1 x.f3.f2 W F,af];rw[sF hE]
  by_cases hV:x.f0=1∨x.f0=2
  ·obtain⟨v0,v1⟩:=hvar hV;rw[sW hV];simp only[decide_eq_true hV,↓reduceIte]
   rcases(show x.f1=0∨x.f1=1∨x.f1=2∨x.f1=3∨x.f1=4∨x.f1=5∨x.f1=6∨x.f1=7 by omega)with h | h | h | h | h | h | h | h<;>
    simp[h,ng,Tr.bf,Tr.ai]
  ·rw[sW' hV];simp only[decide_eq_false hV,Bool.false_eq_true,↓reduceIte,Tr.ai]
 ·simp only[decide_eq_false hE,Bool.false_eq_true,↓reduceIte];rw[sF' hE]
  by_cases hV:x.f0=1∨x.f0=2
  ·obtain⟨v0,v1⟩:=hvar hV;rw[sW hV];simp only[decide_eq_true hV,↓reduceIte]
   rcases(show x.f1=0∨x.f1=1∨x.f1=2∨x.f1=3∨x.f1=4∨x.f1=5∨x.f1=6∨x.f1=7 by omega)with h | h | h | h | h | h | h | h<;>
    simp[h,ng,Tr.bf,Tr.ai]
  ·rw[sW' hV];simp only[decide_eq_false hV,Bool.false_eq_true,↓reduceIte,Tr.ai]
def B5 (self_:Self aD.I aD.A aD.K) (n:Nat):Prop:=
 ∀(l:List aw) (W F W1 F1:Nat→Bool),l.length≤1048576→jx n l W F W1 F1→self_.f (l,W 0,W 1,W 2,W 3,W 4,W 5,W 6,W 7,F 0,F 1,F 2,F 3,F 4,F 5,F 6,F 7)=some (W1 0,W1 1,W1 2,W1 3,W1 4,W1 5,W1 6,W1 7,F1 0,F1 1,F1 2,F1 3,F1 4,F1 5,F1 6,F1 7)
set_option maxHeartbeats 4000000 in
theorem ud (self_:Self aD.I aD.A aD.K) (n:Nat) (hs:∀n',n=n'+1→B5 self_ n'):B5 (aD.step self_) n:=by
 intro l W F W1 F1 hl hR
 have key:∀(n':Nat) (m:List aw) (W F W1 F1:Nat→Bool),jx n' m W F W1 F1→n'=n→∀i,i≤l.length→l.drop i=m→lp (aD.tree self_) (.c1 l (i:Int) (W 0) (W 1) (W 2) (W 3) (W 4) (W 5) (W 6) (W 7) (F 0) (F 1) (F 2) (F 3) (F 4) (F 5) (F 6) (F 7))=some (W1 0,W1 1,W1 2,W1 3,W1 4,W1 5,W1 6,W1 7,F1 0,F1 1,F1 2,F1 3,F1 4,F1 5,F1 6,F1 7):=by
  intro n' m W F W1 F1 h
  induction h with
  | nil n' W F=>
    intro _ i hi hd;have h0:=congrArg List.length hd;rw[List.length_drop,List.length_nil]at h0;obtain rfl:i=l.length:=by omega
    rw[aB];simp only[aD.tree,Tr.ag,Tr.aj,dv,Bool.false_eq_true,↓reduceIte]
  | @plain n' x m W F W' F' h4 hok h ih=>
    intro hn i hi hd;obtain⟨q,e,e2⟩:=drop_at (a:=[]) (show l.drop i=[]++x::m from hd);have q':i<l.length:=q;have e':l[i]=x:=e;rw[ue self_ l i q' (by rw[e'];exact hok) W F,e',aB];simp only[aD.tree,Tr.ag,Tr.ai,decide_eq_false h4,Bool.false_eq_true,↓reduceIte,aN (show i<4611686018427387904 by omega)];exact ih hn (i+1) (by omega) e2
  | @ifs n' x a s r W F Wa Fa W' F' h4 hok h6 p1 p2 ha hr iha ihr=>
    intro hn i hi hd;obtain⟨q,e,e2⟩:=drop_at (a:=[]) (show l.drop i=[]++x::(a++s::r)from hd);obtain⟨g1,g2,g3⟩:=drop_at (show l.drop i=(x::a)++s::r from hd);simp only[List.length_cons]at g1 g3;have q':i<l.length:=q;have e':l[i]=x:=e;have hE:Ends l i (i+1+a.length):=⟨x,a,s,r,hd,Or.inl h4,h6,p1,p2,rfl⟩
    have hia:(l.take (i+1+a.length)).drop (i+1)=a:=by
     rw[List.drop_take,show i+1+a.length-(i+1)=a.length by omega];have:l.drop (i+1)=a++s::r:=e2;rw[this];simp
    have hn1:(0:Int)≤((i+1:Nat):Int)∧((i+1:Nat):Int)≤((i+1+a.length:Nat):Int)∧((i+1+a.length:Nat):Int)≤(l.length:Int):=by omega
    have et:=hs n' hn.symm a _ _ _ _ (by omega) ha;have we:wr (((i+1+a.length:Nat):Int)+1)=((i+1+a.length+1:Nat):Int):=aN (by omega);rw[ue self_ l i q' (by rw[e'];exact hok) W F,e',aB];simp only[aD.tree,Tr.ag,Tr.ah,Tr.ai,decide_eq_true h4,↓reduceIte,cT.told,hE.zI hl,af];rw[aB];simp only[aD.tree,Tr.al,Tr.ah,Tr.ai,aN (show i<4611686018427387904 by omega),hn1,and_self,↓reduceIte,Int.toNat_natCast,Self.told,hia,et,af,we];exact ihr hn (i+1+a.length+1) (by omega) (by rw[show i+1+a.length+1=i+(a.length+1)+1 by omega];exact g3)
 exact key n l W F W1 F1 hR rfl 0 (by omega) rfl
theorem qz (l:List aw) (W F W1 F1:Nat→Bool) (hl:l.length≤1048576) (h:jx 3 l W F W1 F1):aD.f l (W 0) (W 1) (W 2) (W 3) (W 4) (W 5) (W 6) (W 7) (F 0) (F 1) (F 2) (F 3) (F 4) (F 5) (F 6) (F 7)=some (W1 0,W1 1,W1 2,W1 3,W1 4,W1 5,W1 6,W1 7,F1 0,F1 1,F1 2,F1 3,F1 4,F1 5,F1 6,F1 7):=by
 have h0:=ud (Self.iter aD.step 4) 0 (fun n' h=>absurd h (by omega));have h1:=ud (Self.iter aD.step 5) 1 (fun n' h=>by cases h;exact h0);have h2:=ud (Self.iter aD.step 6) 2 (fun n' h=>by cases h;exact h1);have h3:=ud (Self.iter aD.step 7) 3 (fun n' h=>by cases h;exact h2);exact h3 l W F W1 F1 hl h
set_option maxHeartbeats 4000000 in
theorem nT (l:List aw) (a b c:Int) (hl:l.length≤1048576) (hb:okB l.length l 0=true) (hx:po a b c=true) {W1 F1:Nat→Bool} (h:jx 3 l (fun _=>false) (fun _=>false) W1 F1):
 ∃r,bt.f l a b c=some r∧r.length≤8∧∀x,x∈r↔∃k:Nat,k<8∧note W1 F1 (mP a b c) k=true∧x=(k:Int):=by
 have e1:=qz l _ _ _ _ hl h;have e2:=lE a b c W1 F1;generalize note W1 F1 (mP a b c)=Y at e2
 obtain⟨r,e,hr⟩:=upto 8 (fun i (s:List Int)=>s.length≤i∧∀x,x∈s↔∃k:Nat,k<i∧Y k=true∧x=(k:Int)) (fun i s=>lp bt.tree (.c8 s (Y 0) (Y 1) (Y 2) (Y 3) (Y 4) (Y 5) (Y 6) (Y 7) (i:Int))) (fun r=>r.length≤8∧∀x,x∈r↔∃k:Nat,k<8∧Y k=true∧x=(k:Int)) (fun i hi s hs=>by
  obtain⟨hs,hm⟩:=hs;rw[aB]
  by_cases q:i<8
  ·have q1:decide ((i:Int)<8)=true:=decide_eq_true (by omega);have q2:(0:Int)≤(i:Int)∧(i:Int)<8:=by omega
   have hY:List.getD [Y 0,Y 1,Y 2,Y 3,Y 4,Y 5,Y 6,Y 7] i false=Y i:=by
    rcases(show i=0∨i=1∨i=2∨i=3∨i=4∨i=5∨i=6∨i=7 by omega)with rfl | rfl | rfl | rfl | rfl | rfl | rfl | rfl<;>rfl
   cases hb:Y i with
   | true=>
     rw[hb]at hY;refine Or.inr ⟨q,s++[(i:Int)],?_,by rw[List.length_append,List.length_singleton];omega,fun x=> ?_⟩
     ·simp only[bt.tree,Tr.ag,Tr.al,Tr.ai,q1,q2,and_self,decide_true,Int.toNat_natCast,hY,dR s _ 1048576 (by omega) (by omega) 8 (by omega),↓reduceIte,aN (show i<4611686018427387904 by omega)]
     ·rw[iS,hm];refine⟨fun h=>h.elim (fun⟨k,h1,h2⟩=>⟨k,by omega,h2⟩) fun h=>⟨i,by omega,hb,h.symm⟩,fun⟨k,h1,h2,h3⟩=> ?_⟩
      by_cases qk:k<i
      ·exact Or.inl ⟨k,qk,h2,h3⟩
      ·exact Or.inr (by omega)
   | false=>
     rw[hb]at hY;refine Or.inr ⟨q,s,?_,by omega,fun x=> ?_⟩
     ·simp only[bt.tree,Tr.ag,Tr.al,Tr.ai,q1,q2,and_self,decide_true,Int.toNat_natCast,hY,Bool.false_eq_true,↓reduceIte,aN (show i<4611686018427387904 by omega)]
     ·rw[hm];refine⟨fun⟨k,h1,h2⟩=>⟨k,by omega,h2⟩,fun⟨k,h1,h2,h3⟩=> ?_⟩
      by_cases qk:k<i
      ·exact⟨k,qk,h2,h3⟩
      ·obtain rfl:k=i:=by omega
       rw[hb]at h2;cases h2
  ·obtain rfl:i=8:=by omega
   refine Or.inl ⟨s,?_,by omega,hm⟩;simp only[bt.tree,Tr.ag,Tr.aj,show decide (((8:Nat):Int)<8)=false from rfl,Bool.false_eq_true,↓reduceIte]) 0 (by omega) [] ⟨by simp,fun x=>⟨fun h=>by simp at h,fun⟨k,h,_⟩=>absurd h (by omega)⟩⟩
 refine⟨r,?_,hr⟩;simp only[bt.f,bt.begin,Tr.ah,Tr.ag,Tr.aj,Tr.ai,du.told,du.f,du.begin,bU.told,ji l hl,da.told,iA,hx,af,hb,Bool.not_true,Bool.false_eq_true,↓reduceIte,aD.told,e1,bo.told,e2];exact e
def l5 (a b:List Int) (x:Int):Bool:=decide (x∈a) || !decide (x∈b)
theorem mC (x:Int) (a b:List Int) (ha:a.length≤1048576) (hb:b.length≤1048576):cN.f x a b=some (!l5 a b x,a,b):=by
 simp only[cN.f,cN.begin,Tr.ah,Tr.ag,Tr.aj,eK.told,mo a x ha,mo b x hb,af,l5];cases decide (x∈a)<;>cases decide (x∈b)<;>rfl
theorem lH (l a b:List Int) (hl:l.length≤1048576) (ha:a.length≤1048576) (hb:b.length≤1048576):∃j,aA.f l a b=some (j,a,b)∧((j= -1∧l.filter (l5 a b)=l)∨∃n:Nat,j=(n:Int)∧n<l.length∧(l.take (n+1)).filter (l5 a b)=l.take n):=by
 have key:=upto l.length (fun i (_:Unit)=>(l.take i).filter (l5 a b)=l.take i) (fun i _=>lp aA.tree (.c2 l (l.length:Int) (i:Int) a b)) (fun r=>∃j,r=(j,a,b)∧((j= -1∧l.filter (l5 a b)=l)∨∃n:Nat,j=(n:Int)∧n<l.length∧(l.take (n+1)).filter (l5 a b)=l.take n)) (fun i hi s hs=>by
  rw[aB]
  by_cases q:i<l.length
  ·have ev:=mC (dz l (i:Int)) a b ha hb;have hr:dz l (i:Int)=l[i]:=aU q;rw[hr]at ev;cases hk:l5 a b l[i]with
   | false=>
     rw[hk]at ev;refine Or.inl ⟨((i:Int),a,b),?_,_,rfl,Or.inr ⟨i,rfl,q,?_⟩⟩
     ·simp only[aA.tree,Tr.ag,Tr.al,Tr.ah,Tr.aj,bh q,bW q,hr,and_self,decide_true,↓reduceIte,cN.told,ev,af,Bool.not_false]
     ·rw[List.take_add_one,List.getElem?_eq_getElem q,List.filter_append,hs];simp[hk]
   | true=>
     rw[hk]at ev;refine Or.inr ⟨q,(),?_,?_⟩
     ·simp only[aA.tree,Tr.ag,Tr.al,Tr.ah,Tr.ai,bh q,bW q,hr,and_self,decide_true,↓reduceIte,cN.told,ev,af,Bool.not_true,Bool.false_eq_true,aN (show i<4611686018427387904 by omega)]
     ·rw[List.take_add_one,List.getElem?_eq_getElem q,List.filter_append,hs];simp[hk]
  ·obtain rfl:i=l.length:=by omega
   rw[List.take_length]at hs;refine Or.inl ⟨(-1,a,b),?_,_,rfl,Or.inl ⟨rfl,hs⟩⟩;simp only[aA.tree,Tr.ag,Tr.aj,dv,Bool.false_eq_true,↓reduceIte]) 0 (by omega) () (by simp)
 obtain⟨r,e,j,rfl,h⟩:=key;exact⟨j,e,h⟩
theorem kY (l a b:List Int) (hl:l.length≤1048576) (ha:a.length≤1048576) (hb:b.length≤1048576):∃r,au.f l a b=some r∧r.1=l.filter (l5 a b):=by
 obtain⟨j,ej,hj⟩:=lH l a b hl ha hb;rcases hj with⟨rfl,h⟩ | ⟨n,rfl,hn,hf⟩
 ·simp only[au.f,au.begin,Tr.ah,Tr.ag,Tr.aj,aA.told,ej,af,decide_true,↓reduceIte];exact⟨_,rfl,h.symm⟩
 ·have key:=upto l.length (fun i (s:List Int×Nat)=>s.1.length=l.length∧s.2<i∧s.1.take s.2=(l.take i).filter (l5 a b)∧s.1.drop i=l.drop i) (fun i s=>lp au.tree (.c5 s.1 (s.2:Int) (i:Int) a b)) (fun r=>r.1=l.filter (l5 a b)) (fun i hi s hs=>by
   obtain⟨s1,s2⟩:=s;obtain⟨hs1,hs2,hs3,hs4⟩:=hs;simp only at hs1 hs2 hs3 hs4;rw[aB]
   by_cases q:i<l.length
   ·have q1:i<s1.length:=by omega
    have q2:s2<s1.length:=by omega
    have hel:s1[i]=l[i]:=by
     have:=congrArg (fun z=>z[0]?) hs4;simp only[List.getElem?_drop,Nat.add_zero,List.getElem?_eq_getElem q1,List.getElem?_eq_getElem q]at this;exact Option.some.inj this
    have hr:dz s1 (i:Int)=l[i]:=(aU q1).trans hel;have ev:=mC l[i] a b ha hb;cases hk:l5 a b l[i]with
    | true=>
      rw[hk]at ev;refine Or.inr ⟨q,(s1.set s2 l[i],s2+1),?_,by rw[List.length_set];exact hs1,by show s2+1<i+1;omega,?_,?_⟩
      ·simp only[au.tree,Tr.ag,Tr.al,Tr.ah,Tr.ai,bh q1,bW q1,bW q2,hr,and_self,decide_true,↓reduceIte,cN.told,ev,af,Bool.not_true,Bool.not_false,Int.toNat_natCast,aN (show i<4611686018427387904 by omega),aN (show s2<4611686018427387904 by omega)]
      ·show(s1.set s2 l[i]).take (s2+1)=_;rw[List.take_add_one,List.take_set_of_le (Nat.le_refl s2),hs3,List.getElem?_set_self q2,List.take_add_one,List.getElem?_eq_getElem q,List.filter_append];simp[hk]
      ·show(s1.set s2 l[i]).drop (i+1)=_;rw[List.drop_set_of_lt (by omega),←List.drop_drop,hs4,List.drop_drop]
    | false=>
      rw[hk]at ev;refine Or.inr ⟨q,(s1,s2),?_,hs1,by show s2<i+1;omega,?_,?_⟩
      ·simp only[au.tree,Tr.ag,Tr.al,Tr.ah,Tr.ai,bh q1,bW q1,hr,and_self,decide_true,↓reduceIte,cN.told,ev,af,Bool.not_false,Bool.not_true,Bool.false_eq_true,aN (show i<4611686018427387904 by omega)]
      ·show s1.take s2=_;rw[hs3,List.take_add_one,List.getElem?_eq_getElem q,List.filter_append];simp[hk]
      ·show s1.drop (i+1)=_;rw[←List.drop_drop,hs4,List.drop_drop]
   ·obtain rfl:i=s1.length:=by omega
    have q2:s2<s1.length:=hs2;have hlen:(List.take s2 s1++List.replicate (List.length s1-s2) (0:Int)).length=s1.length:=by rw[List.length_append,List.length_take,List.length_replicate];omega
    have n1:(0:Int)≤0∧(0:Int)≤(s2:Int)∧(s2:Int)≤(s1.length:Int):=by omega
    refine Or.inl ⟨(List.take s2 (List.take s2 s1++List.replicate (List.length s1-s2) (0:Int)),a,b),?_,?_⟩
    ·simp only[au.tree,Tr.ag,Tr.al,Tr.gL,Tr.aj,dv,Bool.false_eq_true,↓reduceIte,bW q2,and_self,Int.toNat_natCast,hlen,n1]
    ·show List.take s2 _=_;rw[List.take_left' (by rw[List.length_take];omega),hs3,hs1,List.take_length]) (n+1) (by omega) (l,n) ⟨rfl,by show n<n+1;omega,hf.symm,rfl⟩
  obtain⟨r,e,h⟩:=key;have hn1:decide ((n:Int)= -1)=false:=decide_eq_false (by omega);have w:wr ((n:Int)+1)=((n+1:Nat):Int):=aN (by omega);refine⟨r,?_,h⟩;simp only[au.f,au.begin,Tr.ah,Tr.ag,Tr.ai,aA.told,ej,af,hn1,Bool.false_eq_true,↓reduceIte,w];exact e
def C6 (l:List aw) (Y:Nat→Bool) (x:Int):Prop:=Wr l (fun _=>True) l.length x∧((∃k:Nat,k<8∧Y k=true∧x=(k:Int))∨¬Wr l (fun j=>¬zW l j) l.length x)
theorem su (l:List aw) (a b c:Int) (hl:l.length≤1048576) (hb:okB l.length l 0=true) (hx:po a b c=true) {W1 F1:Nat→Bool} (h:jx 3 l (fun _=>false) (fun _=>false) W1 F1):∃r,dS.f l a b c=some r∧r.length≤l.length+8∧∀x,x∈r↔C6 l (note W1 F1 (mP a b c)) x:=by
 obtain⟨r1,e1,h1,m1⟩:=nT l a b c hl hb hx h;obtain⟨r2,e2,h2,m2⟩:=p8 l hl hb;obtain⟨r3,e3,h3,m3⟩:=ru l hl hb;obtain⟨r4,e4,h4⟩:=kY r3 r1 r2 (by omega) (by omega) (by omega)
 have key:lp dS.tree (.c4 l a b c r1 r2)=some r4.1:=by
  rw[aB];simp only[dS.tree,Tr.ah,Tr.aj,eU.told,e3,au.told,e4,af]
 refine⟨r4.1,?_,by rw[h4];have:=List.length_filter_le (l5 r1 r2) r3;omega,fun x=> ?_⟩
 ·simp only[dS.f,dS.begin,Tr.ah,Tr.ag,Tr.fq,Tr.bf,Tr.ai,du.told,du.f,du.begin,Tr.aj,bU.told,ji l hl,da.told,iA,hb,hx,af,Bool.not_true,Bool.false_eq_true,↓reduceIte,bt.told,e1,bj.told,e2,cB,key]
 ·rw[h4,List.mem_filter,m3];unfold l5 C6;rw[Bool.or_eq_true,decide_eq_true_eq,m1,Bool.not_eq_true',decide_eq_false_iff_not,m2]
theorem kC (l:List Int) (k:Int) (hl:l.length≤1048576):cK.f l k=some (decide (k∈l)):=by
 simp only[cK.f,cK.begin,Tr.ai]
 have key:∀(n i:Nat),i+n=l.length→lp cK.tree (.c2 l k (i:Int))=some (decide (k∈l.drop i)):=by
  intro n
  induction n with
  | zero=>
    intro i hi;obtain rfl:i=l.length:=by omega
    rw[aB,List.drop_length];simp only[cK.tree,Tr.ag,Tr.aj,dv,Bool.false_eq_true,↓reduceIte];simp
  | succ n ih=>
    intro i hi;have q:i<l.length:=by omega
    rw[aB,List.drop_eq_getElem_cons q];simp only[cK.tree,Tr.ag,Tr.al,Tr.aj,Tr.ai,bh q,bW q,aU q,and_self,↓reduceIte,aN (show i<4611686018427387904 by omega),ih (i+1) (by omega),decide_eq_true_eq]
    by_cases e:l[i]=k
    ·rw[if_pos e];simp[e]
    ·rw[if_neg e];congr 1;rw[Bool.eq_iff_iff,decide_eq_true_eq,decide_eq_true_eq,List.mem_cons];exact⟨Or.inr,fun h=>h.elim (fun h=>absurd h.symm e) id⟩
 exact key l.length 0 (by omega)
theorem tJ (a b c d e f:Int):eT.f a b c d e f=some (decide (a=4∨a=5)):=by
 simp only[eT.f,eT.begin,Tr.ag,Tr.aj]
 by_cases h4:a=4
 ·simp[h4]
 ·simp[h4]
theorem my (l:List aw) (i:Nat) (d:Int) (hi:i<l.length) (hl:l.length≤1048576) (h0:0≤d) (h1:d≤30):
 lp cn.tree (.c3 l d (i:Int))=if l[i].f0=6∧dep l[i].f0 d=0 then some (i:Int)else lp cn.tree (.c3 l (dep l[i].f0 d) ((i+1:Nat):Int)):=by
 rw[aB];obtain⟨w1,w2,w3⟩:=AE (x:=0) h0 h1;have w7:wr ((i:Int)+1)=((i+1:Nat):Int):=aN (by omega);simp only[cn.tree,Tr.ag,Tr.ah,Tr.al,Tr.aj,Tr.ai,eT.told,tJ,af,bh hi,bW hi,aU hi,and_self,↓reduceIte,w1,w2,w3,w7,decide_eq_true_eq];unfold dep
 by_cases h4:l[i].f0=4∨l[i].f0=5
 ·have h6:¬l[i].f0=6:=by omega
  simp only[h4,h6,↓reduceIte,false_and]
 ·by_cases h6:l[i].f0=6
  ·simp only[h6,show¬((6:Int)=4∨(6:Int)=5) by omega,↓reduceIte,true_and]
  ·simp only[h4,h6,↓reduceIte,false_and]
theorem vL (l:List aw) (hl:l.length≤1048576) (k:Int) (hk:k≤30):∀(a:List aw) (d:Int) (j:Nat) (s:aw) (r:List aw),l.drop j=a++s::r→s.f0=6→1≤d→d≤k→inr 1 k a d=true→fin a d=1→
 lp cn.tree (.c3 l d (j:Int))=some ((j+a.length:Nat):Int)
 | [],d,j,s,r,hd,h6,h1,hk',_,hf=>by
   obtain⟨h',e,_⟩:=drop_at (a:=[]) hd;have hd1:d=1:=hf;rw[my l j d h' hl (by omega) (by omega)];rw[show l[j]=s from e,h6,hd1];rfl
 | x::a,d,j,s,r,hd,h6,h1,hk',hp,hf=>by
   obtain⟨h',e,e2⟩:=drop_at (a:=[]) (show l.drop j=[]++x::(a++s::r)from hd);rw[my l j d h' hl (by omega) (by omega)];rw[show l[j]=x from e];unfold inr at hp;rw[Bool.and_eq_true,Bool.and_eq_true,bd]at hp;rw[if_neg (by omega),vL l hl k hk a (dep x.f0 d) (j+1) s r e2 h6 hp.2.1.1 hp.2.1.2 hp.2.2 hf,List.length_cons];congr 2;omega
theorem Ends.yh {l:List aw} {i e:Nat} (h:Ends l i e) (hl:l.length≤1048576):cn.f l (i:Int)=some (e:Int):=by
 obtain⟨x,a,s,r,hd,hx,h6,hp,hf,rfl⟩:=h;simp only[cn.f,cn.begin,Tr.ai];obtain⟨h',e,e2⟩:=drop_at (a:=[]) (show l.drop i=[]++x::(a++s::r)from hd);rw[my l i 0 h' hl (by omega) (by omega),show l[i]=x from e];have hdep:dep x.f0 0=1:=by unfold dep;rw[if_pos hx];rfl
 rw[hdep,if_neg (by omega)];exact vL l hl 30 (by omega) a 1 (i+1) s r e2 h6 (by omega) (by omega) hp hf
def L8 (F:Nat→Bool):List Bool:=[F 0,F 1,F 2,F 3,F 4,F 5,F 6,F 7]
theorem mc (F:Nat→Bool):(L8 F).length=8:=rfl
theorem Ax (F:Nat→Bool) (k:Nat) (h:k<8):(L8 F)[k]? =some (F k):=by
 rcases(show k=0∨k=1∨k=2∨k=3∨k=4∨k=5∨k=6∨k=7 by omega)with rfl | rfl | rfl | rfl | rfl | rfl | rfl | rfl<;>rfl
theorem BV (F:Nat→Bool) (x:Int) (h:0≤x∧x≤7):Dt (L8 F) x=F x.toNat:=by
 show(L8 F).getD x.toNat false=_;rw[List.getD_eq_getElem?_getD,Ax F x.toNat (by omega)];rfl
theorem rJ {F G:Nat→Bool} (h:∀k,k<8→F k=G k):L8 F=L8 G:=by
 unfold L8;rw[h 0 (by omega),h 1 (by omega),h 2 (by omega),h 3 (by omega),h 4 (by omega),h 5 (by omega),h 6 (by omega),h 7 (by omega)]
theorem vC (F:Nat→Bool) (x:Int) (h:0≤x∧x≤7):(L8 F).set x.toNat true=L8 (ng F x):=by
 refine List.ext_getElem? (fun k=> ?_);rw[List.getElem?_set,mc]
 by_cases q:k<8
 ·rw[Ax _ k q,Ax _ k q]
  by_cases e:x.toNat=k
  ·rw[if_pos e,if_pos (by omega),CN F x k (by omega)]
  ·rw[if_neg e,Cw F x k (by omega)]
 ·rw[if_neg (by omega),List.getElem?_eq_none (by rw[mc];omega),List.getElem?_eq_none (by rw[mc];omega)]
theorem xD:List.replicate (Int.toNat 8) false=L8 (fun _=>false):=rfl
theorem lr (F:Nat→Bool):∃r,bV.f (L8 F)=some r∧r.length≤8∧∀x,x∈r↔∃k:Nat,k<8∧F k=true∧x=(k:Int):=by
 simp only[bV.f,bV.begin,Tr.ai]
 exact upto 8 (fun i (s:List Int)=>s.length≤i∧∀x,x∈s↔∃k:Nat,k<i∧F k=true∧x=(k:Int)) (fun i s=>lp bV.tree (.c3 (L8 F) s (i:Int))) (fun r=>r.length≤8∧∀x,x∈r↔∃k:Nat,k<8∧F k=true∧x=(k:Int)) (fun i hi s hs=>by
  obtain⟨hs,hm⟩:=hs;rw[aB];have hl8:((L8 F).length:Int)=8:=rfl
  by_cases q:i<8
  ·have q1:decide ((i:Int)<8)=true:=decide_eq_true (by omega);have q2:(0:Int)≤(i:Int)∧(i:Int)<8:=by omega
   have hY:Dt (L8 F) (i:Int)=F i:=by rw[BV F _ (by omega),Int.toNat_natCast]
   cases hb:F i with
   | true=>
     rw[hb]at hY;refine Or.inr ⟨q,s++[(i:Int)],?_,by rw[List.length_append,List.length_singleton];omega,fun x=> ?_⟩
     ·simp only[bV.tree,Tr.ag,Tr.al,Tr.ai,hl8,q1,q2,and_self,decide_true,hY,dR s _ 1048576 (by omega) (by omega) 8 (by omega),↓reduceIte,aN (show i<4611686018427387904 by omega)]
     ·rw[iS,hm];refine⟨fun h=>h.elim (fun⟨k,h1,h2⟩=>⟨k,by omega,h2⟩) fun h=>⟨i,by omega,hb,h.symm⟩,fun⟨k,h1,h2,h3⟩=> ?_⟩
      by_cases qk:k<i
      ·exact Or.inl ⟨k,qk,h2,h3⟩
      ·exact Or.inr (by omega)
   | false=>
     rw[hb]at hY;refine Or.inr ⟨q,s,?_,by omega,fun x=> ?_⟩
     ·simp only[bV.tree,Tr.ag,Tr.al,Tr.ai,hl8,q1,q2,and_self,decide_true,hY,Bool.false_eq_true,↓reduceIte,aN (show i<4611686018427387904 by omega)]
     ·rw[hm];refine⟨fun⟨k,h1,h2⟩=>⟨k,by omega,h2⟩,fun⟨k,h1,h2,h3⟩=> ?_⟩
      by_cases qk:k<i
      ·exact⟨k,qk,h2,h3⟩
      ·obtain rfl:k=i:=by omega
       rw[hb]at h2;cases h2
  ·obtain rfl:i=8:=by omega
   refine Or.inl ⟨s,?_,by omega,hm⟩;simp only[bV.tree,Tr.ag,Tr.aj,hl8,show decide (((8:Nat):Int)<8)=false from rfl,Bool.false_eq_true,↓reduceIte]) 0 (by omega) [] ⟨by simp,fun x=>⟨fun h=>by simp at h,fun⟨k,h,_⟩=>absurd h (by omega)⟩⟩
theorem jw (a b c d e f:Int):cO.f a b c d e f=some (decide (a=1∨a=2)):=by
 simp only[cO.f,cO.begin,Tr.ag,Tr.aj]
 by_cases h4:a=1
 ·simp[h4]
 ·simp[h4]
theorem kM.var {k:Int} {l:List aw} {i:Nat} (h:kM k l i) (hi:i<l.length) (hv:l[i].f0=1∨l[i].f0=2):0≤l[i].f1∧l[i].f1≤7:=qN (h.next hi).1 hv
theorem yt (F:Nat→Bool) (x:Int) (k:Nat):ng F x k=true↔F k=true∨x=(k:Int):=by unfold ng;rw[Bool.or_eq_true,decide_eq_true_eq]
theorem Dx {l:List aw} {g:Nat→Prop} {x:Int} {k:Int} (hF:kM k l 0) {i:Nat} (hi:i≤l.length) (h:Wr l g i x):0≤x∧x≤7:=by
 obtain⟨j,y,h1,h2,h3,h4,rfl⟩:=h;have hj:j<l.length:=by omega
 rw[List.getElem?_eq_getElem hj]at h2;cases h2;exact(hF.at j (by omega)).var hj h4
theorem Cc {l:List aw} {g:Nat→Prop} {k:Int} (hF:kM k l 0) {F:Nat→Bool} (h:∀k:Nat,k<8→(F k=true↔Wr l g l.length (k:Int))) (x:Int):(∃k:Nat,k<8∧F k=true∧x=(k:Int))↔Wr l g l.length x:=by
 refine⟨fun⟨k,h1,h2,h3⟩=> ?_,fun hw=> ?_⟩
 ·rw[h3];exact(h k h1).mp h2
 ·have:=Dx hF (Nat.le_refl _) hw;refine⟨x.toNat,by omega,(h x.toNat (by omega)).mpr ?_,by omega⟩;rw[show((x.toNat:Nat):Int)=x by omega];exact hw
theorem rn (l:List aw) (hl:l.length≤1048576) (hb:okB l.length l 0=true):∃r,di.f l=some r∧r.length≤8∧∀x,x∈r↔Wr l (fun _=>True) l.length x:=by
 obtain⟨b1,b2,b3⟩:=jX _ _ _ hb;have hF0:kM 3 l 0:=⟨0,by omega,b1,b2⟩;have eb:=j7 l hl;rw[hb]at eb
 have key:=upto l.length (fun i (F:Nat→Bool)=>∀k:Nat,k<8→(F k=true↔Wr l (fun _=>True) i (k:Int))) (fun i F=>lp di.tree (.c3 l (L8 F) (i:Int))) (fun r=>r.length≤8∧∀x,x∈r↔Wr l (fun _=>True) l.length x) (fun i hi F hM=>by
  rw[aB]
  by_cases q:i<l.length
  ·by_cases hv:l[i].f0=1∨l[i].f0=2
   ·have hx:=(hF0.at i (by omega)).var q hv;have n1:(0:Int)≤l[i].f1∧l[i].f1<((L8 F).length:Int):=by rw[mc];omega
    refine Or.inr ⟨q,ng F l[i].f1,?_,fun k hk=> ?_⟩
    ·simp only[di.tree,Tr.ag,Tr.al,Tr.ah,Tr.ai,bh q,bW q,aU q,and_self,↓reduceIte,bx.told,eb,cO.told,jw,af,hv,decide_true,n1,vC F l[i].f1 hx,aN (show i<4611686018427387904 by omega)]
    ·rw[yt,hM k hk,kZ q];exact⟨fun h=>h.imp id fun h=>⟨trivial,hv,h⟩,fun h=>h.imp id fun h=>h.2.2⟩
   ·refine Or.inr ⟨q,F,?_,fun k hk=> ?_⟩
    ·simp only[di.tree,Tr.ag,Tr.al,Tr.ah,Tr.ai,bh q,bW q,aU q,and_self,↓reduceIte,bx.told,eb,cO.told,jw,af,hv,decide_false,decide_true,Bool.false_eq_true,aN (show i<4611686018427387904 by omega)]
    ·rw[hM k hk,kZ q];exact⟨Or.inl,fun h=>h.elim id fun h=>absurd h.2.1 hv⟩
  ·obtain rfl:i=l.length:=by omega
   obtain⟨r,er,hr,hm⟩:=lr F;refine Or.inl ⟨r,?_,hr,fun x=>by rw[hm];exact Cc hF0 hM x⟩;simp only[di.tree,Tr.ag,Tr.ah,Tr.aj,dv,Bool.false_eq_true,↓reduceIte,bV.told,er,af]) 0 (by omega) (fun _=>false) (fun k _=>⟨fun h=>(by cases h),fun h=>absurd h tY⟩)
 obtain⟨r,e,h⟩:=key;refine⟨r,?_,h⟩;have n0:(0:Int)≤8∧(8:Int)≤8∧(8:Int)*(1:Nat)≤room:=⟨by omega,by omega,by unfold room;omega⟩;simp only[di.f,di.begin,Tr.al,Tr.ai,n0,and_self,↓reduceIte,xD];exact e
theorem qt (l:List aw) (hl:l.length≤1048576) (hb:okB l.length l 0=true):∃r,cz.f l=some r∧r.length≤8∧∀x,x∈r↔Wr l (fun j=>¬zW l j) l.length x:=by
 obtain⟨b1,b2,b3⟩:=jX _ _ _ hb;have hF0:kM 3 l 0:=⟨0,by omega,b1,b2⟩;have eb:=j7 l hl;rw[hb]at eb
 have key:∀(n i:Nat) (F:Nat→Bool),i+n=l.length→(∀k:Nat,k<8→(F k=true↔Wr l (fun j=>¬zW l j) i (k:Int)))→(∀i' e,i'<i→zL l i' e→e<i)→∃r,lp cz.tree (.c3 l (L8 F) (i:Int))=some r∧r.length≤8∧∀x,x∈r↔Wr l (fun j=>¬zW l j) l.length x:=by
  intro n
  induction n using Nat.strongRecOn with
  | _ n ih=>
    intro i F hi hM hA;rw[aB]
    by_cases q:i<l.length
    ·have hF:=hF0.at i (by omega)
     by_cases h4:l[i].f0=4
     ·obtain⟨a,s,r,e1,e6,_,hbal,p1,p2,p3,_,_,_⟩:=hF.AF q (by omega) (Or.inl h4);have hE:Ends l i (i+1+a.length):=⟨l[i],a,s,r,e1,Or.inl h4,e6,p1,p2,rfl⟩;have hI:zL l i (i+1+a.length):=⟨⟨l[i],List.getElem?_eq_getElem q,h4⟩,hE⟩
      obtain⟨rr,er,hr⟩:=ih (l.length-(i+1+a.length+1)) (by omega) (i+1+a.length+1) F (by omega) (fun k hk=>by
       rw[hM k hk];refine⟨fun⟨j,y,h1,h2⟩=>⟨j,y,by omega,h2⟩,fun⟨j,y,h1,h2,h3,h5⟩=>⟨j,y,?_,h2,h3,h5⟩⟩
       by_cases qj:j<i
       ·exact qj
       ·exact(h3 ⟨i,_,hI,by omega,by omega⟩).elim) (fun i' e' h1 h2=>by
       by_cases qi:i'<i
       ·have:=hA i' e' qi h2;omega
       ·by_cases qe:i'=i
        ·subst qe;have:=h2.2.inj hl hE;omega
        ·have:=nested hl e1 e6 hbal (by omega) (show i<i' by omega) (by omega) h2;omega)
      refine⟨rr,?_,hr⟩;simp only[cz.tree,Tr.ag,Tr.al,Tr.ah,Tr.ai,bh q,bW q,aU q,and_self,↓reduceIte,bx.told,eb,af,decide_eq_true h4,cn.told,hE.yh hl,aN (show i+1+a.length<4611686018427387904 by omega)];exact er
     ·have hnot:¬zW l i:=fun⟨i',e,h1,h2,h3⟩=>by
       by_cases qi:i'<i
       ·have:=hA i' e qi h1;omega
       ·obtain rfl:i'=i:=by omega
        obtain⟨⟨y,hy,hy4⟩,_⟩:=h1;rw[List.getElem?_eq_getElem q]at hy;cases hy;exact h4 hy4
      have hA':∀i' e,i'<i+1→zL l i' e→e<i+1:=fun i' e h1 h2=>by
       by_cases qi:i'<i
       ·have:=hA i' e qi h2;omega
       ·obtain rfl:i'=i:=by omega
        obtain⟨⟨y,hy,hy4⟩,_⟩:=h2;rw[List.getElem?_eq_getElem q]at hy;cases hy;exact absurd hy4 h4
      by_cases hv:l[i].f0=1∨l[i].f0=2
      ·have hx:=hF.var q hv;have n1:(0:Int)≤l[i].f1∧l[i].f1<((L8 F).length:Int):=by rw[mc];omega
       obtain⟨rr,er,hr⟩:=ih (l.length-(i+1)) (by omega) (i+1) (ng F l[i].f1) (by omega) (fun k hk=>by
        rw[yt,hM k hk,kZ q];exact⟨fun h=>h.imp id fun h=>⟨hnot,hv,h⟩,fun h=>h.imp id fun h=>h.2.2⟩) hA'
       refine⟨rr,?_,hr⟩;simp only[cz.tree,Tr.ag,Tr.al,Tr.ah,Tr.ai,bh q,bW q,aU q,and_self,↓reduceIte,bx.told,eb,af,decide_eq_false h4,Bool.false_eq_true,cO.told,jw,hv,decide_true,n1,vC F l[i].f1 hx,aN (show i<4611686018427387904 by omega)];exact er
      ·obtain⟨rr,er,hr⟩:=ih (l.length-(i+1)) (by omega) (i+1) F (by omega) (fun k hk=>by
        rw[hM k hk,kZ q];exact⟨Or.inl,fun h=>h.elim id fun h=>absurd h.2.1 hv⟩) hA'
       refine⟨rr,?_,hr⟩;simp only[cz.tree,Tr.ag,Tr.al,Tr.ah,Tr.ai,bh q,bW q,aU q,and_self,↓reduceIte,bx.told,eb,af,decide_eq_false h4,Bool.false_eq_true,cO.told,jw,hv,decide_false,aN (show i<4611686018427387904 by omega)];exact er
    ·obtain rfl:i=l.length:=by omega
     obtain⟨r,er,hr,hm⟩:=lr F;refine⟨r,?_,hr,fun x=>by rw[hm];exact Cc hF0 hM x⟩;simp only[cz.tree,Tr.ag,Tr.ah,Tr.aj,dv,Bool.false_eq_true,↓reduceIte,bV.told,er,af]
 obtain⟨r,e,h⟩:=key l.length 0 (fun _=>false) (by omega) (fun k _=>⟨fun h=>(by cases h),fun h=>absurd h tY⟩) (fun i' e h=>absurd h (by omega));refine⟨r,?_,h⟩;have n0:(0:Int)≤8∧(8:Int)≤8∧(8:Int)*(1:Nat)≤room:=⟨by omega,by omega,by unfold room;omega⟩;simp only[cz.f,cz.begin,Tr.al,Tr.ai,n0,and_self,↓reduceIte,xD];exact e
theorem r7 (o a b:Int):∃r,dh.f o a b=some r∧r.length≤8∧(∀x∈r,0≤x∧x≤7)∧∀k:Nat,(k:Int)∈r↔mP o a b k=true:=by
 simp only[dh.f,dh.begin,Tr.ai];cases hx:po o a b with
 | false=>
   refine⟨[],?_,by simp,by simp,fun k=>by unfold mP;rw[hx];simp⟩;rw[aB];simp only[dh.tree,Tr.ag,Tr.ah,Tr.aj,cq.told,gR,hx,af,Bool.false_eq_true,show decide ((0:Int)<8)=true from rfl,↓reduceIte]
 | true=>
   obtain⟨_,ha,hb⟩:=vg hx
   exact upto 8 (fun i (s:List Int)=>s.length≤i∧(∀x∈s,0≤x∧x≤7)∧∀k:Nat,(k:Int)∈s↔k<i∧mP o a b k=true) (fun i s=>lp dh.tree (.c3 o a b s (i:Int))) (fun r=>r.length≤8∧(∀x∈r,0≤x∧x≤7)∧∀k:Nat,(k:Int)∈r↔mP o a b k=true) (fun i hi s hs=>by
    obtain⟨hl,hv,hm⟩:=hs
    have hr:mP o a b i=true↔a= -1-(i:Int)∨b= -1-(i:Int):=by
     unfold mP;rw[hx,Bool.true_and,Bool.or_eq_true,decide_eq_true_eq,decide_eq_true_eq]
    have w:wr (-1-(i:Int))= -1-(i:Int):=cd (by omega);rw[aB]
    by_cases q:i<8
    ·have q1:decide ((i:Int)<8)=true:=decide_eq_true (by omega)
     have step:∀k:Nat,k<i+1∧mP o a b k=true↔(k<i∧mP o a b k=true)∨(k=i∧mP o a b i=true):=fun k=>
      ⟨fun⟨h1,h2⟩=>by
       by_cases qk:k<i
       ·exact Or.inl ⟨qk,h2⟩
       ·obtain rfl:k=i:=by omega
        exact Or.inr ⟨rfl,h2⟩,fun h=>h.elim (fun h=>⟨by omega,h.2⟩) fun h=>⟨by omega,by rw[h.1];exact h.2⟩⟩
     have yes:mP o a b i=true→(s++[(i:Int)]).length≤i+1∧(∀x∈s++[(i:Int)],0≤x∧x≤7)∧∀k:Nat,(k:Int)∈s++[(i:Int)]↔k<i+1∧mP o a b k=true:=fun h=>
      ⟨by rw[List.length_append,List.length_singleton];omega,fun x hx=>by
       rcases List.mem_append.mp hx with hx | hx
       ·exact hv x hx
       ·rw[List.mem_singleton]at hx;omega,fun k=>by
       rw[iS,hm,step];exact⟨fun h'=>h'.imp id fun h'=>⟨by omega,h⟩,fun h'=>h'.imp id fun h'=>by omega⟩⟩
     have fit:=dR s (i:Int) 1048576 (by omega) (by omega) 8 (by omega)
     by_cases h1:a= -1-(i:Int)
     ·refine Or.inr ⟨q,s++[(i:Int)],?_,yes (hr.mpr (Or.inl h1))⟩;simp only[dh.tree,Tr.ag,Tr.al,Tr.ah,Tr.ai,q1,cq.told,gR,hx,af,w,decide_eq_true h1,fit,↓reduceIte,aN (show i<4611686018427387904 by omega)]
     ·by_cases h2:b= -1-(i:Int)
      ·refine Or.inr ⟨q,s++[(i:Int)],?_,yes (hr.mpr (Or.inr h2))⟩;simp only[dh.tree,Tr.ag,Tr.al,Tr.ah,Tr.ai,q1,cq.told,gR,hx,af,w,decide_eq_false h1,decide_eq_true h2,Bool.false_eq_true,fit,↓reduceIte,aN (show i<4611686018427387904 by omega)]
      ·refine Or.inr ⟨q,s,?_,by omega,hv,fun k=> ?_⟩
       ·simp only[dh.tree,Tr.ag,Tr.al,Tr.ah,Tr.ai,q1,cq.told,gR,hx,af,w,decide_eq_false h1,decide_eq_false h2,Bool.false_eq_true,↓reduceIte,aN (show i<4611686018427387904 by omega)]
       ·rw[hm,step];exact⟨Or.inl,fun h=>h.elim id fun h=>absurd (hr.mp h.2) (by omega)⟩
    ·obtain rfl:i=8:=by omega
     refine Or.inl ⟨s,?_,by omega,hv,fun k=> ?_⟩
     ·simp only[dh.tree,Tr.ag,Tr.aj,show decide (((8:Nat):Int)<8)=false from rfl,Bool.false_eq_true,↓reduceIte]
     ·rw[hm];refine⟨fun h=>h.2,fun h=>⟨?_,h⟩⟩;unfold mP at h;rw[hx,Bool.true_and,Bool.or_eq_true,decide_eq_true_eq,decide_eq_true_eq]at h;omega) 0 (by omega) [] ⟨by simp,by simp,fun k=>⟨fun h=>by simp at h,fun h=>absurd h.1 (by omega)⟩⟩
theorem jV (o a b:Int) (W F:Nat→Bool):cl.f o a b (L8 F) (L8 W)=some (L8 (note W F (mP o a b)),L8 W):=by
 obtain⟨l,e,hl,hv,hm⟩:=r7 o a b;simp only[cl.f,cl.begin,Tr.ah,Tr.ai,dh.told,e,af];obtain⟨G,hG⟩:∃G:Nat→Nat→Bool,∀i k,G i k=note W F (fun k=>decide ((k:Int)∈l.take i)) k:=⟨_,fun _ _=>rfl⟩
 have key:∀(n i:Nat),i+n=l.length→lp cl.tree (.c3 l (i:Int) (L8 (G i)) (L8 W))=some (L8 (G l.length),L8 W):=by
  intro n
  induction n with
  | zero=>
    intro i hi;obtain rfl:i=l.length:=by omega
    rw[aB];simp only[cl.tree,Tr.ag,Tr.aj,dv,Bool.false_eq_true,↓reduceIte]
  | succ n ih=>
    intro i hi;have q:i<l.length:=by omega
    rw[←ih (i+1) (by omega),aB];have hk:=hv l[i] (List.getElem_mem q)
    have hs:∀k:Nat,G (i+1) k=(G i k || (decide (l[i]=(k:Int))&& !W k)):=fun k=>by
     rw[hG,hG];unfold note;dsimp only
     have:decide ((k:Int)∈l.take (i+1))=(decide ((k:Int)∈l.take i) || decide (l[i]=(k:Int))):=by
      rw[Bool.eq_iff_iff,Bool.or_eq_true,decide_eq_true_eq,decide_eq_true_eq,decide_eq_true_eq,List.take_add_one,List.getElem?_eq_getElem q];exact iS _ _ _
     rw[this,Bool.and_or_distrib_right,Bool.or_assoc]
    have n1:(0:Int)≤l[i]∧l[i]<((L8 W).length:Int):=by rw[mc];omega
    have n2:(0:Int)≤l[i]∧l[i]<((L8 (G i)).length:Int):=by rw[mc];omega
    cases hW:W l[i].toNat with
    | true=>
      have hgg:L8 (G (i+1))=L8 (G i):=rJ fun k hk8=>by
       rw[hs k]
       by_cases e:l[i]=(k:Int)
       ·have:W k=true:=by rw[←hW];congr 1;omega
        rw[this];simp
       ·rw[decide_eq_false e];simp
      rw[hgg];simp only[cl.tree,Tr.ag,Tr.al,Tr.ai,bh q,bW q,aU q,n1,and_self,decide_true,↓reduceIte,BV W l[i] hk,hW,Bool.not_true,Bool.false_eq_true,aN (show i<4611686018427387904 by omega)]
    | false=>
      have hgg:L8 (G (i+1))=L8 (ng (G i) l[i]):=rJ fun k hk8=>by
       rw[hs k];unfold ng
       by_cases e:l[i]=(k:Int)
       ·have:W k=false:=by rw[←hW];congr 1;omega
        rw[this,decide_eq_true e];rfl
       ·rw[decide_eq_false e];simp
      rw[hgg];simp only[cl.tree,Tr.ag,Tr.al,Tr.ai,bh q,bW q,aU q,n1,n2,and_self,decide_true,↓reduceIte,BV W l[i] hk,hW,Bool.not_false,vC (G i) l[i] hk,aN (show i<4611686018427387904 by omega)]
 have e0:L8 F=L8 (G 0):=rJ fun k _=>by rw[hG];unfold note;rw[List.take_zero];simp
 have e1:L8 (note W F (mP o a b))=L8 (G l.length):=rJ fun k _=>by
  rw[hG];unfold note;dsimp only;have:decide ((k:Int)∈l.take l.length)=mP o a b k:=by rw[List.take_length,Bool.eq_iff_iff,decide_eq_true_eq,hm]
  rw[this]
 rw[e0,e1];exact key l.length 0 (by omega)
theorem jx.append {n:Nat} {l:List aw} {W F W1 F1:Nat→Bool} (h:jx n l W F W1 F1):∀{r:List aw} {W2 F2:Nat→Bool},jx n r W1 F1 W2 F2→jx n (l++r) W F W2 F2:=by
 induction h with
 | nil n W F=>intro r W2 F2 h;exact h
 | plain h4 hok h ih=>intro r W2 F2 h';exact .plain h4 hok (ih h')
 | ifs h4 hok h6 p1 p2 ha hr iha ihr=>
   intro r W2 F2 h';have:=jx.ifs h4 hok h6 p1 p2 ha (ihr h');rw[List.cons_append,List.append_assoc,List.cons_append];exact this
theorem jx.more {n:Nat} {l:List aw} {W F W1 F1:Nat→Bool} (h:jx n l W F W1 F1):jx (n+1) l W F W1 F1:=by
 induction h with
 | nil n W F=>exact .nil _ _ _
 | plain h4 hok h ih=>exact .plain h4 hok ih
 | ifs h4 hok h6 p1 p2 ha hr iha ihr=>exact .ifs h4 hok h6 p1 p2 iha ihr
def C5 (self_:Self br.I br.A br.K) (n:Nat):Prop:=
 ∀(l:List aw) (i b:Nat) (W F:Nat→Bool) (m:List aw),l.length≤1048576→l.drop i=m++l.drop b→i+m.length=b→b≤l.length→inr 0 (n:Int) m 0=true→fin m 0=0→∃W1 F1,self_.f (l,(i:Int),(b:Int),L8 W,L8 F)=some (L8 W1,L8 F1)∧jx n m W F W1 F1
set_option maxHeartbeats 4000000 in
theorem nm (self_:Self br.I br.A br.K) (n:Nat) (hn30:n≤30) (hs:∀n',n=n'+1→C5 self_ n'):C5 (br.step self_) n:=by
 intro l i b W F m hl hd hib hbl hp hf
 have key:∀(N:Nat) (m:List aw) (d:Int) (i:Nat) (W F:Nat→Bool),m.length=N→0≤d→l.drop i=m++l.drop b→i+m.length=b→inr 0 (n:Int) m d=true→fin m d=0→∃W1 F1,lp (br.tree self_) (.c1 l (b:Int) (i:Int) (L8 W) (L8 F))=some (L8 W1,L8 F1)∧jx n m W F W1 F1:=by
  intro N
  induction N using Nat.strongRecOn with
  | _ N ih=>
    intro m d i W F hN hd0 hd hib hp hf;cases m with
    | nil=>
      obtain rfl:i=b:=by simpa using hib
      refine⟨W,F,?_,.nil _ _ _⟩;rw[aB];simp only[br.tree,Tr.ag,Tr.aj,dv,Bool.false_eq_true,↓reduceIte]
    | cons x m=>
      obtain⟨q,e,e2⟩:=drop_at (a:=[]) (show l.drop i=[]++x::(m++l.drop b)from hd);have q':i<l.length:=q;have e':l[i]=x:=e;have e2':l.drop (i+1)=m++l.drop b:=e2;rw[List.length_cons]at hib;have hr:ak l (i:Int)=x:=(aU q').trans e';have qb:decide ((i:Int)<(b:Int))=true:=decide_eq_true (by omega);have w:wr ((i:Int)+1)=((i+1:Nat):Int):=aN (by omega)
      have hok:xc x=true∧inr 0 (n:Int) m (dep x.f0 d)=true∧0≤dep x.f0 d:=by
       unfold inr at hp;rw[Bool.and_eq_true,Bool.and_eq_true,bd]at hp;exact⟨hp.1,hp.2.2,hp.2.1.1⟩
      have hfm:fin m (dep x.f0 d)=0:=hf
      by_cases hop:x.f0=4∨x.f0=5
      ·obtain⟨a,s,r,em,e6,k1,hbal,p1,p2,p3,p4⟩:=qy hd0 hop hp hf;obtain⟨n',rfl⟩:∃n',n=n'+1:=⟨n-1,by omega⟩;subst em;have hdd:l.drop i=x::(a++s::(r++l.drop b)):=by rw[hd];simp
       have hE:Ends l i (i+1+a.length):=⟨x,a,s,_,hdd,hop,e6,mH (by omega) (by omega) a 1 p1,p2,rfl⟩;obtain⟨g1,g2,g3⟩:=drop_at (show l.drop (i+1)=a++s::(r++l.drop b) by rw[e2'];simp);have hlen:(a++s::r).length=a.length+1+r.length:=by simp;omega
       have hbal1:inr 0 (n':Int) a 0=true:=by rw[show(n':Int)=((n'+1:Nat):Int)-1 by omega];exact hbal.1
       have hee:=hE.yh hl;have hwe:wr (((i+1+a.length:Nat):Int)+1)=((i+1+a.length+1:Nat):Int):=aN (by omega)
       have hda:l.drop (i+1)=a++l.drop (i+1+a.length):=by
        rw[show l.drop (i+1+a.length)=s::(r++l.drop b) by rw[←List.drop_drop,e2'];simp,e2'];simp
       by_cases h4:x.f0=4
       ·have n1:¬x.f0=1:=by omega
        have n2:¬x.f0=2:=by omega
        have n3:¬x.f0=3:=by omega
        have sW:ia x W=W:=by unfold ia;rw[if_neg (by omega)]
        have sF:ir x W F=note W F (mP x.f3.f0 x.f3.f1 x.f3.f2):=by unfold ir;rw[if_pos (by omega)]
        have fit:((List.length ([]:List Bool):Int)+((L8 W).length:Int))*(1:Nat)≤room:=by rw[mc];unfold room;simp
        obtain⟨W1,F1,es,hR1⟩:=hs n' rfl l (i+1) (i+1+a.length) W (note W F (mP x.f3.f0 x.f3.f1 x.f3.f2)) a hl hda rfl (by omega) hbal1 hbal.2;obtain⟨W2,F2,er,hR2⟩:=ih r.length (by rw[←hN,List.length_cons,hlen];omega) r d (i+1+a.length+1) W F1 rfl hd0 g3 (by omega) p3 p4;refine⟨W2,F2,?_,.ifs h4 hok.1 e6 (mH (by omega) (by omega) a 1 p1) p2 (by rw[sW,sF];exact hR1) (by rw[sW];exact hR2)⟩;rw[aB];simp only[br.tree,Tr.ag,Tr.al,Tr.ah,Tr.ai,qb,bW q',hr,and_self,↓reduceIte,decide_eq_false n1,decide_eq_false n2,decide_eq_false n3,decide_eq_true h4,Bool.false_eq_true,cl.told,jV x.f3.f0 x.f3.f1 x.f3.f2 W F,af,cn.told,hee,fit,List.nil_append,w,Self.told,es,hwe];exact er
       ·have h5:x.f0=5:=by omega
        have n1:¬x.f0=1:=by omega
        have n2:¬x.f0=2:=by omega
        have n3:¬x.f0=3:=by omega
        have sW:ia x W=W:=by unfold ia;rw[if_neg (by omega)]
        have sF:ir x W F=F:=by unfold ir;rw[if_neg (by omega)]
        obtain⟨W1,F1,es,hR1⟩:=hs n' rfl l (i+1) (i+1+a.length) W F a hl hda rfl (by omega) hbal1 hbal.2;obtain⟨W2,F2,er,hR2⟩:=ih r.length (by rw[←hN,List.length_cons,hlen];omega) r d (i+1+a.length+1) W1 F1 rfl hd0 g3 (by omega) p3 p4
        have oks:xc s=true:=by
         have h1:=hok.2.1
         have:∀(a:List aw) (d:Int),inr 0 ((n'+1:Nat):Int) (a++s::r) d=true→xc s=true:=by
          intro a
          induction a with
          | nil=>intro d h;exact(Bool.and_eq_true _ _▸h:xc s=true∧_).1
          | cons y a iha=>intro d h;unfold inr at h;rw[List.cons_append]at h;simp only[inr,Bool.and_eq_true]at h;exact iha _ h.2.2
         exact this a _ h1
        have sWs:∀W:Nat→Bool,ia s W=W:=fun W=>by unfold ia;rw[if_neg (by omega)]
        have sFs:∀W F:Nat→Bool,ir s W F=F:=fun W F=>by unfold ir;rw[if_neg (by omega)]
        refine⟨W2,F2,?_,.plain h4 hok.1 (by rw[sW,sF];exact hR1.more.append (.plain (by omega) oks (by rw[sWs,sFs];exact hR2)))⟩;rw[aB];simp only[br.tree,Tr.ag,Tr.al,Tr.ah,Tr.ai,qb,bW q',hr,and_self,↓reduceIte,decide_eq_false n1,decide_eq_false n2,decide_eq_false n3,decide_eq_false h4,decide_eq_true h5,Bool.false_eq_true,af,cn.told,hee,w,Self.told,es,hwe];exact er
      ·have n4:¬x.f0=4:=by omega
       have n5:¬x.f0=5:=by omega
       by_cases n1:x.f0=1
       ·have hv:=qN hok.1 (Or.inl n1);have sW:ia x W=ng W x.f1:=by unfold ia;rw[if_pos (by omega)]
        have sF:ir x W F=note W F (mP x.f3.f0 x.f3.f1 x.f3.f2):=by unfold ir;rw[if_pos (by omega)]
        have nb:(0:Int)≤x.f1∧x.f1<((L8 W).length:Int):=by rw[mc];omega
        obtain⟨W2,F2,er,hR2⟩:=ih m.length (by rw[←hN,List.length_cons];omega) m _ (i+1) (ng W x.f1) (note W F (mP x.f3.f0 x.f3.f1 x.f3.f2)) rfl hok.2.2 e2' (by omega) hok.2.1 hfm;refine⟨W2,F2,?_,.plain n4 hok.1 (by rw[sW,sF];exact hR2)⟩;rw[aB];simp only[br.tree,Tr.ag,Tr.al,Tr.ah,Tr.ai,qb,bW q',hr,and_self,↓reduceIte,decide_eq_true n1,cl.told,jV x.f3.f0 x.f3.f1 x.f3.f2 W F,af,nb,vC W x.f1 hv,w];exact er
       ·by_cases n2:x.f0=2
        ·have hv:=qN hok.1 (Or.inr n2);have sW:ia x W=ng W x.f1:=by unfold ia;rw[if_pos (by omega)]
         have sF:ir x W F=F:=by unfold ir;rw[if_neg (by omega)]
         have nb:(0:Int)≤x.f1∧x.f1<((L8 W).length:Int):=by rw[mc];omega
         obtain⟨W2,F2,er,hR2⟩:=ih m.length (by rw[←hN,List.length_cons];omega) m _ (i+1) (ng W x.f1) F rfl hok.2.2 e2' (by omega) hok.2.1 hfm;refine⟨W2,F2,?_,.plain n4 hok.1 (by rw[sW,sF];exact hR2)⟩;rw[aB];simp only[br.tree,Tr.ag,Tr.al,Tr.ah,Tr.ai,qb,bW q',hr,and_self,↓reduceIte,decide_eq_false n1,decide_eq_true n2,Bool.false_eq_true,af,nb,vC W x.f1 hv,w];exact er
        ·by_cases n3:x.f0=3
         ·have sW:ia x W=W:=by unfold ia;rw[if_neg (by omega)]
          have sF:ir x W F=note W F (mP x.f3.f0 x.f3.f1 x.f3.f2):=by unfold ir;rw[if_pos (by omega)]
          obtain⟨W2,F2,er,hR2⟩:=ih m.length (by rw[←hN,List.length_cons];omega) m _ (i+1) W (note W F (mP x.f3.f0 x.f3.f1 x.f3.f2)) rfl hok.2.2 e2' (by omega) hok.2.1 hfm;refine⟨W2,F2,?_,.plain n4 hok.1 (by rw[sW,sF];exact hR2)⟩;rw[aB];simp only[br.tree,Tr.ag,Tr.al,Tr.ah,Tr.ai,qb,bW q',hr,and_self,↓reduceIte,decide_eq_false n1,decide_eq_false n2,decide_eq_true n3,Bool.false_eq_true,cl.told,jV x.f3.f0 x.f3.f1 x.f3.f2 W F,af,w];exact er
         ·have sW:ia x W=W:=by unfold ia;rw[if_neg (by omega)]
          have sF:ir x W F=F:=by unfold ir;rw[if_neg (by omega)]
          obtain⟨W2,F2,er,hR2⟩:=ih m.length (by rw[←hN,List.length_cons];omega) m _ (i+1) W F rfl hok.2.2 e2' (by omega) hok.2.1 hfm;refine⟨W2,F2,?_,.plain n4 hok.1 (by rw[sW,sF];exact hR2)⟩;rw[aB];simp only[br.tree,Tr.ag,Tr.al,Tr.ah,Tr.ai,qb,bW q',hr,and_self,↓reduceIte,decide_eq_false n1,decide_eq_false n2,decide_eq_false n3,decide_eq_false n4,decide_eq_false n5,Bool.false_eq_true,af,w];exact er
 exact key m.length m 0 i W F rfl (Int.le_refl _) hd hib hp hf
theorem uv (l:List aw) (W F:Nat→Bool) (hl:l.length≤1048576) (hb:okB l.length l 0=true):∃W1 F1,br.f l 0 (l.length:Int) (L8 W) (L8 F)=some (L8 W1,L8 F1)∧jx 3 l W F W1 F1:=by
 have h0:=nm (Self.iter br.step 4) 0 (by omega) (fun n' h=>absurd h (by omega));have h1:=nm (Self.iter br.step 5) 1 (by omega) (fun n' h=>by cases h;exact h0);have h2:=nm (Self.iter br.step 6) 2 (by omega) (fun n' h=>by cases h;exact h1);have h3:=nm (Self.iter br.step 7) 3 (by omega) (fun n' h=>by cases h;exact h2);obtain⟨c1,c2,_⟩:=jX _ _ _ hb;exact h3 l 0 l.length W F l hl (by simp) (by omega) (Nat.le_refl _) c1 c2
theorem yb (l:List aw) (a b c:Int) (hl:l.length≤1048576) (hb:okB l.length l 0=true) (hx:po a b c=true):∃mi ms,dS.f l a b c=some mi∧dq.f l a b c=some ms∧mi.length≤1048576∧ms.length≤1048576∧∀x,x∈mi↔x∈ms:=by
 obtain⟨b1,b2,b3⟩:=jX _ _ _ hb;obtain⟨W1,F1,ep,hR⟩:=uv l (fun _=>false) (fun _=>false) hl hb;obtain⟨mi,ei,hil,him⟩:=su l a b c hl hb hx hR;have en:=jV a b c W1 F1;generalize note W1 F1 (mP a b c)=Y at him en;obtain⟨r1,e1,h1,m1⟩:=lr Y;obtain⟨r2,e2,h2,m2⟩:=qt l hl hb;obtain⟨r3,e3,h3,m3⟩:=rn l hl hb;have eb:=j7 l hl;rw[hb]at eb;have n0:(0:Int)≤8∧(8:Int)≤8∧(8:Int)*(1:Nat)≤room:=⟨by omega,by omega,by unfold room;omega⟩
 have e4:cR.f l a b c=some r1:=by
  simp only[cR.f,cR.begin,Tr.al,Tr.ah,Tr.ag,Tr.aj,n0,and_self,↓reduceIte,bx.told,eb,cq.told,gR,hx,af,xD,br.told,ep,cl.told,en,bV.told,e1]
 obtain⟨ms,es,hsl,hsm⟩:=upto r3.length (fun i (s:List Int)=>s.length≤i∧∀x,x∈s↔x∈r3.take i∧(x∈r1∨¬x∈r2)) (fun i s=>lp dq.tree (.c8 s r3 r2 r1 (i:Int))) (fun r=>r.length≤8∧∀x,x∈r↔x∈r3∧(x∈r1∨¬x∈r2)) (fun i hi s hs=>by
  obtain⟨hs,hm⟩:=hs;rw[aB]
  by_cases q:i<r3.length
  ·have v1:=kC r1 r3[i] (by omega);have v2:=kC r2 r3[i] (by omega);have fit:=dR s r3[i] 1048576 (by omega) (by omega) 8 (by omega);have tk:∀x,x∈r3.take (i+1)↔x∈r3.take i∨r3[i]=x:=fun x=>by rw[im q,iS]
   by_cases h1:r3[i]∈r1
   ·refine Or.inr ⟨q,s++[r3[i]],?_,by rw[List.length_append,List.length_singleton];omega,fun x=> ?_⟩
    ·simp only[dq.tree,Tr.ag,Tr.al,Tr.ah,Tr.ai,bh q,bW q,aU q,and_self,decide_true,↓reduceIte,cK.told,v1,af,decide_eq_true h1,fit,aN (show i<4611686018427387904 by omega)]
    ·rw[iS,hm,tk];exact⟨fun h=>h.elim (fun h=>⟨Or.inl h.1,h.2⟩) fun h=>⟨Or.inr h,Or.inl (by rw[←h];exact h1)⟩,fun⟨h,h'⟩=>h.elim (fun h=>Or.inl ⟨h,h'⟩) Or.inr⟩
   ·by_cases h2:r3[i]∈r2
    ·refine Or.inr ⟨q,s,?_,by omega,fun x=> ?_⟩
     ·simp only[dq.tree,Tr.ag,Tr.al,Tr.ah,Tr.ai,bh q,bW q,aU q,and_self,decide_true,↓reduceIte,cK.told,v1,v2,af,decide_eq_false h1,decide_eq_true h2,Bool.not_true,Bool.false_eq_true,aN (show i<4611686018427387904 by omega)]
     ·rw[hm,tk];refine⟨fun h=>⟨Or.inl h.1,h.2⟩,fun⟨h,h'⟩=>h.elim (fun h=>⟨h,h'⟩) fun h=> ?_⟩;rw[←h]at h';exact absurd h2 (h'.elim (fun h=>absurd h h1) id)
    ·refine Or.inr ⟨q,s++[r3[i]],?_,by rw[List.length_append,List.length_singleton];omega,fun x=> ?_⟩
     ·simp only[dq.tree,Tr.ag,Tr.al,Tr.ah,Tr.ai,bh q,bW q,aU q,and_self,decide_true,↓reduceIte,cK.told,v1,v2,af,decide_eq_false h1,decide_eq_false h2,Bool.not_false,Bool.false_eq_true,fit,aN (show i<4611686018427387904 by omega)]
     ·rw[iS,hm,tk];exact⟨fun h=>h.elim (fun h=>⟨Or.inl h.1,h.2⟩) fun h=>⟨Or.inr h,Or.inr (by rw[←h];exact h2)⟩,fun⟨h,h'⟩=>h.elim (fun h=>Or.inl ⟨h,h'⟩) Or.inr⟩
  ·obtain rfl:i=r3.length:=by omega
   rw[List.take_length]at hm;refine Or.inl ⟨s,?_,by omega,hm⟩;simp only[dq.tree,Tr.ag,Tr.aj,dv,Bool.false_eq_true,↓reduceIte]) 0 (by omega) [] ⟨by simp,by simp⟩
 refine⟨mi,ms,ei,?_,by omega,by omega,fun x=> ?_⟩
 ·simp only[dq.f,dq.begin,Tr.ah,Tr.ag,Tr.ai,gB.told,gB.f,gB.begin,Tr.aj,bx.told,eb,cq.told,gR,hx,af,Bool.not_true,Bool.false_eq_true,↓reduceIte,di.told,e3,cz.told,e2,cR.told,e4];exact es
 ·rw[him,hsm,m3,m1,m2];rfl
theorem ll (c:Int) (vs se u li rd:List Int) (at_:Int) (lv:Bool) (o:List aO) (ms lg:List Int) (t tl:Int) (ho:o.length≤1000000):ez.f c vs se u li rd at_ lv o ms lg t tl=some (vs,se,u,li,rd,at_,lv,o++[(⟨c,-1,0⟩:aO)],ms,lg,t,tl):=by
 simp only[ez.f,ez.begin,Tr.al,Tr.aj,dR o _ 1048576 (by omega) (by omega) 24 (by omega),↓reduceIte]
theorem il (a v:Int) (vs se u li rd:List Int) (at_:Int) (lv:Bool) (o:List aO) (ms lg:List Int) (t tl:Int) (ho:o.length≤1000000):bX.f a v vs se u li rd at_ lv o ms lg t tl=some (vs,se,u,li,rd,at_,lv,o++[(⟨3,a,v⟩:aO)],ms,lg,t,tl):=by
 simp only[bX.f,bX.begin,Tr.al,Tr.aj,dR o _ 1048576 (by omega) (by omega) 24 (by omega),↓reduceIte]
def Sy (mi ms lg:List Int) (f:List Bool):Prop:=(∀x,x∈mi↔x∈ms)∧∀k:Nat,k<8→(k:Int)∈mi→(f[k]? =some true↔(k:Int)∈lg)
set_option maxHeartbeats 4000000 in
theorem vz (mi:List Int) (k v:Int) (o:List aO) (u:List Int) (t tl sn:Int) (lg:List Int) (f0 f1 f2 f3 f4 f5 f6 f7:Bool) (vs:List Int) (hk:0≤k∧k≤7) (hm:mi.length≤1048576):
 aM.f mi k v o u t tl sn lg f0 f1 f2 f3 f4 f5 f6 f7 vs=if k∈mi∧([f0,f1,f2,f3,f4,f5,f6,f7]:List Bool)[k.toNat]? =some false then lp aM.tree (.c1 k v o u t tl sn lg f0 f1 f2 f3 f4 f5 f6 f7 vs)else lp aM.tree (.c6 k v o u t tl sn lg f0 f1 f2 f3 f4 f5 f6 f7 vs):=by
 have eh:=mo mi k hm
 by_cases h:k∈mi
 ·rw[decide_eq_true h]at eh;simp only[aM.f,aM.begin,Tr.ah,Tr.ag,Tr.ai,eK.told,eh,af,↓reduceIte];rcases(show k=0∨k=1∨k=2∨k=3∨k=4∨k=5∨k=6∨k=7 by omega)with rfl | rfl | rfl | rfl | rfl | rfl | rfl | rfl
  ·simp only[decide_true,↓reduceIte,Int.reduceEq,decide_false,Bool.false_eq_true];cases f0 with
   | false=>exact(if_pos ⟨h,rfl⟩).symm
   | true=>exact(if_neg (fun h'=>by cases h'.2)).symm
  ·simp only[decide_true,↓reduceIte,Int.reduceEq,decide_false,Bool.false_eq_true];cases f1 with
   | false=>exact(if_pos ⟨h,rfl⟩).symm
   | true=>exact(if_neg (fun h'=>by cases h'.2)).symm
  ·simp only[decide_true,↓reduceIte,Int.reduceEq,decide_false,Bool.false_eq_true];cases f2 with
   | false=>exact(if_pos ⟨h,rfl⟩).symm
   | true=>exact(if_neg (fun h'=>by cases h'.2)).symm
  ·simp only[decide_true,↓reduceIte,Int.reduceEq,decide_false,Bool.false_eq_true];cases f3 with
   | false=>exact(if_pos ⟨h,rfl⟩).symm
   | true=>exact(if_neg (fun h'=>by cases h'.2)).symm
  ·simp only[decide_true,↓reduceIte,Int.reduceEq,decide_false,Bool.false_eq_true];cases f4 with
   | false=>exact(if_pos ⟨h,rfl⟩).symm
   | true=>exact(if_neg (fun h'=>by cases h'.2)).symm
  ·simp only[decide_true,↓reduceIte,Int.reduceEq,decide_false,Bool.false_eq_true];cases f5 with
   | false=>exact(if_pos ⟨h,rfl⟩).symm
   | true=>exact(if_neg (fun h'=>by cases h'.2)).symm
  ·simp only[decide_true,↓reduceIte,Int.reduceEq,decide_false,Bool.false_eq_true];cases f6 with
   | false=>exact(if_pos ⟨h,rfl⟩).symm
   | true=>exact(if_neg (fun h'=>by cases h'.2)).symm
  ·simp only[decide_true,↓reduceIte,Int.reduceEq,decide_false,Bool.false_eq_true];cases f7 with
   | false=>exact(if_pos ⟨h,rfl⟩).symm
   | true=>exact(if_neg (fun h'=>by cases h'.2)).symm
 ·rw[decide_eq_false h]at eh;rw[if_neg (fun h'=>h h'.1)];simp only[aM.f,aM.begin,Tr.ah,Tr.ag,Tr.ai,eK.told,eh,af,Bool.false_eq_true,↓reduceIte]
theorem sN {n:Nat} {M:List Int} {B:Nat} (k v:Int) (o:List aO) (u:List Int) (t tl sn:Int) (lg:List Int) (f0 f1 f2 f3 f4 f5 f6 f7:Bool) (vs:List Int) (b:oH n t tl M) (hB:B≤900000) (h:TI n t tl M B o u sn lg (([f0,f1,f2,f3,f4,f5,f6,f7]:List Bool).set k.toNat true) vs) (hk:0≤k∧k≤7) (hv:isVal v=true):
 ∃g0 g1 g2 g3 g4 g5 g6 g7,[g0,g1,g2,g3,g4,g5,g6,g7]=([f0,f1,f2,f3,f4,f5,f6,f7]:List Bool).set k.toNat true∧lp aM.tree (.c6 k v o u t tl sn lg f0 f1 f2 f3 f4 f5 f6 f7 vs)=some (o++[(⟨3,k,v⟩:aO)],u,t,tl,sn,lg,g0,g1,g2,g3,g4,g5,g6,g7,vs.set k.toNat v)∧TI n t tl M (B+1) (o++[(⟨3,k,v⟩:aO)]) u sn lg [g0,g1,g2,g3,g4,g5,g6,g7] (vs.set k.toNat v):=by
 obtain⟨g0,g1,g2,g3,g4,g5,g6,g7,e,e'⟩:=BI k v o u t tl sn lg f0 f1 f2 f3 f4 f5 f6 f7 vs hk;rw[←e]at h;have hvl:=(nc.mp h.A1).2;have n1:(0:Int)≤k∧k<(vs.length:Int):=by omega
 have hw:=gl k v o u t tl sn lg g0 g1 g2 g3 g4 g5 g6 g7 (vs.set k.toNat v) (by have:=h.mG;omega);refine⟨g0,g1,g2,g3,g4,g5,g6,g7,e,?_,h.push b _ ⟨by show(0:Int)≤3∧(3:Int)≤5;omega,by show -1≤k∧k<49;omega⟩ ?_ (by have:=h.A6;omega) h.CX (Cy h.A1 hv)⟩
 ·rw[e',aB];simp only[aM.tree,Tr.al,Tr.ah,Tr.aj,n1,and_self,↓reduceIte,aX.told,hw,af]
 ·rw[nu _ _ _ _ hk.1];exact h.run.set (by omega) (by omega) (fun _=>hv) (Or.inl (by omega)) (Or.inl (by omega))
theorem oX (k v:Int) (vs se u li rd:List Int) (at_:Int) (lv:Bool) (o:List aO) (ms lg:List Int) (t tl:Int) (hk:0≤k∧k≤7) (hvl:vs.length=8) (ho:o.length≤1000000):
 lp bO.tree (.c6 k v vs se u li rd at_ lv o ms lg t tl)=some (vs.set k.toNat v,se,u,li,rd,at_,lv,o++[(⟨3,k,v⟩:aO)],ms,lg,t,tl):=by
 have n1:(0:Int)≤k∧k<(vs.length:Int):=by omega
 rw[aB];simp only[bO.tree,Tr.al,Tr.ah,Tr.aj,n1,and_self,↓reduceIte,bX.told,il k v (vs.set k.toNat v) se u li rd at_ lv o ms lg t tl ho,af]
theorem rq {f:List Bool} {j:Nat} (h:j<f.length):f[j]? =some true∨f[j]? =some false:=by
 rw[List.getElem?_eq_getElem h];cases f[j]with
 | true=>exact Or.inl rfl
 | false=>exact Or.inr rfl
set_option maxHeartbeats 4000000 in
theorem sO {n:Nat} {M:List Int} {B:Nat} (mi ms:List Int) (k v:Int) (o:List aO) (u:List Int) (t tl sn:Int) (lg:List Int) (f0 f1 f2 f3 f4 f5 f6 f7:Bool) (vs:List Int) (se rd:List Int) (at_:Int) (b:oH n t tl M) (hB:B≤800000) (h:TI n t tl M B o u sn lg [f0,f1,f2,f3,f4,f5,f6,f7] vs) (hk:0≤k∧k≤7) (hv:isVal v=true) (hm:mi.length≤1048576) (hms:ms.length≤1048576) (hS:Sy mi ms lg [f0,f1,f2,f3,f4,f5,f6,f7]):
 ∃o' lg' g0 g1 g2 g3 g4 g5 g6 g7,aM.f mi k v o u t tl sn lg f0 f1 f2 f3 f4 f5 f6 f7 vs=some (o',u,t,tl,sn,lg',g0,g1,g2,g3,g4,g5,g6,g7,vs.set k.toNat v)∧TI n t tl M (B+4) o' u sn lg' [g0,g1,g2,g3,g4,g5,g6,g7] (vs.set k.toNat v)∧
  bO.f k v vs se u [] rd at_ true o ms lg t tl=some (vs.set k.toNat v,se,u,[],rd,at_,true,o',ms,lg',t,tl)∧Sy mi ms lg' [g0,g1,g2,g3,g4,g5,g6,g7]:=by
 have hb8:k.toNat<([f0,f1,f2,f3,f4,f5,f6,f7]:List Bool).length:=by simp;omega
 have hk8:=hS.2 k.toNat (by omega);rw[show((k.toNat:Nat):Int)=k by omega]at hk8;have hvl:=(nc.mp h.A1).2;have ho:=h.mG;have hlgl:=h.CX;have hc8':=wZ ([f0,f1,f2,f3,f4,f5,f6,f7]:List Bool);simp only[List.length_cons,List.length_nil]at hc8';have eI:=vz mi k v o u t tl sn lg f0 f1 f2 f3 f4 f5 f6 f7 vs hk hm;have e1:=kC ms k hms;have e2:=kC lg k (by omega)
 by_cases hc:k∈mi∧([f0,f1,f2,f3,f4,f5,f6,f7]:List Bool)[k.toNat]? =some false
 ·rw[if_pos hc]at eI;have hf:([f0,f1,f2,f3,f4,f5,f6,f7]:List Bool).getD k.toNat true=false:=by rw[List.getD_eq_getElem?_getD,hc.2];rfl
  have hnl:¬k∈lg:=fun hl=>by
   have:=(hk8 hc.1).mpr hl;rw[hc.2]at this;cases this
  rw[decide_eq_true ((hS.1 k).mp hc.1)]at e1;rw[decide_eq_false hnl]at e2;obtain⟨hva,_⟩:=nc.mp h.A1;have n1:(0:Int)≤k∧k<(vs.length:Int):=by omega
  have hcn:=wg ([f0,f1,f2,f3,f4,f5,f6,f7]:List Bool) k.toNat hb8 hf;have hc8:=wZ (([f0,f1,f2,f3,f4,f5,f6,f7]:List Bool).set k.toNat true);rw[List.length_set]at hc8;have hlg7:lg.length≤7:=by simp only[List.length_cons,List.length_nil]at hc8;omega
  have w1:wr (2*(lg.length:Int))=2*(lg.length:Int):=cd (by omega);have w2:wr (9+2*(lg.length:Int))=9+2*(lg.length:Int):=cd (by omega);have w3:wr (9+2*(lg.length:Int)+1)=9+2*(lg.length:Int)+1:=cd (by omega);have w4':wr ((lg.length:Int)+1)=(lg.length:Int)+1:=cd (by omega);have w4:wr ((lg.length:Int)+1)=((lg++[k]).length:Int):=w4'.trans (by rw[List.length_append,List.length_singleton];rfl);have hw1:=gl (9+2*(lg.length:Int)) k o u t tl sn lg f0 f1 f2 f3 f4 f5 f6 f7 vs (by omega);have hw2:=gl (9+2*(lg.length:Int)+1) (dz vs k) (o++[(⟨3,9+2*(lg.length:Int),k⟩:aO)]) u t tl sn lg f0 f1 f2 f3 f4 f5 f6 f7 vs (by rw[List.length_append,List.length_singleton];omega);have hw3:=gl 8 (pack t ((lg++[k]).length:Int) tl) ((o++[(⟨3,9+2*(lg.length:Int),k⟩:aO)])++[(⟨3,9+2*(lg.length:Int)+1,dz vs k⟩:aO)]) u t tl sn (lg++[k]) f0 f1 f2 f3 f4 f5 f6 f7 vs (by rw[List.length_append,List.length_append,List.length_singleton,List.length_singleton];omega);have hx1:=il (9+2*(lg.length:Int)) k vs se u [] rd at_ true o ms lg t tl (by omega);have hx2:=il (9+2*(lg.length:Int)+1) (dz vs k) vs se u [] rd at_ true (o++[(⟨3,9+2*(lg.length:Int),k⟩:aO)]) ms lg t tl (by rw[List.length_append,List.length_singleton];omega)
  have hx3:=il 8 (pack t ((lg++[k]).length:Int) tl) vs se u [] rd at_ true ((o++[(⟨3,9+2*(lg.length:Int),k⟩:aO)])++[(⟨3,9+2*(lg.length:Int)+1,dz vs k⟩:aO)]) ms lg t tl (by rw[List.length_append,List.length_append,List.length_singleton,List.length_singleton];omega);have hx6:=oX k v vs se u [] rd at_ true (((o++[(⟨3,9+2*(lg.length:Int),k⟩:aO)])++[(⟨3,9+2*(lg.length:Int)+1,dz vs k⟩:aO)])++[(⟨3,8,pack t ((lg++[k]).length:Int) tl⟩:aO)]) ms (lg++[k]) t tl hk hvl (by rw[List.length_append,List.length_append,List.length_append,List.length_singleton,List.length_singleton,List.length_singleton];omega);have hkv:isVal k=true:=by unfold isVal;rw[bd];omega
  have hrv:isVal (dz vs k)=true:=AW hva k
  have r1:vQ t tl M lg.length sn (mw (dc M o) (⟨3,9+2*(lg.length:Int),k⟩:aO)):=by
   rw[nu _ _ _ _ (by omega)];exact h.run.set (by omega) (by omega) (fun _=>hkv) (Or.inr (by omega)) (Or.inl (by omega))
  have h1:=h.push b _ (vs':=vs) (lg':=lg) (f':=[f0,f1,f2,f3,f4,f5,f6,f7]) ⟨by show(0:Int)≤3∧(3:Int)≤5;omega,by show -1≤9+2*(lg.length:Int)∧9+2*(lg.length:Int)<49;omega⟩ r1 (by have:=h.A6;omega) h.CX h.A1
  have r2:vQ t tl M lg.length sn (mw (dc M (o++[(⟨3,9+2*(lg.length:Int),k⟩:aO)])) (⟨3,9+2*(lg.length:Int)+1,dz vs k⟩:aO)):=by
   rw[nu _ _ _ _ (by omega)];exact h1.run.set (by omega) (by omega) (fun _=>hrv) (Or.inr (by omega)) (Or.inl (by omega))
  have h2:=h1.push b _ (vs':=vs) (lg':=lg) (f':=[f0,f1,f2,f3,f4,f5,f6,f7]) ⟨by show(0:Int)≤3∧(3:Int)≤5;omega,by show -1≤9+2*(lg.length:Int)+1∧9+2*(lg.length:Int)+1<49;omega⟩ r2 (by have:=h.A6;omega) h.CX h.A1
  have hp:jb (dc M ((o++[(⟨3,9+2*(lg.length:Int),k⟩:aO)])++[(⟨3,9+2*(lg.length:Int)+1,dz vs k⟩:aO)])) lg.length=true:=by
   have l0:=h.run.len;rw[l9,iI,iI,nu _ _ _ _ (by omega),nu _ _ _ _ (by omega)];have l1:(List.set (dc M o) (9+2*(lg.length:Int)).toNat k).length=49:=by rw[List.length_set];exact l0
   rw[fO (by omega),fO (by omega),fO (by omega),if_neg (by omega),if_pos (by omega),if_pos (by omega),hrv];rw[(bd (x:=k)).mpr hk];rfl
  have r3:vQ t tl M (lg++[k]).length sn (mw (dc M ((o++[(⟨3,9+2*(lg.length:Int),k⟩:aO)])++[(⟨3,9+2*(lg.length:Int)+1,dz vs k⟩:aO)])) (⟨3,8,pack t ((lg++[k]).length:Int) tl⟩:aO)):=by
   rw[nu _ _ _ _ (by omega),List.length_append,List.length_singleton];exact h2.run.Eo (by omega) hp
  have h3:=h2.push b _ (vs':=vs) (lg':=lg++[k]) (f':=([f0,f1,f2,f3,f4,f5,f6,f7]:List Bool).set k.toNat true) ⟨by show(0:Int)≤3∧(3:Int)≤5;omega,by show(-1:Int)≤8∧(8:Int)<49;omega⟩ r3 (by have:=h.A6;omega) (by rw[List.length_append,List.length_singleton];omega) h.A1;obtain⟨g0,g1,g2,g3,g4,g5,g6,g7,eg,e7,t7⟩:=sN k v _ u t tl sn (lg++[k]) f0 f1 f2 f3 f4 f5 f6 f7 vs b (by omega) h3 hk hv;refine⟨_,lg++[k],g0,g1,g2,g3,g4,g5,g6,g7,?_,t7,?_,hS.1,fun j hj hjm=> ?_⟩
  ·rw[eI,aB];simp only[aM.tree,Tr.ah,Tr.al,Tr.bf,Tr.ai,aX.told,bq.told,iM,w1,w2,w3,hw1,hw2,hw3,af,n1,and_self,dR lg _ 1048576 (by omega) (by omega) 8 (by omega),↓reduceIte];exact e7
  ·simp only[bO.f,bO.begin,Tr.ah,Tr.ag,Tr.al,Tr.bf,Tr.ai,cK.told,e1,e2,af,Bool.not_false,↓reduceIte,bX.told,bz.told,iN,w1,w2,w3,w4,hx1,hx2,hx3,n1,and_self,dR lg _ 1048576 (by omega) (by omega) 8 (by omega)];exact hx6
  ·rw[eg,List.getElem?_set,iS]
   by_cases q:k.toNat=j
   ·rw[if_pos q,if_pos hb8];exact⟨fun _=>Or.inr (by omega),fun _=>rfl⟩
   ·rw[if_neg q,hS.2 j hj hjm];exact⟨Or.inl,fun h=>h.elim id fun h=>by omega⟩
 ·rw[if_neg hc]at eI;have h':TI n t tl M B o u sn lg (([f0,f1,f2,f3,f4,f5,f6,f7]:List Bool).set k.toNat true) vs:={h with CX:=Nat.le_trans h.CX (xm _ _)};obtain⟨g0,g1,g2,g3,g4,g5,g6,g7,eg,e7,t7⟩:=sN k v _ u t tl sn lg f0 f1 f2 f3 f4 f5 f6 f7 vs b (by omega) h' hk hv;have hx6:=oX k v vs se u [] rd at_ true o ms lg t tl hk hvl (by omega);refine⟨_,lg,g0,g1,g2,g3,g4,g5,g6,g7,eI.trans e7,t7.mono (by omega),?_,hS.1,fun j hj hjm=> ?_⟩
  ·by_cases hms':k∈ms
   ·have hmi:=(hS.1 k).mpr hms';have hl:k∈lg:=(hk8 hmi).mp ((rq hb8).elim id fun hfalse=>absurd ⟨hmi,hfalse⟩ hc);rw[decide_eq_true hms']at e1;rw[decide_eq_true hl]at e2;simp only[bO.f,bO.begin,Tr.ah,Tr.ag,Tr.ai,cK.told,e1,e2,af,Bool.not_true,Bool.false_eq_true,↓reduceIte];exact hx6
   ·rw[decide_eq_false hms']at e1;simp only[bO.f,bO.begin,Tr.ah,Tr.ag,Tr.ai,cK.told,e1,af,Bool.false_eq_true,↓reduceIte];exact hx6
  ·rw[eg,List.getElem?_set]
   by_cases q:k.toNat=j
   ·rw[if_pos q,if_pos hb8];subst q;rw[show((k.toNat:Nat):Int)=k by omega]at hjm⊢;exact⟨fun _=>(hk8 hjm).mp ((rq hb8).elim id fun hfalse=>absurd ⟨hjm,hfalse⟩ hc),fun _=>rfl⟩
   ·rw[if_neg q,hS.2 j hj hjm]
theorem wU (s:aw) (h:xc s=true):∃c,eC.f s.f0 s.f1 s.f2 s.f3.f0 s.f3.f1 s.f3.f2=some c∧fl.f s.f0 s.f1 s.f2 s.f3.f0 s.f3.f1 s.f3.f2=some c∧0≤c∧c≤5:=by
 obtain⟨⟨h1,h2⟩,_⟩:=vK h;have n1:(0:Int)≤s.f0∧s.f0<((([0,2,5,4,1,1,0]:List Int).length:Nat):Int):=⟨by omega,by simp;omega⟩;have hs:jA s.f0 s.f1 s.f2 s.f3.f0 s.f3.f1 s.f3.f2=true:=h;simp only[eC.f,eC.begin,Tr.ah,Tr.ag,Tr.al,Tr.aj,dJ.told,pO,hs,af,Bool.not_true,Bool.false_eq_true,↓reduceIte,n1,and_self];refine⟨_,rfl,?_⟩;simp only[fl.f,fl.begin,Tr.ag,Tr.aj];rcases(show s.f0=1∨s.f0=2∨s.f0=3∨s.f0=4∨s.f0=5∨s.f0=6 by omega)with e | e | e | e | e | e<;>(rw[e];exact⟨rfl,by decide⟩)
theorem tz (rd:List Int) (s n:Int):∃v,bS.f rd s n=some v∧bH.f rd s n=some v∧isVal v=true:=by
 by_cases h0:(rd.length:Int)=0
 ·simp only[bS.f,bS.begin,bH.f,bH.begin,Tr.ag,Tr.aj,decide_eq_true h0,↓reduceIte];exact⟨0,rfl,rfl,rfl⟩
 ·cases hs:fU s 0 3 with
  | false=>
    simp only[bS.f,bS.begin,bH.f,bH.begin,Tr.ag,Tr.ah,Tr.aj,decide_eq_false h0,bY.told,bY.f,bY.begin,aK.told,dt,aE.told,dG,hs,af,Bool.not_false,Bool.false_eq_true,↓reduceIte];exact⟨0,rfl,rfl,rfl⟩
  | true=>
    by_cases hn:n<0
    ·simp only[bS.f,bS.begin,bH.f,bH.begin,Tr.ag,Tr.ah,Tr.aj,decide_eq_false h0,decide_eq_true hn,bY.told,bY.f,bY.begin,aK.told,dt,aE.told,dG,hs,af,Bool.not_true,Bool.false_eq_true,↓reduceIte];exact⟨0,rfl,rfl,rfl⟩
    ·have h1:(0:Int)≤Int.tmod n (rd.length:Int)∧Int.tmod n (rd.length:Int)<(rd.length:Int):=by
      rw[Int.tmod_eq_emod_of_nonneg (by omega)];exact⟨Int.emod_nonneg _ h0,Int.emod_lt_of_pos _ (by omega)⟩
     simp only[bS.f,bS.begin,bH.f,bH.begin,Tr.ag,Tr.ah,Tr.al,Tr.aj,decide_eq_false h0,decide_eq_false hn,bY.told,bY.f,bY.begin,aK.told,dt,aE.told,dG,hs,af,Bool.not_true,Bool.false_eq_true,↓reduceIte,ne_eq,h0,not_false_eq_true,h1,and_self,dn.told,mX,dk.told,mQ];exact⟨_,rfl,rfl,Bt _⟩
theorem qx (s:Int) (vs se u li rd:List Int) (at_:Int) (o:List aO) (ms lg:List Int) (t tl:Int) (hu:u.length≤1000000) {v:Int} (ev:bH.f rd s (wr (at_+(u.length:Int)))=some v):
 eB.f s vs se u li rd at_ true o ms lg t tl=some (v,vs,se,u++[v],li,rd,at_,true,o,ms,lg,t,tl):=by
 simp only[eB.f,eB.begin,Tr.ag,Tr.bf,Tr.ah,Tr.ai,↓reduceIte,bH.told,ev,af];rw[aB];simp only[eB.tree,Tr.al,Tr.aj,dR u v 1048576 (by omega) (by omega) 8 (by omega),↓reduceIte]
theorem ph {vs:List Int} (o a b:Int) (hv:Av vs=true) (hx:po o a b=true):∃v,cr.f vs o a b=some v∧cw.f vs o a b=some v∧isVal v=true:=by
 obtain⟨_,ha,hb⟩:=vg hx;have hl:=(nc.mp hv).2;refine⟨Di vs o a b,?_,vk vs o a b hl ha.1 hb.1,CE hv hx⟩;rw[tx vs o a b (by omega),if_pos hv,if_pos hx]
theorem yp {s:aw} (h:xc s=true) (hv:s.f0=1∨s.f0=3∨s.f0=4):po s.f3.f0 s.f3.f1 s.f3.f2=true:=by
 unfold xc jA at h;rcases hv with e | e | e
 ·rw[if_pos e]at h;simp only[Bool.and_eq_true]at h;exact h.2.2
 ·rw[if_neg (by omega),if_neg (by omega),if_pos (Or.inl e)]at h;simp only[Bool.and_eq_true]at h;exact h.2.2
 ·rw[if_neg (by omega),if_neg (by omega),if_pos (Or.inr e)]at h;simp only[Bool.and_eq_true]at h;exact h.2.2
set_option maxHeartbeats 8000000 in
theorem Be {n:Nat} {M:List Int} {B:Nat} (sS:Self aq.I aq.A aq.K) (L:List aw) (i e:Nat) (hi:i<L.length) (hie:i<e) (hLl:L.length≤1048576) (mi ms rd:List Int) (at_:Int) (o:List aO) (u:List Int) (t tl sn:Int) (lg:List Int) (f0 f1 f2 f3 f4 f5 f6 f7:Bool) (vs se:List Int) (b:oH n t tl M) (hB:B≤700000) (h:TI n t tl M B o u sn lg [f0,f1,f2,f3,f4,f5,f6,f7] vs) (hx:xc L[i]=true) (h6:L[i].f0≠6) (hop:¬(L[i].f0=4∨L[i].f0=5)) (hm:mi.length≤1048576) (hms:ms.length≤1048576) (hS:Sy mi ms lg [f0,f1,f2,f3,f4,f5,f6,f7]) (hse:(se.length:Int)=sn):
 ∃r o' u' sn' lg' g0 g1 g2 g3 g4 g5 g6 g7 vs' se',bu.f L[i].f0 L[i].f1 L[i].f2 L[i].f3.f0 L[i].f3.f1 L[i].f3.f2 mi rd at_ o u t tl sn lg f0 f1 f2 f3 f4 f5 f6 f7 vs=some (r,mi,rd,at_,o',u',t,tl,sn',lg',g0,g1,g2,g3,g4,g5,g6,g7,vs')∧TI n t tl M (B+6) o' u' sn' lg' [g0,g1,g2,g3,g4,g5,g6,g7] vs'∧
  lp (aq.tree sS) (.c1 L (e:Int) (i:Int) vs se u [] rd at_ true o ms lg t tl)=lp (aq.tree sS) (.c1 L (e:Int) ((i+1:Nat):Int) vs' se' u' [] rd at_ true o' ms lg' t tl)∧Sy mi ms lg' [g0,g1,g2,g3,g4,g5,g6,g7]∧(se'.length:Int)=sn':=by
 have hr:ak L (i:Int)=L[i]:=aU hi;generalize L[i]=x at hx h6 hop hr;obtain⟨c,ec,es,c0,c5⟩:=wU x hx;obtain⟨⟨k1,k6⟩,_⟩:=vK hx;have hvar:=qN hx;have hexp:=yp hx;have ho:=h.mG;have hul:=h.uH;have ew:=jI c o u t tl sn lg f0 f1 f2 f3 f4 f5 f6 f7 vs (by omega);have eW:=ll c vs se u [] rd at_ true o ms lg t tl (by omega);have hW:=h.work b ⟨c0,c5⟩;have qi:decide ((i:Int)<(e:Int))=true:=decide_eq_true (by omega);have wi:wr ((i:Int)+1)=((i+1:Nat):Int):=aN (by omega)
 have c2:∀(vs se u:List Int) (o:List aO) (lg:List Int),lp (aq.tree sS) (.c2 L (e:Int) (i:Int) vs se u [] rd at_ true o ms lg t tl)=lp (aq.tree sS) (.c1 L (e:Int) ((i+1:Nat):Int) vs se u [] rd at_ true o ms lg t tl):=fun vs se u o lg=>by
  rw[aB];simp only[aq.tree,Tr.ai,wi]
 have h1:lp (aq.tree sS) (.c1 L (e:Int) (i:Int) vs se u [] rd at_ true o ms lg t tl)=lp (aq.tree sS) (.c6 L (e:Int) (i:Int) x.f0 x.f1 x.f2 x.f3.f0 x.f3.f1 x.f3.f2 vs se u [] rd at_ true (o++[(⟨c,-1,0⟩:aO)]) ms lg t tl):=by
  rw[aB];simp only[aq.tree,Tr.ag,Tr.al,Tr.ah,Tr.ai,qi,bW hi,hr,and_self,↓reduceIte,decide_eq_false h6,Bool.not_false,fl.told,es,af,ez.told,eW]
 simp only[bu.f,bu.begin,Tr.bf,Tr.ah,Tr.ag,eC.told,ec,af,cg.told,ew];have q4:¬x.f0=4:=by omega
 by_cases q1:x.f0=1
 ·obtain⟨v,ev,esv,hv⟩:=ph x.f3.f0 x.f3.f1 x.f3.f2 h.A1 (hexp (Or.inl q1));obtain⟨o',lg',g0,g1,g2,g3,g4,g5,g6,g7,ea,ta,esa,hS'⟩:=sO mi ms x.f1 v _ u t tl sn lg f0 f1 f2 f3 f4 f5 f6 f7 vs se rd at_ b (by omega) hW (hvar (Or.inl q1)) hv hm hms hS;simp only[decide_eq_true q1,↓reduceIte,cr.told,ev,af,aM.told,ea,Tr.ai];refine⟨true,o',u,sn,lg',g0,g1,g2,g3,g4,g5,g6,g7,vs.set x.f1.toNat v,se,?_,ta.mono (by omega),?_,hS',hse⟩
  ·rw[aB];simp only[bu.tree,Tr.aj]
  ·rw[←c2,h1,aB];simp only[aq.tree,Tr.ag,Tr.ah,Tr.bf,Tr.ai,↓reduceIte,af,decide_eq_true q1,cw.told,esv,bO.told,esa]
 by_cases q2:x.f0=2
 ·obtain⟨v,ev,esv,hv⟩:=tz rd x.f2 (wr (at_+(u.length:Int)));obtain⟨o',lg',g0,g1,g2,g3,g4,g5,g6,g7,ea,ta,esa,hS'⟩:=sO mi ms x.f1 v _ (u++[v]) t tl sn lg f0 f1 f2 f3 f4 f5 f6 f7 vs se rd at_ b (by omega) (hW.D2 hv) (hvar (Or.inr q2)) hv hm hms hS;simp only[decide_eq_false q1,decide_eq_true q2,Bool.false_eq_true,↓reduceIte,bS.told,ev,af,Tr.fq,Tr.bf,Tr.al,cB,dR u v 1048576 (by have:=h.uH;omega) (by omega) 8 (by omega),Tr.ai];refine⟨true,o',u++[v],sn,lg',g0,g1,g2,g3,g4,g5,g6,g7,vs.set x.f1.toNat v,se,?_,ta.mono (by omega),?_,hS',hse⟩
  ·rw[aB];simp only[bu.tree,Tr.ah,aM.told,ea,af,Tr.ai];rw[aB];simp only[bu.tree,Tr.aj]
  ·rw[←c2,h1,aB];simp only[aq.tree,Tr.ag,Tr.al,Tr.ah,Tr.bf,Tr.fq,cB,Tr.ai,↓reduceIte,Bool.false_eq_true,af,decide_eq_false q1,decide_eq_true q2,eB.told,qx x.f2 vs se u [] rd at_ (o++[(⟨c,-1,0⟩:aO)]) ms lg t tl (by omega) esv,bO.told,esa]
 have q3:x.f0=3:=by omega
 obtain⟨v,ev,esv,hv⟩:=ph x.f3.f0 x.f3.f1 x.f3.f2 h.A1 (hexp (Or.inr (Or.inl q3)));simp only[decide_eq_false q1,decide_eq_false q2,decide_eq_true q3,Bool.false_eq_true,↓reduceIte,cr.told,ev,af,Tr.bf,Tr.ah];have hs0:=h.run.s0;have hsB:=h.A6;have htl:=b.Ec;have w1:wr (tl+sn)=tl+sn:=cd (by omega);have w2:wr (sn+1)=sn+1:=cd (by omega);have hse':((se++[v]).length:Int)=sn+1:=by rw[List.length_append,List.length_singleton];omega
 have fit:=dR se v 1048576 (by omega) (by omega) 8 (by omega);rw[hse]at fit
 by_cases q:tl+sn<24
 ·have w3:wr (25+(tl+sn))=25+(tl+sn):=cd (by omega);have hw:=gl (25+(tl+sn)) v (o++[(⟨c,-1,0⟩:aO)]) u t tl sn lg f0 f1 f2 f3 f4 f5 f6 f7 vs (by rw[List.length_append,List.length_singleton];omega);have hx:=il (25+(tl+sn)) v vs (se++[v]) u [] rd at_ true (o++[(⟨c,-1,0⟩:aO)]) ms lg t tl (by rw[List.length_append,List.length_singleton];omega);refine⟨true,_,u,sn+1,lg,f0,f1,f2,f3,f4,f5,f6,f7,vs,se++[v],?_,(hW.push b (⟨3,25+(tl+sn),v⟩:aO) (sn':=sn+1) (lg':=lg) (f':=[f0,f1,f2,f3,f4,f5,f6,f7]) (vs':=vs) ⟨by show(0:Int)≤3∧(3:Int)≤5;omega,by show -1≤25+(tl+sn)∧25+(tl+sn)<49;omega⟩ ?_ (by omega) h.CX h.A1).mono (by omega),?_,hS,hse'⟩
  ·simp only[cE.told,cE.f,cE.begin,Tr.ag,Tr.ah,Tr.aj,w1,w2,w3,decide_eq_true q,aX.told,hw,af,↓reduceIte,Tr.ai];rw[aB];simp only[bu.tree,Tr.aj]
  ·rw[nu _ _ _ _ (by omega)];have:=hW.run.box (j:=(tl+sn).toNat) htl.1 (by omega) (by omega) hv;rw[show 25+(tl+sn).toNat=(25+(tl+sn)).toNat by omega]at this;exact this
  ·rw[←c2,h1,aB];simp only[aq.tree,Tr.ag,Tr.al,Tr.ah,Tr.bf,Tr.ai,↓reduceIte,Bool.false_eq_true,af,decide_eq_false q1,decide_eq_false q2,decide_eq_true q3,cw.told,esv,fit,hse,w1,w3,decide_eq_true q,bX.told,hx]
 ·refine⟨true,o++[(⟨c,-1,0⟩:aO)],u,sn+1,lg,f0,f1,f2,f3,f4,f5,f6,f7,vs,se++[v],?_,{hW.mono (show B+1≤B+6 by omega)with run:=hW.run.Ek (by omega),A6:=by omega},?_,hS,hse'⟩
  ·simp only[cE.told,cE.f,cE.begin,Tr.ag,Tr.aj,w1,w2,decide_eq_false q,Bool.false_eq_true,↓reduceIte,af,Tr.ai];rw[aB];simp only[bu.tree,Tr.aj]
  ·rw[←c2,h1,aB];simp only[aq.tree,Tr.ag,Tr.al,Tr.ah,Tr.bf,Tr.ai,↓reduceIte,Bool.false_eq_true,af,decide_eq_false q1,decide_eq_false q2,decide_eq_true q3,cw.told,esv,fit,hse,w1,decide_eq_false q]
set_option maxHeartbeats 8000000 in
theorem Bp {n:Nat} {M:List Int} {B:Nat} (sS:Self aq.I aq.A aq.K) (L:List aw) (i e z:Nat) (hi:i<L.length) (hie:i<e) (hLl:L.length≤1048576) (hz:cn.f L (i:Int)=some (z:Int)) (mi ms rd:List Int) (at_:Int) (o:List aO) (u:List Int) (t tl sn:Int) (lg:List Int) (f0 f1 f2 f3 f4 f5 f6 f7:Bool) (vs se:List Int) (b:oH n t tl M) (hB:B≤700000) (h:TI n t tl M B o u sn lg [f0,f1,f2,f3,f4,f5,f6,f7] vs) (hx:xc L[i]=true) (hop:L[i].f0=4∨L[i].f0=5):
 ∃r o' times,bu.f L[i].f0 L[i].f1 L[i].f2 L[i].f3.f0 L[i].f3.f1 L[i].f3.f2 mi rd at_ o u t tl sn lg f0 f1 f2 f3 f4 f5 f6 f7 vs=some (r,mi,rd,at_,o',u,t,tl,sn,lg,f0,f1,f2,f3,f4,f5,f6,f7,vs)∧TI n t tl M (B+6) o' u sn lg [f0,f1,f2,f3,f4,f5,f6,f7] vs∧
  (if L[i].f0=4 then gM.f r else some L[i].f2)=some ((times:Nat):Int)∧times≤5∧
  lp (aq.tree sS) (.c1 L (e:Int) (i:Int) vs se u [] rd at_ true o ms lg t tl)=lp (aq.tree sS) (.c24 L (e:Int) (i:Int) (z:Int) (times:Int) 0 vs se u [] rd at_ true o' ms lg t tl):=by
 have hr:ak L (i:Int)=L[i]:=aU hi;generalize L[i]=x at hx hop hr;obtain⟨c,ec,es,c0,c5⟩:=wU x hx;obtain⟨⟨k1,k6⟩,k5⟩:=vK hx;have hexp:=yp hx;have ho:=h.mG;have ew:=jI c o u t tl sn lg f0 f1 f2 f3 f4 f5 f6 f7 vs (by omega);have eW:=ll c vs se u [] rd at_ true o ms lg t tl (by omega);have hW:=h.work b ⟨c0,c5⟩;have qi:decide ((i:Int)<(e:Int))=true:=decide_eq_true (by omega);have h6:¬x.f0=6:=by omega
 have h1:lp (aq.tree sS) (.c1 L (e:Int) (i:Int) vs se u [] rd at_ true o ms lg t tl)=lp (aq.tree sS) (.c6 L (e:Int) (i:Int) x.f0 x.f1 x.f2 x.f3.f0 x.f3.f1 x.f3.f2 vs se u [] rd at_ true (o++[(⟨c,-1,0⟩:aO)]) ms lg t tl):=by
  rw[aB];simp only[aq.tree,Tr.ag,Tr.al,Tr.ah,Tr.ai,qi,bW hi,hr,and_self,↓reduceIte,decide_eq_false h6,Bool.not_false,fl.told,es,af,ez.told,eW]
 have q1:¬x.f0=1:=by omega
 have q2:¬x.f0=2:=by omega
 have q3:¬x.f0=3:=by omega
 simp only[bu.f,bu.begin,Tr.bf,Tr.ah,Tr.ag,eC.told,ec,af,cg.told,ew,decide_eq_false q1,decide_eq_false q2,decide_eq_false q3,Bool.false_eq_true,↓reduceIte]
 by_cases q4:x.f0=4
 ·obtain⟨v,ev,esv,hv⟩:=ph x.f3.f0 x.f3.f1 x.f3.f2 h.A1 (hexp (Or.inr (Or.inr q4)))
  have hbt:∃times:Nat,A3 (!decide (v=0))=(times:Int)∧times≤5:=by
   cases(!decide (v=0))
   ·exact⟨0,rfl,by omega⟩
   ·exact⟨1,rfl,by omega⟩
  obtain⟨times,ht,ht5⟩:=hbt;refine⟨!decide (v=0),_,times,?_,hW.mono (by omega),?_,ht5,?_⟩
  ·simp only[decide_eq_true q4,↓reduceIte,cr.told,ev,af,Tr.aj,Tr.bf,Tr.ah]
  ·rw[if_pos q4,vv,ht]
  ·rw[h1,aB];simp only[aq.tree,Tr.ag,Tr.ah,Tr.bf,Tr.ai,↓reduceIte,Bool.false_eq_true,af,decide_eq_false q1,decide_eq_false q2,decide_eq_false q3,decide_eq_true q4,cn.told,hz,cw.told,esv,fJ.told,pN,ht]
 ·have q5:x.f0=5:=by omega
  have hN:=k5 q5;refine⟨true,_,x.f2.toNat,?_,hW.mono (by omega),?_,by omega,?_⟩
  ·simp only[decide_eq_false q4,Bool.false_eq_true,↓reduceIte,Tr.ai,Tr.bf];rw[aB];simp only[bu.tree,Tr.aj]
  ·rw[if_neg q4,show((x.f2.toNat:Nat):Int)=x.f2 by omega]
  ·rw[h1,aB];simp only[aq.tree,Tr.ag,Tr.ah,Tr.bf,Tr.ai,↓reduceIte,Bool.false_eq_true,af,decide_eq_false q1,decide_eq_false q2,decide_eq_false q3,decide_eq_false q4,decide_eq_true q5,cn.told,hz,show((x.f2.toNat:Nat):Int)=x.f2 by omega]
def Cl (n:Nat) (M:List Int) (t tl:Int) (sI:Self cb.I cb.A cb.K) (sS:Self aq.I aq.A aq.K) (k:Nat):Prop:=
 ∀(L:List aw) (i0 e0:Nat) (l:List aw) (mi ms rd:List Int) (at_:Int) (o:List aO) (u:List Int) (sn:Int) (lg:List Int) (f0 f1 f2 f3 f4 f5 f6 f7:Bool) (vs se:List Int) (B:Nat),L.length≤1048576→L.drop i0=l++L.drop e0→i0+l.length=e0→e0≤L.length→kM (k:Int) l 0→mi.length≤1048576→ms.length≤1048576→B+W5 k*l.length≤600000→TI n t tl M B o u sn lg [f0,f1,f2,f3,f4,f5,f6,f7] vs→Sy mi ms lg [f0,f1,f2,f3,f4,f5,f6,f7]→(se.length:Int)=sn→
  ∃o' u' sn' lg' g0 g1 g2 g3 g4 g5 g6 g7 vs' se',sI.f (l,mi,rd,at_,o,u,t,tl,sn,lg,f0,f1,f2,f3,f4,f5,f6,f7,vs)=some (mi,rd,at_,o',u',t,tl,sn',lg',g0,g1,g2,g3,g4,g5,g6,g7,vs')∧TI n t tl M (B+W5 k*l.length) o' u' sn' lg' [g0,g1,g2,g3,g4,g5,g6,g7] vs'∧
   sS.f (L,(i0:Int),(e0:Int),vs,se,u,[],rd,at_,true,o,ms,lg,t,tl)=some (vs',se',u',[],rd,at_,true,o',ms,lg',t,tl)∧Sy mi ms lg' [g0,g1,g2,g3,g4,g5,g6,g7]∧(se'.length:Int)=sn'
set_option maxHeartbeats 4000000 in
theorem yR {n:Nat} {M:List Int} {t tl:Int} (sI:Self cb.I cb.A cb.K) (sS:Self aq.I aq.A aq.K) (k:Nat) (hs:Cl n M t tl sI sS k) (L:List aw) (i0 e0:Nat) (l:List aw) (hLl:L.length≤1048576) (hd:L.drop i0=l++L.drop e0) (hle:i0+l.length=e0) (he0:e0≤L.length) (mi ms rd:List Int) (at_:Int) (i e times:Nat) (hie:i<e) (hel:e<l.length) (hF:kM (k:Int) ((l.take e).drop (i+1)) 0) (hm:mi.length≤1048576) (hms:ms.length≤1048576) (ht:times≤5):
 ∀(m j:Nat),j+m=times→∀(o:List aO) (u:List Int) (sn:Int) (lg:List Int) (f0 f1 f2 f3 f4 f5 f6 f7:Bool) (vs se:List Int) (B:Nat),TI n t tl M B o u sn lg [f0,f1,f2,f3,f4,f5,f6,f7] vs→Sy mi ms lg [f0,f1,f2,f3,f4,f5,f6,f7]→(se.length:Int)=sn→B+m*(W5 k*((l.take e).drop (i+1)).length)≤600000→
 ∃o' u' sn' lg' g0 g1 g2 g3 g4 g5 g6 g7 vs' se',lp (cb.tree sI) (.c12 l (i:Int) (e:Int) (times:Int) (j:Int) mi rd at_ o u t tl sn lg f0 f1 f2 f3 f4 f5 f6 f7 vs)=lp (cb.tree sI) (.c1 l ((e+1:Nat):Int) mi rd at_ o' u' t tl sn' lg' g0 g1 g2 g3 g4 g5 g6 g7 vs')∧TI n t tl M (B+m*(W5 k*((l.take e).drop (i+1)).length)) o' u' sn' lg' [g0,g1,g2,g3,g4,g5,g6,g7] vs'∧
  lp (aq.tree sS) (.c24 L (e0:Int) ((i0+i:Nat):Int) ((i0+e:Nat):Int) (times:Int) (j:Int) vs se u [] rd at_ true o ms lg t tl)=lp (aq.tree sS) (.c1 L (e0:Int) ((i0+e+1:Nat):Int) vs' se' u' [] rd at_ true o' ms lg' t tl)∧Sy mi ms lg' [g0,g1,g2,g3,g4,g5,g6,g7]∧(se'.length:Int)=sn':=by
 intro m;have hll:l.length≤1048576:=by omega
 have we:wr ((e:Int)+1)=((e+1:Nat):Int):=aN (by omega);have wi:wr ((i:Int)+1)=((i+1:Nat):Int):=aN (by omega);have we0:wr (((i0+e:Nat):Int)+1)=((i0+e+1:Nat):Int):=aN (by omega);have wi0:wr (((i0+i:Nat):Int)+1)=((i0+i+1:Nat):Int):=aN (by omega);have hn1:(0:Int)≤((i+1:Nat):Int)∧((i+1:Nat):Int)≤(e:Int)∧(e:Int)≤(l.length:Int):=by omega
 have hA:((l.take e).drop (i+1)).length=e-(i+1):=by rw[List.length_drop,List.length_take];omega
 have hdA:L.drop (i0+i+1)=(l.take e).drop (i+1)++L.drop (i0+e):=by
  have h1:L.drop (i0+e)=l.drop e++L.drop e0:=by rw[←List.drop_drop,hd,List.drop_append_of_le_length (by omega)]
  rw[h1,show i0+i+1=i0+(i+1) by omega,←List.drop_drop,hd,List.drop_append_of_le_length (by omega),←List.append_assoc];congr 1
  conv=>lhs;rw[←List.take_append_drop e l]
  rw[List.drop_append_of_le_length (by rw[List.length_take];omega)]
 induction m with
 | zero=>
   intro j hj o u sn lg f0 f1 f2 f3 f4 f5 f6 f7 vs se B hT hS hse hB;obtain rfl:j=times:=by omega
   refine⟨o,u,sn,lg,f0,f1,f2,f3,f4,f5,f6,f7,vs,se,?_,hT.mono (by omega),?_,hS,hse⟩
   ·rw[aB];simp only[cb.tree,Tr.ag,Tr.ai,dv,Bool.false_eq_true,↓reduceIte,we]
   ·rw[aB];simp only[aq.tree,Tr.ag,Tr.ai,dv,Bool.false_eq_true,↓reduceIte];rw[aB];simp only[aq.tree,Tr.ai,we0]
 | succ m ih=>
   intro j hj o u sn lg f0 f1 f2 f3 f4 f5 f6 f7 vs se B hT hS hse hB;rw[Nat.succ_mul]at hB;obtain⟨o',u',sn',lg',g0,g1,g2,g3,g4,g5,g6,g7,vs',se',e1,t1,s1,hS1,hse1⟩:=hs L (i0+i+1) (i0+e) ((l.take e).drop (i+1)) mi ms rd at_ o u sn lg f0 f1 f2 f3 f4 f5 f6 f7 vs se B hLl hdA (by rw[hA];omega) (by omega) hF hm hms (by omega) hT hS hse;obtain⟨o2,u2,sn2,lg2,y0,y1,y2,y3,y4,y5,y6,y7,vs2,se2,e2,t2,s2,hS2,hse2⟩:=ih (j+1) (by omega) o' u' sn' lg' g0 g1 g2 g3 g4 g5 g6 g7 vs' se' _ t1 hS1 hse1 (by omega);have q:j<times:=by omega
   refine⟨o2,u2,sn2,lg2,y0,y1,y2,y3,y4,y5,y6,y7,vs2,se2,?_,t2.mono (by rw[Nat.succ_mul];omega),?_,hS2,hse2⟩
   ·rw[aB];simp only[cb.tree,Tr.ag,Tr.al,Tr.ah,Tr.ai,bh q,↓reduceIte,wi,hn1,and_self,Int.toNat_natCast,Self.told,e1,af,aN (show j<4611686018427387904 by omega)];exact e2
   ·rw[aB];simp only[aq.tree,Tr.ag,Tr.ah,Tr.ai,bh q,↓reduceIte,wi0,Self.told,s1,af,aN (show j<4611686018427387904 by omega)];exact s2
set_option maxHeartbeats 4000000 in
theorem nB {n:Nat} {M:List Int} {t tl:Int} (b:oH n t tl M) (sI:Self cb.I cb.A cb.K) (sS:Self aq.I aq.A aq.K) (k:Nat) (hk:k≤6) (hs:∀k',k=k'+1→Cl n M t tl sI sS k'):Cl n M t tl (cb.step sI) (aq.step sS) k:=by
 intro L i0 e0 l mi ms rd at_ o u sn lg f0 f1 f2 f3 f4 f5 f6 f7 vs se B hLl hd hle he0 hF hm hms hB hT hS hse;have hl:l.length≤1048576:=by omega
 have hget:∀(i:Nat) (q:i<l.length) (q':i0+i<L.length),L[i0+i]=l[i]:=fun i q q'=>by
  have:(L.drop i0)[i]? =some l[i]:=by rw[hd,List.getElem?_append_left q,List.getElem?_eq_getElem q]
  rw[List.getElem?_drop,List.getElem?_eq_getElem q']at this;exact Option.some.inj this
 have key:∀(r i:Nat),i+r=l.length→kM (k:Int) l i→∀(o:List aO) (u:List Int) (sn:Int) (lg:List Int) (f0 f1 f2 f3 f4 f5 f6 f7:Bool) (vs se:List Int) (B':Nat),TI n t tl M B' o u sn lg [f0,f1,f2,f3,f4,f5,f6,f7] vs→Sy mi ms lg [f0,f1,f2,f3,f4,f5,f6,f7]→(se.length:Int)=sn→B'+W5 k*r≤600000→
  ∃o' u' sn' lg' g0 g1 g2 g3 g4 g5 g6 g7 vs' se',lp (cb.tree sI) (.c1 l (i:Int) mi rd at_ o u t tl sn lg f0 f1 f2 f3 f4 f5 f6 f7 vs)=some (mi,rd,at_,o',u',t,tl,sn',lg',g0,g1,g2,g3,g4,g5,g6,g7,vs')∧TI n t tl M (B'+W5 k*r) o' u' sn' lg' [g0,g1,g2,g3,g4,g5,g6,g7] vs'∧
   lp (aq.tree sS) (.c1 L (e0:Int) ((i0+i:Nat):Int) vs se u [] rd at_ true o ms lg t tl)=some (vs',se',u',[],rd,at_,true,o',ms,lg',t,tl)∧Sy mi ms lg' [g0,g1,g2,g3,g4,g5,g6,g7]∧(se'.length:Int)=sn':=by
  intro r
  induction r using Nat.strongRecOn with
  | _ r ih=>
    intro i hi hF o u sn lg f0 f1 f2 f3 f4 f5 f6 f7 vs se B' hT hS hse hB'
    by_cases q:i<l.length
    ·obtain⟨hok,hF'⟩:=hF.next q;have qL:i0+i<L.length:=by omega
     have hgL:=hget i q qL;have w:wr ((i:Int)+1)=((i+1:Nat):Int):=aN (by omega);have w0:wr (((i0+i:Nat):Int)+1)=((i0+(i+1):Nat):Int):=aN (by omega);have hW:=Da k;obtain⟨r',rfl⟩:∃r',r=r'+1:=⟨r-1,by omega⟩;have hr':W5 k*(r'+1)=W5 k*r'+W5 k:=Nat.mul_succ _ _
     by_cases h6:l[i].f0=6
     ·obtain⟨o2,u2,sn2,lg2,y0,y1,y2,y3,y4,y5,y6,y7,vs2,se2,e2,t2,s2,hS2,hse2⟩:=ih r' (by omega) (i+1) (by omega) hF' o u sn lg f0 f1 f2 f3 f4 f5 f6 f7 vs se B' hT hS hse (by omega);refine⟨o2,u2,sn2,lg2,y0,y1,y2,y3,y4,y5,y6,y7,vs2,se2,?_,t2.mono (by omega),?_,hS2,hse2⟩
      ·rw[aB];simp only[cb.tree,Tr.ag,Tr.al,Tr.ai,bh q,bW q,aU q,and_self,decide_eq_true h6,decide_true,↓reduceIte,w];exact e2
      ·have hrL:ak L ((i0+i:Nat):Int)=l[i]:=(aU qL).trans hgL;have qi:decide (((i0+i:Nat):Int)<(e0:Int))=true:=decide_eq_true (by omega);have n1:¬l[i].f0=1:=by omega
       have n2:¬l[i].f0=2:=by omega
       have n3:¬l[i].f0=3:=by omega
       have n4:¬l[i].f0=4:=by omega
       have n5:¬l[i].f0=5:=by omega
       rw[aB];simp only[aq.tree,Tr.ag,Tr.al,Tr.ai,qi,bW qL,hrL,and_self,↓reduceIte,decide_eq_true h6,Bool.not_true,Bool.false_eq_true];rw[aB];simp only[aq.tree,Tr.ag,Tr.ai,↓reduceIte,Bool.false_eq_true,decide_eq_false n1,decide_eq_false n2,decide_eq_false n3,decide_eq_false n4,decide_eq_false n5];rw[aB];simp only[aq.tree,Tr.ai,w0];exact s2
     ·by_cases hop:l[i].f0=4∨l[i].f0=5
      ·obtain⟨a,s,rr,ed,e6,k1,hbal,p1,p2,p3,hia,hdr,hFe⟩:=hF.AF q (by omega) hop;have hE:Ends l i (i+1+a.length):=⟨l[i],a,s,rr,ed,hop,e6,p1,p2,rfl⟩;have hEL:Ends L (i0+i) (i0+(i+1+a.length)):=⟨l[i],a,s,rr++L.drop e0,by rw[←List.drop_drop,hd,List.drop_append_of_le_length (by omega),ed];simp,hop,e6,p1,p2,by omega⟩;have hend:=hE.zI hl;have hz:=hEL.yh hLl;obtain⟨k',rfl⟩:∃k',k=k'+1:=⟨k-1,by omega⟩;rw[show((k'+1:Nat):Int)-1=(k':Int) by omega]at hbal;generalize he:i+1+a.length=e at hend hz p3 hia hdr hFe;have hFi:kM (k':Int) ((l.take e).drop (i+1)) 0:=by rw[hia];exact⟨0,by omega,hbal.1,hbal.2⟩
       obtain⟨rb,o1,times,e1,t1,htm,ht5,s1⟩:=Bp (B:=B') sS L (i0+i) e0 (i0+e) qL (by omega) hLl hz mi ms rd at_ o u t tl sn lg f0 f1 f2 f3 f4 f5 f6 f7 vs se b (by omega) hT (by rw[hgL];exact hok) (by rw[hgL];exact hop);rw[hgL]at e1 htm;have hAl:((l.take e).drop (i+1)).length=a.length:=by rw[hia]
       have hmul:times*(W5 k'*a.length)≤W5 (k'+1)*a.length:=by
        rw[CA,Nat.mul_assoc];exact Nat.mul_le_mul_right _ ht5
       have hsplit:W5 (k'+1)*(r'+1)=W5 (k'+1)*a.length+W5 (k'+1)*2+W5 (k'+1)*(l.length-(e+1)):=by
        rw[←Nat.mul_add,←Nat.mul_add];congr 1;omega
       obtain⟨o2,u2,sn2,lg2,y0,y1,y2,y3,y4,y5,y6,y7,vs2,se2,e2,t2,s2,hS2,hse2⟩:=yR sI sS k' (hs k' rfl) L i0 e0 l hLl hd hle he0 mi ms rd at_ i e times (by omega) p3 hFi hm hms ht5 times 0 (by omega) o1 u sn lg f0 f1 f2 f3 f4 f5 f6 f7 vs se _ t1 hS hse (by rw[hAl];omega);rw[hAl]at t2;obtain⟨o3,u3,sn3,lg3,p0,p1,p2,p3,p4,p5,p6,p7,vs3,se3,e3,t3,s3,hS3,hse3⟩:=ih (l.length-(e+1)) (by omega) (e+1) (by omega) hFe o2 u2 sn2 lg2 y0 y1 y2 y3 y4 y5 y6 y7 vs2 se2 _ t2 hS2 hse2 (by omega);refine⟨o3,u3,sn3,lg3,p0,p1,p2,p3,p4,p5,p6,p7,vs3,se3,?_,t3.mono (by omega),s1.trans (s2.trans s3),hS3,hse3⟩;rw[aB]
       by_cases h4:l[i].f0=4
       ·rw[if_pos h4]at htm;simp only[cb.tree,Tr.ag,Tr.al,Tr.ah,Tr.ai,bh q,bW q,aU q,and_self,decide_eq_false h6,decide_eq_true hop,decide_eq_true h4,decide_true,Bool.not_true,Bool.false_eq_true,↓reduceIte,bu.told,e1,bN.told,jo,cT.told,hend,gM.told,htm,af];exact e2.trans e3
       ·rw[if_neg h4]at htm;have htm':l[i].f2=(times:Int):=Option.some.inj htm;rw[htm']at e1;simp only[cb.tree,Tr.ag,Tr.al,Tr.ah,Tr.ai,bh q,bW q,aU q,and_self,decide_eq_false h6,decide_eq_true hop,decide_eq_false h4,decide_true,Bool.not_true,Bool.false_eq_true,↓reduceIte,bu.told,e1,bN.told,jo,cT.told,hend,htm',af];exact e2.trans e3
      ·obtain⟨rb,o1,u1,sn1,lg1,g0,g1,g2,g3,g4,g5,g6,g7,vs1,se1,e1,t1,s1,hS1,hse1⟩:=Be (B:=B') sS L (i0+i) e0 qL (by omega) hLl mi ms rd at_ o u t tl sn lg f0 f1 f2 f3 f4 f5 f6 f7 vs se b (by omega) hT (by rw[hgL];exact hok) (by rw[hgL];exact h6) (by rw[hgL];exact hop) hm hms hS hse;rw[hgL]at e1;obtain⟨o2,u2,sn2,lg2,y0,y1,y2,y3,y4,y5,y6,y7,vs2,se2,e2,t2,s2,hS2,hse2⟩:=ih r' (by omega) (i+1) (by omega) hF' o1 u1 sn1 lg1 g0 g1 g2 g3 g4 g5 g6 g7 vs1 se1 _ t1 hS1 hse1 (by omega);refine⟨o2,u2,sn2,lg2,y0,y1,y2,y3,y4,y5,y6,y7,vs2,se2,?_,t2.mono (by omega),s1.trans s2,hS2,hse2⟩;rw[aB];simp only[cb.tree,Tr.ag,Tr.al,Tr.ah,Tr.ai,bh q,bW q,aU q,and_self,decide_eq_false h6,decide_eq_false hop,decide_true,Bool.not_false,Bool.false_eq_true,↓reduceIte,bu.told,e1,bN.told,jo,af,w];exact e2
    ·obtain rfl:i=l.length:=by omega
     refine⟨o,u,sn,lg,f0,f1,f2,f3,f4,f5,f6,f7,vs,se,?_,hT.mono (by omega),?_,hS,hse⟩
     ·rw[aB];simp only[cb.tree,Tr.ag,Tr.aj,dv,Bool.false_eq_true,↓reduceIte]
     ·rw[aB,hle];simp only[aq.tree,Tr.ag,Tr.aj,dv,Bool.false_eq_true,↓reduceIte]
 exact key l.length 0 (by omega) hF o u sn lg f0 f1 f2 f3 f4 f5 f6 f7 vs se B hT hS hse hB
theorem Bq {n:Nat} {M:List Int} {t tl:Int} (b:oH n t tl M) (l:List aw) (mi ms rd:List Int) (at_:Int) (o:List aO) (u:List Int) (sn:Int) (lg:List Int) (f0 f1 f2 f3 f4 f5 f6 f7:Bool) (vs se:List Int) (hb:okB l.length l 0=true) (hm:mi.length≤1048576) (hms:ms.length≤1048576) (hT:TI n t tl M 0 o u sn lg [f0,f1,f2,f3,f4,f5,f6,f7] vs) (hS:Sy mi ms lg [f0,f1,f2,f3,f4,f5,f6,f7]) (hse:(se.length:Int)=sn):
 ∃o' u' sn' lg' g0 g1 g2 g3 g4 g5 g6 g7 vs' se',cb.f l mi rd at_ o u t tl sn lg f0 f1 f2 f3 f4 f5 f6 f7 vs=some (mi,rd,at_,o',u',t,tl,sn',lg',g0,g1,g2,g3,g4,g5,g6,g7,vs')∧TI n t tl M 18000 o' u' sn' lg' [g0,g1,g2,g3,g4,g5,g6,g7] vs'∧
  aq.f l 0 (l.length:Int) vs se u [] rd at_ true o ms lg t tl=some (vs',se',u',[],rd,at_,true,o',ms,lg',t,tl)∧(se'.length:Int)=sn':=by
 have h0:=nB b (Self.iter cb.step 4) (Self.iter aq.step 4) 0 (by omega) (fun k' h=>absurd h (by omega));have h1:=nB b (Self.iter cb.step 5) (Self.iter aq.step 5) 1 (by omega) (fun k' h=>by cases h;exact h0);have h2:=nB b (Self.iter cb.step 6) (Self.iter aq.step 6) 2 (by omega) (fun k' h=>by cases h;exact h1);have h3:=nB b (Self.iter cb.step 7) (Self.iter aq.step 7) 3 (by omega) (fun k' h=>by cases h;exact h2);obtain⟨c1,c2,c3⟩:=jX _ _ _ hb;have hW:W5 3=750:=rfl;obtain⟨o',u',sn',lg',g0,g1,g2,g3,g4,g5,g6,g7,vs',se',e,t',s',_,hse'⟩:=h3 l 0 l.length l mi ms rd at_ o u sn lg f0 f1 f2 f3 f4 f5 f6 f7 vs se 0 (by omega) (by simp) (by omega) (Nat.le_refl _) ⟨0,by omega,c1,c2⟩ hm hms (by rw[hW];omega) hT hS hse;exact⟨o',u',sn',lg',g0,g1,g2,g3,g4,g5,g6,g7,vs',se',e,t'.mono (by rw[hW];omega),s',hse'⟩
theorem yM {p:List az} (hp:tg p=true) {t:Int} (ht:0≤t∧t<(p.length:Int)):po (cy p t).f1.f0 (cy p t).f1.f1 (cy p t).f1.f2=true:=by
 obtain⟨i,rfl⟩:∃i:Nat,t=i:=⟨t.toNat,by omega⟩;have hi:i<p.length:=by omega
 have e:cy p (i:Int)=p[i]:=aU hi;unfold tg at hp;rw[Bool.and_eq_true,List.all_eq_true]at hp;have:=hp.1 _ (List.getElem_mem hi);unfold CD at this;rw[Bool.and_eq_true]at this;rw[e];exact this.2
theorem wh {p:List az} {vs:List Int} {t:Int} (hp:tg p=true) (hl:p.length≤1048576) (hs:∀t∈p,t.f0.length≤1048576) (hv:Av vs=true) (ht:0≤t∧t<(p.length:Int)):∃v,dM.f p vs t=some v∧dU.f p vs t=some v∧0≤v∧v<(p.length:Int):=by
 obtain⟨v1,v2⟩:=nc.mp hv;obtain⟨e,ee,es,he⟩:=ph (vs:=vs) (cy p t).f1.f0 (cy p t).f1.f1 (cy p t).f1.f2 hv (yM hp ht);have w1:wr ((p.length:Int)-1)=(p.length:Int)-1:=cd (by omega);have n0:¬(p.length:Int)=0:=by omega
 have hb:fU t 0 ((p.length:Int)-1)=true:=by rw[bd];omega
 have hvv:(vs.all isVal&&decide ((vs.length:Int)=8))=true:=by rw[v1,decide_eq_true (by omega)];rfl
 have r1: -(p.length:Int)<Int.tmod e (p.length:Int)∧Int.tmod e (p.length:Int)<(p.length:Int):=by
  refine⟨?_,Int.tmod_lt_of_pos _ (by omega)⟩;have:=Int.tmod_lt_of_pos (-e) (show 0<(p.length:Int) by omega);rw[Int.neg_tmod]at this;omega
 have w2:wr (Int.tmod e (p.length:Int)+(p.length:Int))=Int.tmod e (p.length:Int)+(p.length:Int):=cd (by omega);generalize hr:Int.tmod e (p.length:Int)=r at r1 w2
 have hv2:Int.tmod (r+(p.length:Int)) (p.length:Int)=if r<0 then r+(p.length:Int)else r:=by
  rw[Int.tmod_eq_emod_of_nonneg (by omega)];split
  ·exact Int.emod_eq_of_lt (by omega) (by omega)
  ·rw[Int.add_emod_right];exact Int.emod_eq_of_lt (by omega) (by omega)
 have hv3:0≤(if r<0 then r+(p.length:Int)else r)∧(if r<0 then r+(p.length:Int)else r)<(p.length:Int):=by
  by_cases q:r<0
  ·rw[if_pos q];omega
  ·rw[if_neg q];omega
 refine⟨if r<0 then r+(p.length:Int)else r,?_,?_,hv3⟩
 ·simp only[dM.f,dM.begin,Tr.ah,Tr.ag,Tr.al,Tr.gL,Tr.aj,fQ.told,fQ.f,fQ.begin,dm.told,mA p hl hs,hp,af,aK.told,dt,w1,hb,fz.told,pH vs (by omega),hvv,Bool.not_true,Bool.false_eq_true,↓reduceIte,ht,and_self,cr.told,ee,ne_eq,n0,not_false_eq_true,hr,w2,hv2]
 ·by_cases q:r<0
  ·simp only[dU.f,dU.begin,Tr.al,Tr.bf,Tr.ah,Tr.ag,Tr.aj,ht,and_self,↓reduceIte,cw.told,es,af,ne_eq,n0,not_false_eq_true,hr,w2,q,decide_true,↓reduceIte]
  ·simp only[dU.f,dU.begin,Tr.al,Tr.bf,Tr.ah,Tr.ag,Tr.aj,ht,and_self,↓reduceIte,cw.told,es,af,ne_eq,n0,not_false_eq_true,hr,q,decide_false,Bool.false_eq_true,↓reduceIte]
set_option maxHeartbeats 4000000 in
theorem uq {p:List az} {m:List Int} (rd:List Int) (at_:Int) (hp:tg p=true) (hl:p.length≤6) (hs:∀t∈p,t.f0.length≤1048576) (hm:Clean p.length m):∃o u,dF.f p m rd at_=some (o,u)∧Dj p.length m o u∧eD.f p m rd at_=some (o,u):=by
 obtain⟨t,tl,hu,hb,hr⟩:=hm.base;have htn:(0:Int)≤t∧t<(p.length:Int):=⟨hb.t0.1,hb.t0.2.1⟩;obtain⟨c1,c2⟩:=BP hp htn;obtain⟨mi,ms,em,ems,hmi,hms,hmm⟩:=yb (cy p t).f0 (cy p t).f1.f0 (cy p t).f1.f1 (cy p t).f1.f2 (by omega) c1 (yM hp htn);obtain⟨_,_,_,_,_,_,_,_,_,h8,_⟩:=ku hm.1;have hm49:=hb.len;have hmv:fh.f m=some (m.take 8):=by rw[uh,if_pos hm49]
 have hsv:fg.f m=some (m.take 8):=by rw[ui,if_pos hm49]
 have hT:TI p.length t tl m 0 [] [] 0 [] [false,false,false,false,false,false,false,false] (m.take 8):=⟨⟨by simp,fun k=>by rw[List.take_nil];exact hr.gD hb⟩,hr,by simp,by simp,by simp,by omega,by simp,nc.mpr ⟨h8,by rw[List.length_take];omega⟩⟩
 have hS0:Sy mi ms [] [false,false,false,false,false,false,false,false]:=⟨hmm,fun k hk _=>⟨fun h=>(by
  rcases(show k=0∨k=1∨k=2∨k=3∨k=4∨k=5∨k=6∨k=7 by omega)with rfl | rfl | rfl | rfl | rfl | rfl | rfl | rfl<;>cases h),fun h=>(by simp at h)⟩⟩
 obtain⟨o1,u1,sn1,lg1,f0,f1,f2,f3,f4,f5,f6,f7,vs1,se1,e1,t1,s1,hse⟩:=Bq hb (cy p t).f0 mi ms rd at_ [] [] 0 [] false false false false false false false false (m.take 8) [] c1 hmi hms hT hS0 rfl;have e2:=jI 1 o1 u1 t tl sn1 lg1 f0 f1 f2 f3 f4 f5 f6 f7 vs1 (by have:=t1.mG;omega);have s2:=ll 1 vs1 se1 u1 [] rd at_ true o1 ms lg1 t tl (by have:=t1.mG;omega);have t2:=t1.work hb (c:=1) (by omega);obtain⟨nt,e3,s3,nt0,nt1⟩:=wh hp (by omega) hs t1.A1 htn;have hsn:=t1.run.s0;have hsB:=t1.A6;have htl:=hb.Ec;have w1:wr (tl+sn1)=tl+sn1:=cd (by omega);have e4:=gl 8 (pack nt 0 (if tl+sn1<24 then tl+sn1 else 24)) (o1++[(⟨1,-1,0⟩:aO)]) u1 t tl sn1 lg1 f0 f1 f2 f3 f4 f5 f6 f7 vs1 (by have:=t2.mG;omega);have s4:=il 8 (pack nt 0 (if tl+sn1<24 then tl+sn1 else 24)) vs1 se1 u1 [] rd at_ true (o1++[(⟨1,-1,0⟩:aO)]) ms lg1 t tl (by have:=t2.mG;omega);have n1:(0:Int)≤8∧(8:Int)<(m.length:Int):=by omega
 obtain⟨hG,hU⟩:=t2.run.last hb hl ⟨nt0,nt1⟩ (tl':=if tl+sn1<24 then tl+sn1 else 24) rfl
 have hap:dc m ((o1++[(⟨1,-1,0⟩:aO)])++[(⟨3,8,pack nt 0 (if tl+sn1<24 then tl+sn1 else 24)⟩:aO)])=(dc m (o1++[(⟨1,-1,0⟩:aO)])).set 8 (pack nt 0 (if tl+sn1<24 then tl+sn1 else 24)):=by
  rw[iI,nu _ _ _ _ (by omega)];rfl
 have ho:=t2.mG;have hul:=t1.uH;refine⟨(o1++[(⟨1,-1,0⟩:aO)])++[(⟨3,8,pack nt 0 (if tl+sn1<24 then tl+sn1 else 24)⟩:aO)],u1,?_,⟨t2.safe.snoc ⟨by show(0:Int)≤3∧(3:Int)≤5;omega,by show(-1:Int)≤8∧(8:Int)<49;omega⟩ ?_,?_,t1.used,by omega,?_⟩,?_⟩
 ·simp only[dF.f,dF.begin,Tr.al,Tr.ah,Tr.fq,Tr.bf,Tr.gL,Tr.ai,n1,and_self,↓reduceIte,bm.told,iy,hu,af,fh.told,hmv,htn,dS.told,em,cb.told,e1,cg.told,e2,dM.told,e3,bq.told,iM,w1,aX.told,e4,cB];rw[aB];simp only[dF.tree,Tr.aj]
 ·have:=hG;rw[nu _ _ _ _ (by omega)];exact this
 ·rw[List.length_append,List.length_singleton];omega
 ·rw[hap];exact⟨hG.1,by rw[hU]⟩
 ·have fit:((List.length ([]:List Int):Int)+(u1.length:Int))*(8:Nat)≤room:=by unfold room;simp;omega
  simp only[eD.f,eD.begin,Tr.al,Tr.ah,Tr.fq,Tr.bf,Tr.gL,Tr.ai,n1,and_self,↓reduceIte,bk.told,iv,hu,af,fg.told,hsv,htn,dq.told,ems,aq.told,s1,ez.told,s2,dU.told,s3,bz.told,iN,hse,w1,bX.told,s4,cB];rw[aB];simp only[eD.tree,Tr.fq,Tr.bf,Tr.al,Tr.aj,fit,↓reduceIte,List.nil_append,cB]
theorem mE {p:List az} (h:tg p=true):p.length≤6∧1≤p.length∧∀t∈p,t.f0.length≤1048576:=by
 have h':=h;unfold tg at h';rw[Bool.and_eq_true,List.all_eq_true,bd]at h';refine⟨by omega,by omega,fun t ht=> ?_⟩;have:=h'.1 t ht;unfold CD at this;rw[Bool.and_eq_true]at this;have:=(jX _ _ _ this.1).2.2;omega
theorem gI (c:Int) (m:List Int) (a:Int) (us:List (List Int)) (left:Int) (hc:0≤c) (hl:0≤left) (hb:left≤9223372036854775807):aW.f c m a us left=some (if left<c then(false,m,a,us,left)else(true,m,a,us,left-c)):=by
 by_cases q:left<c
 ·simp only[aW.f,aW.begin,Tr.ag,Tr.aj,decide_eq_true q,q,decide_true,↓reduceIte]
 ·have w:wr (left-c)=left-c:=cd (by omega);simp only[aW.f,aW.begin,Tr.ag,Tr.aj,decide_eq_false q,q,w,decide_false,Bool.false_eq_true,↓reduceIte]
theorem sy (m:List Int):∀(i:Nat) (acc:List fY),(∀j,j<i→jb m j=true)→(∀w∈acc,(0≤w.f0∧w.f0≤7)∧isVal w.f1=true)→∃l,qK m i acc=some l∧∀w∈l,(0≤w.f0∧w.f0≤7)∧isVal w.f1=true
 | 0,acc,_,ha=>⟨acc,rfl,ha⟩
 | i+1,acc,h,ha=>by
   have hp:=h i (by omega);unfold jb at hp;rw[Bool.and_eq_true]at hp
   obtain⟨l,e,hl⟩:=sy m i (acc++[(⟨dz m (9+2*(i:Int)),dz m (9+2*(i:Int)+1)⟩:fY)]) (fun j hj=>h j (by omega)) (fun w hw=>by
    rcases List.mem_append.mp hw with hw | hw
    ·exact ha w hw
    ·rw[List.mem_singleton]at hw;rw[hw];exact⟨bd.mp hp.1,hp.2⟩)
   refine⟨l,?_,hl⟩;unfold qK;rw[if_pos hp.1];exact e
structure xx (M m:List Int):Prop where
 len:m.length=49
 rest:∀i:Nat,8≤i→m.getD i 0=M.getD i 0
 var:∀i:Nat,i<8→isVal (m.getD i 0)=true
theorem xb {m:List Int} (hm:m.length=49) (h:∀i:Nat,i<8→isVal (m.getD i 0)=true):(m.take 8).all isVal=true:=by
 rw[List.all_eq_true];intro x hx;obtain⟨i,hi,rfl⟩:=List.mem_iff_getElem.mp hx;rw[List.length_take]at hi;have:=h i (by omega);rw[List.getD_eq_getElem?_getD,List.getElem?_eq_getElem (by omega)]at this;rw[List.getElem_take];exact this
theorem xx.gD {n:Nat} {M m:List Int} (hM:jm n M=true) (h:xx M m):jh n M m:=by
 obtain⟨t,c,tl,hu,hc,hm,ht,hcc,htl,h8,hs,hl,hw⟩:=ku hM
 have e8:dz m 8=dz M 8:=by
  have:=h.rest 8 (by omega);rw[show(8:Int)=((8:Nat):Int)from rfl,mz,mz];exact this
 have hu':unpack (dz m 8)=(t,c,tl):=by rw[e8,hu]
 refine⟨oG h.len hu' ⟨ht.1,ht.2.1⟩ (xb h.len h.var) ?_ ?_,?_⟩
 ·rw[mU (tl:=tl) (by rw[hu']) htl.1];exact tT (fun i hi=>by rw[h.rest _ (by omega)];exact hs i hi)
 ·rw[List.all_eq_true];intro i hi;rw[List.mem_range]at hi;have:=hl i (by omega);rw[l9]at this⊢;rw[h.rest _ (by omega),h.rest _ (by omega)];exact this
 ·rw[jM h.len hu' htl.1,hw,xQ h.len hm (fun i _=>h.rest _ (by omega))];exact List.prefix_rfl
theorem xx.set {M m:List Int} (h:xx M m) {j:Nat} {v:Int} (hj:j<8) (hv:isVal v=true):xx M (m.set j v) where
 len:=by rw[List.length_set];exact h.len
 rest:=fun i hi=>by have:=h.len;rw[fO (by omega),if_neg (by omega)];exact h.rest i hi
 var:=fun i hi=>by
  have:=h.len;rw[fO (by omega)];split
  ·exact hv
  ·exact h.var i hi
theorem xx.last {n:Nat} {M m:List Int} (hM:jm n M=true) (h:xx M m) {t c tl:Int} (hu:unpack (dz M 8)=(t,c,tl)):jh n M (m.set 8 (pack t 0 tl))∧Clean n (m.set 8 (pack t 0 tl)):=by
 obtain⟨t',c',tl',hu',hc,hm,ht,hcc,htl,h8,hs,hl,hw⟩:=ku hM;rw[hu]at hu';obtain⟨rfl,rfl,rfl⟩:t=t'∧c=c'∧tl=tl':=⟨congrArg Prod.fst hu',congrArg (fun x=>x.2.1) hu',congrArg (fun x=>x.2.2) hu'⟩;have hlen:=h.len;have hg:∀i:Nat,i≠8→(m.set 8 (pack t 0 tl)).getD i 0=m.getD i 0:=fun i hi=>by rw[fO (by omega),if_neg hi]
 have hl':(m.set 8 (pack t 0 tl)).length=49:=by rw[List.length_set];exact hlen
 have hu2:unpack (dz (m.set 8 (pack t 0 tl)) 8)=(t,0,tl):=by rw[show dz (m.set 8 (pack t 0 tl)) 8=pack t 0 tl from xO (by omega) rfl];exact l3 (by omega) (by omega) (by omega)
 have ho:jm n (m.set 8 (pack t 0 tl))=true:=by
  refine oG hl' hu2 ⟨ht.1,ht.2.1⟩ (xb hl' (fun i hi=>by rw[hg i (by omega)];exact h.var i hi)) ?_ rfl;rw[mU (tl:=tl) (by rw[hu2]) htl.1];exact tT (fun i hi=>by rw[hg _ (by omega),h.rest _ (by omega)];exact hs i hi)
 refine⟨⟨ho,?_⟩,ho,by rw[hu2]⟩;rw[jM hl' hu2 htl.1,hw,xQ hl' hm (fun i _=>by rw[hg _ (by omega)];exact h.rest _ (by omega))];exact List.prefix_rfl
theorem ox {n:Nat} {m:List Int} (hm:jm n m=true) (a:Int) (us:List (List Int)) (left:Int) (h0:0≤left) (hb:left≤1000000000):
 ∃b m' left',aP.f m a us left=some (b,m',a,us,left')∧jh n m m'∧(0≤left'∧left'≤left)∧(b=true→Clean n m'):=by
 obtain⟨t,c,tl,hu,hc,h49,ht,hcc,htl,h8,hs,hl,hw⟩:=ku hm;have hI:xx m m:=⟨h49,fun _ _=>rfl,fun i hi=>vx h49 h8 i hi⟩;simp only[aP.f,aP.begin,Tr.ah,Tr.ai,bn.told,kg,af];have hrec:k7 m=if c<1 then[]else rT m (qK m c.toNat []):=by unfold k7;rw[if_pos h49,hu]
 by_cases q1:c<1
 ·rw[hrec,if_pos q1,aB];simp only[aP.tree,Tr.ag,Tr.aj,List.length_nil,dv,show decide ((0:Int)<((0:Nat):Int))=false from rfl,Bool.false_eq_true,↓reduceIte];exact⟨_,_,_,rfl,hI.gD hm,by omega,fun _=>⟨hm,by rw[hu];show c=0;omega⟩⟩
 ·obtain⟨l,el,hlv⟩:=sy m c.toNat [] (fun j hj=>hl j (by omega)) (by simp);have hrl:k7 m=l++[(⟨8,pack t 0 tl⟩:fY)]:=by rw[hrec,if_neg q1,el,rT,hu]
  have hlen:=uR m;generalize k7 m=W at hrl hlen;have hWl:W.length=l.length+1:=by rw[hrl,List.length_append,List.length_singleton]
  have key:=upto W.length (fun j (s:List Int×Int)=>(j≤l.length→xx m s.1)∧(j=l.length+1→Clean n s.1)∧jh n m s.1∧0≤s.2∧s.2≤left) (fun j s=>lp aP.tree (.c2 W (W.length:Int) (j:Int) s.1 a us s.2)) (fun r=>∃b m' left',r=(b,m',a,us,left')∧jh n m m'∧(0≤left'∧left'≤left)∧(b=true→Clean n m')) (fun j hj s hs=>by
   obtain⟨s1,s2⟩:=s;obtain⟨hR,hC,hG,hl0,hl1⟩:=hs;simp only at hR hC hG hl0 hl1;rw[aB]
   by_cases q:j<W.length
   ·have hRj:=hR (by omega);have esp:=gI 3 s1 a us s2 (by omega) hl0 (by omega)
    by_cases q3:s2<3
    ·rw[if_pos q3]at esp;refine Or.inl ⟨(false,s1,a,us,s2),?_,_,_,_,rfl,hG,⟨hl0,hl1⟩,fun h=>by cases h⟩;simp only[aP.tree,Tr.ag,Tr.al,Tr.ah,Tr.aj,bh q,bW q,and_self,decide_true,↓reduceIte,aW.told,esp,af,Bool.not_false]
    ·rw[if_neg q3]at esp
     have hjj:(0:Int)≤W[j].f0∧W[j].f0<(s1.length:Int)∧(j<l.length→W[j].f0≤7∧isVal W[j].f1=true)∧(j=l.length→W[j]=(⟨8,pack t 0 tl⟩:fY)):=by
      have:=hRj.len
      by_cases qj:j<l.length
      ·have e:W[j]=l[j]:=by
        have:W[j]? =some l[j]:=by rw[hrl,List.getElem?_append_left qj,List.getElem?_eq_getElem qj]
        rw[List.getElem?_eq_getElem q]at this;exact Option.some.inj this
       have hv:=hlv l[j] (List.getElem_mem qj);rw[e];exact⟨hv.1.1,by omega,fun _=>⟨hv.1.2,hv.2⟩,fun h=>absurd h (by omega)⟩
      ·have e:W[j]=(⟨8,pack t 0 tl⟩:fY):=by
        have:W[j]? =some (⟨8,pack t 0 tl⟩:fY):=by rw[hrl,List.getElem?_append_right (by omega),show j-l.length=0 by omega];rfl
        rw[List.getElem?_eq_getElem q]at this;exact Option.some.inj this
       rw[e];exact⟨by show(0:Int)≤8;omega,by show(8:Int)<_;omega,fun h=>absurd h (by omega),fun _=>rfl⟩
     obtain⟨p0,p1,p2,p3⟩:=hjj;refine Or.inr ⟨q,(s1.set W[j].f0.toNat W[j].f1,s2-3),?_,?_,?_,?_,by show 0≤s2-3;omega,by show s2-3≤left;omega⟩
     ·simp only[aP.tree,Tr.ag,Tr.al,Tr.ah,Tr.bf,Tr.ai,bh q,bW q,aU q,and_self,decide_true,↓reduceIte,aW.told,esp,af,Bool.not_true,Bool.false_eq_true,p0,p1,aN (show j<4611686018427387904 by omega)]
     ·intro hj1;have:=p2 (by omega);exact hRj.set (by omega) this.2
     ·intro hj1;have e:=p3 (by omega);simp only[e];exact(hRj.last hm hu).2
     ·by_cases qj:j<l.length
      ·exact(hRj.set (by have:=(p2 qj).1;omega) (p2 qj).2).gD hm
      ·have e:=p3 (by omega);simp only[e];exact(hRj.last hm hu).1
   ·refine Or.inl ⟨(true,s1,a,us,s2),?_,_,_,_,rfl,hG,⟨hl0,hl1⟩,fun _=>hC (by omega)⟩;obtain rfl:j=W.length:=by omega
    simp only[aP.tree,Tr.ag,Tr.aj,dv,Bool.false_eq_true,↓reduceIte]) 0 (by omega) (m,left) ⟨fun _=>hI,fun h=>absurd h (by omega),hI.gD hm,h0,Int.le_refl _⟩
  obtain⟨r,e,b,m',left',rfl,h⟩:=key;exact⟨b,m',left',e,h⟩
theorem jh.trans {n:Nat} {a b c:List Int} (h:jh n a b) (g:jh n b c):jh n a c:=⟨g.1,h.2.trans g.2⟩
theorem qJ {p:List az} {m:List Int} (rd:List Int) (a:Int) (us:List (List Int)) (left:Int) (hp:tg p=true) (hl:p.length≤6) (hs:∀t∈p,t.f0.length≤1048576) (hm:Clean p.length m)
 (ha:0≤a∧a≤1000000000) (hu:us.length≤10000) (h0:0≤left∧left≤1000000000):
 ∃b m' a' us' left',aY.f p rd m a us left=some (b,m',a',us',left')∧jh p.length m m'∧(0≤left'∧left'≤left)∧(a≤a'∧a'-a≤left-left')∧(b=false→us'=us)∧
  (b=true→Clean p.length m'∧∃u,us'=us++[u]∧u.length≤20000∧∀x∈u,isVal x=true):=by
 obtain⟨o,u,eo,ho,_⟩:=uq (m:=m) rd a hp hl hs hm;have holen:=ho.mG;have hm49:∀k,(dc m (o.take k)).length=49:=fun k=>(gj (ho.safe.2 k).1).1
 have key:=upto o.length (fun j (s:Int×Int)=>(a≤s.1∧s.1-a≤left-s.2)∧(0≤s.2∧s.2≤left)) (fun j s=>lp aY.tree (.c3 o u (o.length:Int) (j:Int) (dc m (o.take j)) s.1 us s.2)) (fun r=>∃b m' a' us' left',r=(b,m',a',us',left')∧jh p.length m m'∧(0≤left'∧left'≤left)∧(a≤a'∧a'-a≤left-left')∧(b=false→us'=us)∧(b=true→Clean p.length m'∧∃u,us'=us++[u]∧u.length≤20000∧∀x∈u,isVal x=true)) (fun j hj s hs=>by
  obtain⟨s1,s2⟩:=s;obtain⟨hA,hL⟩:=hs;simp only at hA hL;rw[aB]
  by_cases q:j<o.length
  ·obtain⟨⟨k0,k1⟩,k2,k3⟩:=ho.safe.1 o[j] (List.getElem_mem q);have esp:=gI o[j].f0 (dc m (o.take j)) s1 us s2 k0 hL.1 (by omega)
   by_cases q3:s2<o[j].f0
   ·rw[if_pos q3]at esp;refine Or.inl ⟨(false,dc m (o.take j),s1,us,s2),?_,_,_,_,_,_,rfl,ho.safe.2 j,hL,hA,fun _=>rfl,fun h=>by cases h⟩;simp only[aY.tree,Tr.ag,Tr.al,Tr.ah,Tr.aj,bh q,bW q,aU q,and_self,decide_true,↓reduceIte,aW.told,esp,af,Bool.not_false]
   ·rw[if_neg q3]at esp;have e49:=hm49 j;have hnext:dc m (o.take (j+1))=mw (dc m (o.take j)) o[j]:=by rw[List.take_add_one,List.getElem?_eq_getElem q];exact iI m _ _
    have w1:wr (s1+1)=s1+1:=cd (by omega);have wj:=aN (show j<4611686018427387904 by omega)
    by_cases qn:o[j].f1= -1
    ·have hmw:dc m (o.take (j+1))=dc m (o.take j):=by rw[hnext];unfold mw;rw[if_pos qn]
     by_cases q5:o[j].f0=5
     ·refine Or.inr ⟨q,(s1+1,s2-o[j].f0),?_,by show _∧s1+1-a≤left-(s2-o[j].f0);omega,by show 0≤s2-o[j].f0∧s2-o[j].f0≤left;omega⟩;simp only[hmw,aY.tree,Tr.ag,Tr.al,Tr.ah,Tr.bf,Tr.ai,Tr.aj,bh q,bW q,aU q,and_self,decide_true,↓reduceIte,aW.told,esp,af,Bool.not_true,Bool.false_eq_true,aS.told,aS.f,aS.begin,decide_eq_true qn,decide_eq_true q5,w1,wj]
     ·refine Or.inr ⟨q,(s1,s2-o[j].f0),?_,by show _∧s1-a≤left-(s2-o[j].f0);omega,by show 0≤s2-o[j].f0∧s2-o[j].f0≤left;omega⟩;simp only[hmw,aY.tree,Tr.ag,Tr.al,Tr.ah,Tr.bf,Tr.ai,Tr.aj,bh q,bW q,aU q,and_self,decide_true,↓reduceIte,aW.told,esp,af,Bool.not_true,Bool.false_eq_true,aS.told,aS.f,aS.begin,decide_eq_true qn,decide_eq_false q5,w1,wj]
    ·have hmw:dc m (o.take (j+1))=(dc m (o.take j)).set o[j].f1.toNat o[j].f2:=by rw[hnext];unfold mw;rw[if_neg qn]
     have n1:(0:Int)≤o[j].f1∧o[j].f1<((dc m (o.take j)).length:Int):=by omega
     refine Or.inr ⟨q,(s1,s2-o[j].f0),?_,by show _∧s1-a≤left-(s2-o[j].f0);omega,by show 0≤s2-o[j].f0∧s2-o[j].f0≤left;omega⟩;simp only[hmw,aY.tree,Tr.ag,Tr.al,Tr.ah,Tr.bf,Tr.ai,Tr.aj,bh q,bW q,aU q,and_self,decide_true,↓reduceIte,aW.told,esp,af,Bool.not_true,Bool.not_false,Bool.false_eq_true,aS.told,aS.f,aS.begin,decide_eq_false qn,n1,w1,wj]
  ·obtain rfl:j=o.length:=by omega
   refine Or.inl ⟨(true,dc m (o.take o.length),s1,us++[u],s2),?_,_,_,_,_,_,rfl,ho.safe.2 _,hL,hA,(fun h=>by cases h),fun _=>⟨by rw[List.take_length];exact ho.clean,u,rfl,ho.uH,ho.used⟩⟩;simp only[aY.tree,Tr.ag,Tr.fq,Tr.bf,Tr.al,Tr.aj,dv,Bool.false_eq_true,↓reduceIte,dR us u 1048576 (by omega) (by omega) 24 (by omega),cB]) 0 (by omega) (a,left) ⟨by show a≤a∧a-a≤left-left;omega,by show 0≤left∧left≤left;omega⟩
 obtain⟨r,e,b,m',a',us',left',rfl,h⟩:=key;refine⟨b,m',a',us',left',?_,h⟩;simp only[aY.f,aY.begin,Tr.fq,Tr.ah,Tr.bf,Tr.ai,dF.told,eo,af,cB];exact e
def As (us:List (List Int)):Prop:=us.length≤10∧∀u∈us,u.length≤20000∧∀x∈u,isVal x=true
theorem uU (b:List Int):iE.f b=some (decide ((b.length:Int)>1048576)):=rfl
theorem re {a b:List Int} (h:a<+:b):qU a b=true:=by
 unfold qU;rw[decide_eq_true h.length_le,decide_eq_true (List.prefix_iff_eq_take.mp h)];rfl
theorem vl (x b:Int) (hb:0≤b):∃c:Int,db.f x 0 b=some c∧0≤c∧c≤b∧(c≤x∨c=0):=by
 simp only[db.f,db.begin,Tr.ag,Tr.aj,decide_eq_true_eq];rw[if_neg (by omega)];refine⟨_,rfl,?_⟩
 by_cases h1:(0:Int)>x
 ·simp only[h1,↓reduceIte]
  by_cases h2:b<0
  ·omega
  ·simp only[h2,↓reduceIte];exact⟨Int.le_refl 0,hb,Or.inr trivial⟩
 ·simp only[h1,↓reduceIte]
  by_cases h2:b<x
  ·simp only[h2,↓reduceIte];omega
  ·simp only[h2,↓reduceIte];omega
theorem A8 {a b:List Int}:qU a b=true↔a<+:b:=by
 refine⟨fun h=> ?_,re⟩;unfold qU at h;rw[Bool.and_eq_true,decide_eq_true_eq,decide_eq_true_eq]at h;rw[List.prefix_iff_eq_take];exact h.2
theorem gS {p:List az} {m r:List Int} {a3 a4 a5 a6 a7 a8 a9 a10:Int} {h:List Int} {a12:Int}:gW p m r a3 a4 a5 a6 a7 a8 a9 a10 h a12=true↔
 tg p=true∧jm p.length m=true∧gQ a4 a5 a6 a7=true∧r.all isVal=true∧(0≤a3∧a3≤400000)∧jG a8 a9=true∧((0≤a10∧a10≤(h.length:Int))∧h<+:cS m)∧(0≤a12∧a12≤100000):=by
 unfold gW kq;simp only[Bool.and_eq_true,bd,A8];exact⟨fun⟨⟨q1,q2⟩,q3,q4,q5,q6,q7,q8⟩=>⟨q1,q2,q3,q4,q5,q6,q7,q8⟩,fun⟨q1,q2,q3,q4,q5,q6,q7,q8⟩=>⟨⟨q1,q2⟩,q3,q4,q5,q6,q7,q8⟩⟩
theorem la {a b c d:Int}:gQ a b c d=true↔(1≤b∧b≤5000)∧(0≤a∧a≤b)∧(1≤c∧c≤b)∧(0≤d∧d≤100):=by
 unfold gQ;simp only[Bool.and_eq_true,bd]
theorem lY {a b:Int}:jG a b=true↔0≤a∧a≤b∧b≤1000000:=by
 unfold jG;simp only[Bool.and_eq_true,decide_eq_true_eq,ge_iff_le]
def b6 (a:Int):Int:=if a+1<1000000 then a+1 else 1000000
theorem wG (a b:Int) (h:jG a b=true):fL.f a b 1=some (b6 a,b6 b):=by
 obtain⟨h0,h1,h2⟩:=lY.mp h;have w1:wr (a+1)=a+1:=cd (by omega);have w2:wr (b+1)=b+1:=cd (by omega);have h11:jG 1 1=true:=rfl;simp only[fL.f,fL.begin,fP.told,fP.f,fP.begin,Tr.ah,Tr.ag,Tr.aj,fb.told,pL,h,h11,af,Bool.not_true,Bool.false_eq_true,↓reduceIte,w1,w2,b6]
theorem wc {a b:Int} (h:jG a b=true):jG (b6 a) (b6 b)=true:=by
 rw[lY]at h⊢;unfold b6;split<;>split<;>omega
structure Eu (p:List az) (m:List Int) (a3 a4 a5 a6 a7 a8 a9 a12:Int) (m':List Int) (b3 b4 b8 b9 b12:Int):Prop where
 gD:jh p.length m m'
 at_:a3≤b3∧b3≤a3+5000
 store:gQ b4 a5 a6 a7=true
 low:b8=b6 a8
 high:b9=b6 a9
 done:a12≤b12∧b12≤a12+10
theorem sx {b:List Int} {i:Int} (h:Int) (c:lP b i):∃x y z w i' h',eY.f b i h=some (x,y,z,w,b,i',h')∧gQ x y z w=true∧lP b i':=by
 obtain⟨x1,i1,j1,e1,a1,b1,c1⟩:=bp 400 h (by omega) c;obtain⟨x2,i2,j2,e2,a2,b2,c2⟩:=bp 4 j1 (by omega) c1;have w1:wr (20+x1)=20+x1:=cd (by omega);have w2:wr (20+x1+1)=20+x1+1:=cd (by omega);obtain⟨x3,i3,j3,e3,a3,b3,c3⟩:=bp (20+x1+1) j2 (by omega) c2;obtain⟨x4,i4,j4,e4,a4,b4,c4⟩:=bp (20+x1) j3 (by omega) c3;have w3:wr (1+x4)=1+x4:=cd (by omega);simp only[eY.f,eY.begin,Tr.ah,Tr.aj,ar.told,e1,e2,w1,w2,e3,e4,w3,af];exact⟨_,_,_,_,_,_,rfl,la.mpr ⟨by omega,by omega,by omega,by omega⟩,c4⟩
theorem BB {l:List Int} {n:Nat} (h:l.all isVal=true) (h8:l.length=8) (hn:1≤n):oQ l=(l++List.replicate 41 0,true)∧jm n (l++List.replicate 41 0)=true∧cS (l++List.replicate 41 0)=[]:=by
 have e1:oQ l=(l++List.replicate 41 0,true):=by
  unfold oQ;rw[h,decide_eq_true (show(l.length:Int)=8 by omega)];rfl
 have hl:(l++List.replicate 41 (0:Int)).length=49:=by rw[List.length_append,List.length_replicate];omega
 have hall:(l++List.replicate 41 (0:Int)).all isVal=true:=by rw[List.all_append,h];rfl
 have h8':dz (l++List.replicate 41 (0:Int)) 8=0:=by
  rw[show(8:Int)=((8:Nat):Int)from rfl,mz,List.getD_eq_getElem?_getD,List.getElem?_append_right (by omega),h8];rfl
 have hu:unpack (dz (l++List.replicate 41 (0:Int)) 8)=(0,0,0):=by
  rw[h8'];have:=l3 (a:=0) (b:=0) (c:=0) (by omega) (by omega) (by omega);exact this
 refine⟨e1,oG hl hu (by omega) (zl _ hall) (BY _ (zl _ hall)) rfl,?_⟩;rw[jM hl hu (by omega)];rfl
def oh:List aO→Int→Nat
 | [],_=>0
 | x::o,left=>if left<x.f0 then 0 else oh o (left-x.f0)+1
def eR (o:List aO):Int:=(o.map fun x=>x.f0).sum
def gh (o:List aO):Int:=((o.filter fun x=>decide (x.f1= -1)&&decide (x.f0=5)).length:Int)
theorem kt (o:List aO) (x:aO):eR (o++[x])=eR o+x.f0:=by unfold eR;simp
theorem sQ (o:List aO) (x:aO):gh (o++[x])=gh o+(if x.f1= -1∧x.f0=5 then 1 else 0):=by
 unfold gh;rw[List.filter_append,List.length_append]
 by_cases h1:x.f1= -1
 ·by_cases h2:x.f0=5
  ·simp[h1,h2]
  ·simp[h1,h2]
 ·simp[h1]
theorem xI:∀(o:List aO) (left:Int),oh o left≤o.length
 | [],_=>Nat.le_refl _
 | x::o,left=>by
   unfold oh;split
   ·omega
   ·have:=xI o (left-x.f0);simp only[List.length_cons];omega
theorem rD:∀(o:List aO) (left:Int) (j:Nat),j<oh o left→∃h:j<o.length,eR (o.take j)+o[j].f0≤left
 | [],left,j,h=>absurd (show j<0 from h) (by omega)
 | x::o,left,j,h=>by
   unfold oh at h;split at h
   ·omega
   ·rename_i q;cases j with
    | zero=>exact⟨by simp,by show eR []+x.f0≤left;unfold eR;simp;omega⟩
    | succ j=>
      obtain⟨h1,h2⟩:=rD o (left-x.f0) j (by omega);refine⟨by simp;omega,?_⟩;show eR (x::o.take j)+o[j].f0≤left;have:eR (x::o.take j)=x.f0+eR (o.take j):=by unfold eR;simp
      omega
theorem vO:∀(o:List aO) (left:Int) (h:oh o left<o.length),left<eR (o.take (oh o left))+o[oh o left].f0
 | [],left,h=>absurd h (by simp)
 | x::o,left,h=>by
   by_cases q:left<x.f0
   ·have e:oh (x::o) left=0:=by unfold oh;rw[if_pos q]
    simp only[e,List.take_zero,List.getElem_cons_zero];unfold eR;simp;omega
   ·have e:oh (x::o) left=oh o (left-x.f0)+1:=by rw[oh,if_neg q]
    have h':oh o (left-x.f0)<o.length:=by rw[e]at h;simpa using h
    have:=vO o (left-x.f0) h';simp only[e,List.take_succ_cons,List.getElem_cons_succ];have:eR (x::o.take (oh o (left-x.f0)))=x.f0+eR (o.take (oh o (left-x.f0))):=by unfold eR;simp
    omega
theorem mD {o:List aO} (h:∀x∈o,pf x) (j:Nat):0≤eR (o.take j):=by
 induction j with
 | zero=>unfold eR;simp
 | succ j ih=>
   by_cases q:j<o.length
   ·rw[im q,kt];have:=(h o[j] (List.getElem_mem q)).1.1;omega
   ·rw[List.take_of_length_le (by omega)];rw[List.take_of_length_le (by omega)]at ih;exact ih
theorem pS (o:List aO):0≤gh o∧gh o≤o.length:=by
 unfold gh;have:=List.length_filter_le (fun x:aO=>decide (x.f1= -1)&&decide (x.f0=5)) o;omega
def nQ (m:List Int) (left:Int):Nat:=min (k7 m).length (left / 3).toNat
theorem CW {n:Nat} {m:List Int} (hm:jm n m=true):∀w∈k7 m,0≤w.f0∧w.f0<49:=by
 obtain⟨t,c,tl,hu,hc,h49,ht,hcc,htl,h8,hs,hl,hw⟩:=ku hm;have hrec:k7 m=if c<1 then[]else rT m (qK m c.toNat []):=by unfold k7;rw[if_pos h49,hu]
 by_cases q1:c<1
 ·rw[hrec,if_pos q1];simp
 ·obtain⟨l,el,hlv⟩:=sy m c.toNat [] (fun j hj=>hl j (by omega)) (by simp);have hrl:k7 m=l++[(⟨8,pack t 0 tl⟩:fY)]:=by rw[hrec,if_neg q1,el,rT,hu]
  intro w hw;rw[hrl]at hw;rcases List.mem_append.mp hw with hw | hw
  ·have:=(hlv w hw).1;omega
  ·rw[List.mem_singleton]at hw;rw[hw];show(0:Int)≤8∧(8:Int)<49;omega
theorem pt {n:Nat} {m:List Int} (hm:jm n m=true) (a:Int) (us:List (List Int)) (left:Int) (h0:0≤left) (hb:left≤1000000000):
 aP.f m a us left=some (decide (nQ m left=(k7 m).length),jZ m ((k7 m).take (nQ m left)),a,us,left-3*(nQ m left:Int)):=by
 have h49:=(gj hm).1;have hin:=CW hm;have hlen:=uR m;have hK:nQ m left=min (k7 m).length (left / 3).toNat:=rfl;generalize nQ m left=k at hK;simp only[aP.f,aP.begin,Tr.ah,Tr.ai,bn.told,kg,af];generalize k7 m=W at hin hlen hK
 have key:∀(n j:Nat),j+n=k→lp aP.tree (.c2 W (W.length:Int) (j:Int) (jZ m (W.take j)) a us (left-3*(j:Int)))=some (decide (k=W.length),jZ m (W.take k),a,us,left-3*(k:Int)):=by
  intro n
  induction n with
  | zero=>
    intro j hj;obtain rfl:j=k:=by omega
    rw[aB]
    by_cases q:j<W.length
    ·have esp:=gI 3 (jZ m (W.take j)) a us (left-3*(j:Int)) (by omega) (by omega) (by omega);rw[if_pos (by omega)]at esp;simp only[aP.tree,Tr.ag,Tr.al,Tr.ah,Tr.aj,bh q,bW q,and_self,decide_true,↓reduceIte,aW.told,esp,af,Bool.not_false,decide_eq_false (show¬j=W.length by omega)]
    ·have e:j=W.length:=by omega
     simp only[aP.tree,Tr.ag,Tr.aj,e,dv,decide_true,Bool.false_eq_true,↓reduceIte]
  | succ n ih=>
    intro j hj;have q:j<W.length:=by omega
    rw[←ih (j+1) (by omega),aB];have esp:=gI 3 (jZ m (W.take j)) a us (left-3*(j:Int)) (by omega) (by omega) (by omega);rw[if_neg (by omega)]at esp;have hw:=hin W[j] (List.getElem_mem q);have hl:(jZ m (W.take j)).length=49:=by rw[uf,h49]
    have n1:(0:Int)≤W[j].f0∧W[j].f0<((jZ m (W.take j)).length:Int):=by omega
    have hnext:jZ m (W.take (j+1))=(jZ m (W.take j)).set W[j].f0.toNat W[j].f1:=by
     rw[im q];unfold jZ;rw[List.foldl_append];show C8 (jZ m (W.take j)) W[j]=_;unfold C8;rw[if_pos (bd.mpr (by omega))];rfl
    have hl3:left-3*(j:Int)-3=left-3*((j+1:Nat):Int):=by omega
    simp only[aP.tree,Tr.ag,Tr.al,Tr.ah,Tr.bf,Tr.ai,bh q,bW q,aU q,and_self,decide_true,↓reduceIte,aW.told,esp,af,Bool.not_true,Bool.false_eq_true,n1,aN (show j<4611686018427387904 by omega),hnext,hl3]
 have:=key k 0 (by omega);simp only[List.take_zero,Int.natCast_zero,Int.mul_zero,Int.sub_zero]at this;exact this
theorem sA {p:List az} {m:List Int} (rd:List Int) (a:Int) (us:List (List Int)) (left:Int) {o:List aO} {u:List Int} (eo:dF.f p m rd a=some (o,u)) (ho:Dj p.length m o u)
 (ha:0≤a∧a≤1000000000) (hu:us.length≤10000) (h0:0≤left∧left≤1000000000):
 aY.f p rd m a us left=some (decide (oh o left=o.length),dc m (o.take (oh o left)),a+gh (o.take (oh o left)),if oh o left=o.length then us++[u]else us,left-eR (o.take (oh o left))):=by
 have holen:=ho.mG;have hm49:∀k,(dc m (o.take k)).length=49:=fun k=>(gj (ho.safe.2 k).1).1;simp only[aY.f,aY.begin,Tr.fq,Tr.ah,Tr.bf,Tr.ai,dF.told,eo,af,cB];have hcb:=rD o left;have hcs:=vO o left;have hcl:=xI o left;generalize oh o left=k at hcb hcs hcl
 have key:∀(n j:Nat),j+n=k→lp aY.tree (.c3 o u (o.length:Int) (j:Int) (dc m (o.take j)) (a+gh (o.take j)) us (left-eR (o.take j)))=some (decide (k=o.length),dc m (o.take k),a+gh (o.take k),if k=o.length then us++[u]else us,left-eR (o.take k)):=by
  intro n
  induction n with
  | zero=>
    intro j hj;obtain rfl:j=k:=by omega
    rw[aB]
    by_cases q:j<o.length
    ·have hc0:=mD ho.safe.1 j
     have hc1:eR (o.take j)≤left:=by
      cases j with
      | zero=>unfold eR;simp;omega
      | succ j'=>
        obtain⟨h1,h2⟩:=hcb j' (by omega);rw[im h1,kt];exact h2
     have esp:=gI o[j].f0 (dc m (o.take j)) (a+gh (o.take j)) us (left-eR (o.take j)) (ho.safe.1 o[j] (List.getElem_mem q)).1.1 (by omega) (by omega);have:=hcs q;rw[if_pos (by omega)]at esp;simp only[aY.tree,Tr.ag,Tr.al,Tr.ah,Tr.aj,bh q,bW q,aU q,and_self,decide_true,↓reduceIte,aW.told,esp,af,Bool.not_false,decide_eq_false (show¬j=o.length by omega),if_neg (show¬j=o.length by omega)]
    ·have e:j=o.length:=by omega
     simp only[aY.tree,Tr.ag,Tr.fq,Tr.bf,Tr.al,Tr.aj,e,dv,Bool.false_eq_true,↓reduceIte,dR us u 1048576 (by omega) (by omega) 24 (by omega),cB,decide_true]
  | succ n ih=>
    intro j hj;obtain⟨q,hbear⟩:=hcb j (by omega);rw[←ih (j+1) (by omega),aB];obtain⟨⟨k0,k1⟩,k2,k3⟩:=ho.safe.1 o[j] (List.getElem_mem q);have hc0:=mD ho.safe.1 j;have hse:=pS (o.take j);rw[List.length_take]at hse;have esp:=gI o[j].f0 (dc m (o.take j)) (a+gh (o.take j)) us (left-eR (o.take j)) k0 (by omega) (by omega);rw[if_neg (by omega)]at esp;have e49:=hm49 j;have hnext:dc m (o.take (j+1))=mw (dc m (o.take j)) o[j]:=by rw[im q];exact iI m _ _
    have hcn:eR (o.take (j+1))=eR (o.take j)+o[j].f0:=by rw[im q,kt]
    have hsn:gh (o.take (j+1))=gh (o.take j)+(if o[j].f1= -1∧o[j].f0=5 then 1 else 0):=by rw[im q,sQ]
    have w1:wr (a+gh (o.take j)+1)=a+gh (o.take j)+1:=cd (by omega);have wj:=aN (show j<4611686018427387904 by omega);have hcc:left-eR (o.take j)-o[j].f0=left-eR (o.take (j+1)):=by omega
    rw[hcc]at esp
    by_cases qn:o[j].f1= -1
    ·have hmw:dc m (o.take (j+1))=dc m (o.take j):=by rw[hnext];unfold mw;rw[if_pos qn]
     by_cases q5:o[j].f0=5
     ·have hs1:a+gh (o.take j)+1=a+gh (o.take (j+1)):=by rw[hsn,if_pos ⟨qn,q5⟩];omega
      rw[hmw,←hs1];simp only[aY.tree,Tr.ag,Tr.al,Tr.ah,Tr.bf,Tr.ai,Tr.aj,bh q,bW q,aU q,and_self,decide_true,↓reduceIte,aW.told,esp,af,Bool.not_true,Bool.false_eq_true,aS.told,aS.f,aS.begin,decide_eq_true qn,decide_eq_true q5,w1,wj]
     ·have hs1:gh (o.take (j+1))=gh (o.take j):=by rw[hsn,if_neg (by omega)];omega
      rw[hmw,hs1];simp only[aY.tree,Tr.ag,Tr.al,Tr.ah,Tr.bf,Tr.ai,Tr.aj,bh q,bW q,aU q,and_self,decide_true,↓reduceIte,aW.told,esp,af,Bool.not_true,Bool.false_eq_true,aS.told,aS.f,aS.begin,decide_eq_true qn,decide_eq_false q5,w1,wj]
    ·have hmw:dc m (o.take (j+1))=(dc m (o.take j)).set o[j].f1.toNat o[j].f2:=by rw[hnext];unfold mw;rw[if_neg qn]
     have n1:(0:Int)≤o[j].f1∧o[j].f1<((dc m (o.take j)).length:Int):=by omega
     have hs1:gh (o.take (j+1))=gh (o.take j):=by rw[hsn,if_neg (by omega)];omega
     rw[hmw,hs1];simp only[aY.tree,Tr.ag,Tr.al,Tr.ah,Tr.bf,Tr.ai,Tr.aj,bh q,bW q,aU q,and_self,decide_true,↓reduceIte,aW.told,esp,af,Bool.not_true,Bool.not_false,Bool.false_eq_true,aS.told,aS.f,aS.begin,decide_eq_false qn,n1,w1,wj]
 have:=key k 0 (by omega);have hz1:gh ([]:List aO)=0:=rfl;have hz2:eR ([]:List aO)=0:=rfl;have hz3:dc m []=m:=rfl;simp only[List.take_zero,hz1,hz2,hz3,Int.add_zero,Int.sub_zero]at this;exact this
theorem vB (x:Int) (h0:0≤x) (h1:x<4294967296):jH .i64 x 4294967295=x:=by
 unfold jH
 have h:(BitVec.ofInt (IntKind.bits .i64) x&&& BitVec.ofInt (IntKind.bits .i64) 4294967295).toNat=x.toNat:=by
  rw[BitVec.toNat_and]
  have e1:(BitVec.ofInt (IntKind.bits .i64) x).toNat=x.toNat:=by
   rw[BitVec.toNat_ofInt,Int.emod_eq_of_lt h0];exact Int.lt_trans h1 (by decide)
  have e2:(BitVec.ofInt (IntKind.bits .i64) 4294967295).toNat=2 ^ 32-1:=by decide
  rw[e1,e2,Nat.and_two_pow_sub_one_eq_mod];exact Nat.mod_eq_of_lt (by omega)
 rw[h,cd (by omega)];omega
theorem uV (x:Int) (h0:0≤x) (h1:x<4294967296):shiftDown .i64 x 32=0:=by
 unfold shiftDown;have e:(2:Int) ^ (min (Int.toNat 32) (IntKind.bits .i64))=4294967296:=by decide
 rw[e,Int.fdiv_eq_ediv_of_nonneg x (by omega)];exact Int.ediv_eq_zero_of_lt h0 h1
theorem vD {o:List aO} (h:∀x∈o,pf x):∀(j:Nat),eR (o.take j)≤5*(j:Int)
 | 0=>by unfold eR;simp
 | j+1=>by
   have ih:=vD h j
   by_cases q:j<o.length
   ·rw[im q,kt];have:=(h o[j] (List.getElem_mem q)).1.2;omega
   ·rw[List.take_of_length_le (by omega)];rw[List.take_of_length_le (by omega)]at ih;omega
theorem qP (o:List aO) (u:List Int) (left:Int) (ho:∀x∈o,pf x) (hol:o.length≤20000) (h0:0≤left∧left≤1000000000):cm.f o u left=some (oh o left:Int):=by
 simp only[cm.f,cm.begin,Tr.ai];have hcb:=rD o left;have hcs:=vO o left;have hcl:=xI o left;generalize oh o left=k at hcb hcs hcl;have q0:decide (left≥0)=true:=decide_eq_true h0.1;have n32:(0:Int)≤32:=by omega
 have zz:wr ((0:Int)+0)=0:=cd (by omega);have hl32:=vB left h0.1 (by omega);have hd32:=uV left h0.1 (by omega)
 have key:∀(n j:Nat),j+n=k→lp cm.tree (.c4 left o u (j:Int) (eR (o.take j)) 0)=some (k:Int):=by
  intro n
  induction n with
  | zero=>
    intro j hj;obtain rfl:j=k:=by omega
    rw[aB]
    by_cases q:j<o.length
    ·have hc0:=mD ho j;have hc5:=vD ho j;have hx:=(ho o[j] (List.getElem_mem q)).1;have hs:=hcs q;have w1:wr (eR (o.take j)+o[j].f0)=eR (o.take j)+o[j].f0:=cd (by omega);have b1:=vB o[j].f0 hx.1 (by omega);have d1:=uV o[j].f0 hx.1 (by omega);have b2:=vB (eR (o.take j)+o[j].f0) (by omega) (by omega);have d2:=uV (eR (o.take j)+o[j].f0) (by omega) (by omega);have v3:decide ((0:Int)>0)=false:=rfl;have v4:decide ((0:Int)=0)=true:=rfl;have v5:decide (eR (o.take j)+o[j].f0>left)=true:=decide_eq_true hs;simp only[cm.tree,Tr.ag,Tr.al,Tr.gL,Tr.aj,bh q,bW q,aU q,q0,n32,and_self,decide_true,↓reduceIte,b1,d1,w1,b2,d2,zz,hl32,hd32,v3,v4,v5,Bool.false_eq_true]
    ·have e:j=o.length:=by omega
     simp only[cm.tree,Tr.ag,Tr.aj,e,dv,Bool.false_eq_true,↓reduceIte]
  | succ n ih=>
    intro j hj;obtain⟨q,hbear⟩:=hcb j (by omega);have hc0:=mD ho j;have hc5:=vD ho j;have hx:=(ho o[j] (List.getElem_mem q)).1;have w1:wr (eR (o.take j)+o[j].f0)=eR (o.take j)+o[j].f0:=cd (by omega);have b1:=vB o[j].f0 hx.1 (by omega);have d1:=uV o[j].f0 hx.1 (by omega);have b2:=vB (eR (o.take j)+o[j].f0) (by omega) (by omega);have d2:=uV (eR (o.take j)+o[j].f0) (by omega) (by omega);have v3:decide ((0:Int)>0)=false:=rfl;have v4:decide ((0:Int)=0)=true:=rfl;have v5:decide (eR (o.take j)+o[j].f0>left)=false:=decide_eq_false (by omega);rw[←ih (j+1) (by omega),aB,show eR (o.take (j+1))=eR (o.take j)+o[j].f0 by rw[im q,kt]];simp only[cm.tree,Tr.ag,Tr.al,Tr.gL,Tr.ai,bh q,bW q,aU q,q0,n32,and_self,decide_true,↓reduceIte,b1,d1,w1,b2,d2,zz,hl32,hd32,v3,v4,v5,Bool.false_eq_true,aN (show j<4611686018427387904 by omega)]
 have:=key k 0 (by omega);have hz:eR ([]:List aO)=0:=rfl;simp only[List.take_zero,hz]at this;exact this
theorem sk (o:List aO) (u:List Int) (k:Nat) (hk:k≤o.length) (hol:o.length≤20000):cA.f o u (k:Int)=some (gh (o.take k)):=by
 simp only[cA.f,cA.begin,Tr.ai]
 have key:∀(n j:Nat),j+n=k→lp cA.tree (.c3 (k:Int) o u (gh (o.take j)) (j:Int))=some (gh (o.take k)):=by
  intro n
  induction n with
  | zero=>
    intro j hj;obtain rfl:j=k:=by omega
    rw[aB];simp only[cA.tree,Tr.ag,Tr.aj,dv,Bool.false_eq_true,↓reduceIte]
  | succ n ih=>
    intro j hj;have q:j<o.length:=by omega
    have qk:j<k:=by omega
    have hse:=pS (o.take j);rw[List.length_take]at hse;have w1:wr (gh (o.take j)+1)=gh (o.take j)+1:=cd (by omega);rw[←ih (j+1) (by omega),aB,show gh (o.take (j+1))=gh (o.take j)+(if o[j].f1= -1∧o[j].f0=5 then 1 else 0) by rw[im q,sQ]]
    by_cases qn:o[j].f1= -1
    ·by_cases q5:o[j].f0=5
     ·rw[if_pos ⟨qn,q5⟩];simp only[cA.tree,Tr.ag,Tr.al,Tr.ai,bh qk,bW q,aU q,and_self,decide_true,↓reduceIte,decide_eq_true qn,decide_eq_true q5,w1,aN (show j<4611686018427387904 by omega)]
     ·rw[if_neg (by omega),Int.add_zero];simp only[cA.tree,Tr.ag,Tr.al,Tr.ai,bh qk,bW q,aU q,and_self,decide_true,↓reduceIte,decide_eq_true qn,decide_eq_false q5,Bool.false_eq_true,aN (show j<4611686018427387904 by omega)]
    ·rw[if_neg (by omega),Int.add_zero];simp only[cA.tree,Tr.ag,Tr.al,Tr.ai,bh qk,bW q,aU q,and_self,decide_true,↓reduceIte,decide_eq_false qn,Bool.false_eq_true,aN (show j<4611686018427387904 by omega)]
 have:=key k 0 (by omega);have hz:gh ([]:List aO)=0:=rfl;simp only[List.take_zero,hz]at this;exact this
theorem uX {p:List az} {m:List Int} (rd:List Int) (a:Int) (us:List (List Int)) (left:Int) {o:List aO} {u:List Int} (ho:Dj p.length m o u) (h0:0≤left∧left≤1000000000):
 lp bD.tree (.c12 rd p [] 0 [] 0 m a us left (oh o left:Int) o u 0)=lp bD.tree (.c12 rd p [] 0 [] 0 (dc m (o.take (oh o left))) a us (left-eR (o.take (oh o left))) (oh o left:Int) o u (oh o left:Int)):=by
 have holen:=ho.mG;have hm49:∀k,(dc m (o.take k)).length=49:=fun k=>(gj (ho.safe.2 k).1).1;have hcb:=rD o left;generalize oh o left=k at hcb
 have key:∀(n j:Nat),j+n=k→lp bD.tree (.c12 rd p [] 0 [] 0 (dc m (o.take j)) a us (left-eR (o.take j)) (k:Int) o u (j:Int))=lp bD.tree (.c12 rd p [] 0 [] 0 (dc m (o.take k)) a us (left-eR (o.take k)) (k:Int) o u (k:Int)):=by
  intro n
  induction n with
  | zero=>
    intro j hj;obtain rfl:j=k:=by omega
    rfl
  | succ n ih=>
    intro j hj;obtain⟨q,hbear⟩:=hcb j (by omega);have qk:j<k:=by omega
    obtain⟨⟨k0,k1⟩,k2,k3⟩:=ho.safe.1 o[j] (List.getElem_mem q);have hc0:=mD ho.safe.1 j;have e49:=hm49 j;have hnext:dc m (o.take (j+1))=mw (dc m (o.take j)) o[j]:=by rw[im q];exact iI m _ _
    have hcn:eR (o.take (j+1))=eR (o.take j)+o[j].f0:=by rw[im q,kt]
    have wl:wr (left-eR (o.take j)-o[j].f0)=left-eR (o.take (j+1)):=by
     have:wr (left-eR (o.take j)-o[j].f0)=left-eR (o.take j)-o[j].f0:=cd (by omega);rw[this];omega
    have wj:=aN (show j<4611686018427387904 by omega);rw[←ih (j+1) (by omega),aB]
    by_cases qn:o[j].f1= -1
    ·have hmw:dc m (o.take (j+1))=dc m (o.take j):=by rw[hnext];unfold mw;rw[if_pos qn]
     rw[hmw];simp only[bD.tree,Tr.ag,Tr.al,Tr.bf,Tr.ai,bh qk,bW q,aU q,and_self,decide_true,↓reduceIte,decide_eq_true qn,Bool.not_true,Bool.false_eq_true,wl,wj]
    ·have hmw:dc m (o.take (j+1))=(dc m (o.take j)).set o[j].f1.toNat o[j].f2:=by rw[hnext];unfold mw;rw[if_neg qn]
     have n1:(0:Int)≤o[j].f1∧o[j].f1<((dc m (o.take j)).length:Int):=by omega
     rw[hmw];simp only[bD.tree,Tr.ag,Tr.al,Tr.bf,Tr.ai,bh qk,bW q,aU q,and_self,decide_true,↓reduceIte,decide_eq_false qn,Bool.not_false,n1,wl,wj]
 have:=key k 0 (by omega);have hz2:eR ([]:List aO)=0:=rfl;have hz3:dc m []=m:=rfl;simp only[List.take_zero,hz2,hz3,Int.sub_zero]at this;exact this
theorem A7 {p:List az} {m:List Int} (rd:List Int) (a left:Int) (hp:tg p=true) (hl:p.length≤6) (hs:∀t∈p,t.f0.length≤1048576) (hm:jm p.length m=true) (ha:0≤a∧a≤900000000) (h0:0≤left∧left≤10000000):
 ∃m' a' us left',fG.f p m rd a left=some (m',a',us,left')∧jh p.length m m'∧(0≤left'∧left'≤left)∧(a≤a'∧a'-a≤left-left')∧As us∧bD.f p m rd a left=some (m',a',us,left'):=by
 have h49:=(gj hm).1;obtain⟨b,m1,left1,e1,g1,l1,c1⟩:=ox hm a [] left h0.1 (by omega);have e1':=e1.symm.trans (pt hm a [] left h0.1 (by omega));simp only[Option.some.injEq,Prod.mk.injEq]at e1';obtain⟨hb,hm1,_,_,hl1⟩:=e1';have hW9:=uR m
 have hK:(if left / 3<((k7 m).length:Int)then left / 3 else((k7 m).length:Int))=(nQ m left:Int):=by
  unfold nQ;split<;>omega
 have htd:wr (Int.tdiv left 3)=left / 3:=by rw[Int.tdiv_eq_ediv_of_nonneg h0.1];exact cd (by omega)
 have w3:wr ((nQ m left:Int)*3)=(nQ m left:Int)*3:=cd (by unfold nQ;omega)
 have wl:wr (left-(nQ m left:Int)*3)=left1:=by
  have:wr (left-(nQ m left:Int)*3)=left-(nQ m left:Int)*3:=cd (by unfold nQ;omega);rw[this,hl1];omega
 have ea:=qB m (k7 m) (nQ m left) (by omega) (by omega);rw[←hm1]at ea;have n3:(3:Int)≠0:=by omega
 cases b with
 | false=>
   have hlt:(nQ m left:Int)<((k7 m).length:Int):=by
    have:=of_decide_eq_false hb.symm;unfold nQ at this⊢;omega
   refine⟨m1,a,[],left1,?_,g1,l1,by omega,⟨by simp,by simp⟩,?_⟩
   ·simp only[fG.f,fG.begin,Tr.ah,Tr.ag,Tr.aj,aL.told,eG m (by omega),aP.told,e1,af,Bool.not_false,↓reduceIte]
   ·simp only[bD.f,bD.begin,Tr.ah,Tr.ag,Tr.al,Tr.gL,Tr.aj,ba.told,kn,af,n3,ne_eq,not_false_eq_true,↓reduceIte,htd,hK,bJ.told,ea,decide_eq_true hlt,w3,wl]
 | true=>
   have hge:¬(nQ m left:Int)<((k7 m).length:Int):=by
    have:=of_decide_eq_true hb.symm;omega
   have key:∀(n:Nat) (s1:List Int) (s2:Int) (s3:List (List Int)) (s4:Int),s3.length+n=10→As s3→Clean p.length s1→jh p.length m s1→(a≤s2∧s2-a≤left-s4)→(0≤s4∧s4≤left)→
    ∃m' a' us left',lp fG.tree (.c4 rd p [] 0 [] 0 s1 s2 s3 s4)=some (m',a',us,left')∧jh p.length m m'∧(0≤left'∧left'≤left)∧(a≤a'∧a'-a≤left-left')∧As us∧lp bD.tree (.c8 rd p [] 0 [] 0 s1 s2 s3 s4)=some (m',a',us,left'):=by
    intro n
    induction n with
    | zero=>
      intro s1 s2 s3 s4 hn hU hC hG hA hL;have q':decide ((s3.length:Int)<10)=false:=decide_eq_false (by omega);refine⟨s1,s2,s3,s4,?_,hG,hL,hA,hU,?_⟩
      ·rw[aB];simp only[fG.tree,Tr.ag,Tr.aj,q',Bool.false_eq_true,↓reduceIte]
      ·rw[aB];simp only[bD.tree,Tr.ag,Tr.aj,q',Bool.false_eq_true,↓reduceIte]
    | succ n ih=>
      intro s1 s2 s3 s4 hn hU hC hG hA hL;have q':decide ((s3.length:Int)<10)=true:=decide_eq_true (by omega);obtain⟨o,u,eo,ho,es⟩:=uq rd s2 hp hl hs hC;obtain⟨b2,m2,a2,us2,left2,e2,g2,l2,A2,hf,ht⟩:=qJ rd s2 s3 s4 hp hl hs hC (by omega) (by omega) (by omega);have e2':=e2.symm.trans (sA rd s2 s3 s4 eo ho (by omega) (by omega) (by omega));simp only[Option.some.injEq,Prod.mk.injEq]at e2';obtain⟨hb2,hm2,ha2,hus2,hl2⟩:=e2';have hol:=ho.mG;have hcl:=xI o s4;have ec:=qP o u s4 ho.safe.1 hol ⟨hL.1,by omega⟩;have eb:=uX rd s2 s3 s4 ho ⟨hL.1,by omega⟩;have esn:=sk o u (oh o s4) hcl hol
      have wa:wr (s2+gh (o.take (oh o s4)))=a2:=by
       rw[ha2];have:=pS (o.take (oh o s4));rw[List.length_take]at this;exact cd (by omega)
      have espec:lp bD.tree (.c8 rd p [] 0 [] 0 s1 s2 s3 s4)=if(oh o s4:Int)<(o.length:Int)then some (m2,a2,s3,left2)else lp bD.tree (.c8 rd p [] 0 [] 0 m2 a2 (s3++[u]) left2):=by
       rw[aB];simp only[bD.tree,Tr.ag,Tr.ah,Tr.ai,q',↓reduceIte,eD.told,es,cm.told,ec,af];rw[eb,←hm2,←hl2,aB];simp only[bD.tree,Tr.ag,Tr.bf,Tr.ah,Tr.al,Tr.aj,Tr.ai,dv,Bool.false_eq_true,↓reduceIte,cA.told,esn,af,wa,dR s3 u 1048576 (by omega) (by omega) 24 (by omega),decide_eq_true_eq]
      cases b2 with
      | false=>
        have hlt:(oh o s4:Int)<(o.length:Int):=by
         have:=of_decide_eq_false hb2.symm;omega
        refine⟨m2,a2,us2,left2,?_,hG.trans g2,by omega,by omega,by rw[hf rfl];exact hU,?_⟩
        ·rw[aB];simp only[fG.tree,Tr.ag,Tr.ah,Tr.aj,q',↓reduceIte,aY.told,e2,af,Bool.false_eq_true]
        ·rw[espec,if_pos hlt,hf rfl]
      | true=>
        have heq:=of_decide_eq_true hb2.symm;rw[if_pos heq]at hus2;obtain⟨hC2,u',hus,hul,huv⟩:=ht rfl
        obtain⟨m',a',us',left',r1,r2,r3,r4,r5,r6⟩:=ih m2 a2 us2 left2 (by rw[hus2,List.length_append,List.length_singleton];omega) ⟨by rw[hus2,List.length_append,List.length_singleton];omega,fun v hv=>by
         rw[hus]at hv;rcases List.mem_append.mp hv with hv | hv
         ·exact hU.2 v hv
         ·rw[List.mem_singleton]at hv;rw[hv];exact⟨hul,huv⟩⟩ hC2 (hG.trans g2) (by omega) (by omega)
        refine⟨m',a',us',left',?_,r2,r3,r4,r5,?_⟩
        ·rw[aB];simp only[fG.tree,Tr.ag,Tr.ah,Tr.ai,q',↓reduceIte,aY.told,e2,af];exact r1
        ·rw[espec,if_neg (by omega),←hus2];exact r6
   obtain⟨m',a',us',left',r1,r2,r3,r4,r5,r6⟩:=key 10 m1 a [] left1 rfl ⟨by simp,by simp⟩ (c1 rfl) g1 (by omega) l1;refine⟨m',a',us',left',?_,r2,r3,r4,r5,?_⟩
   ·simp only[fG.f,fG.begin,Tr.ah,Tr.ag,Tr.ai,aL.told,eG m (by omega),aP.told,e1,af,Bool.not_true,Bool.false_eq_true,↓reduceIte];exact r1
   ·simp only[bD.f,bD.begin,Tr.ah,Tr.ag,Tr.al,Tr.gL,Tr.ai,ba.told,kn,af,n3,ne_eq,not_false_eq_true,↓reduceIte,htd,hK,bJ.told,ea,decide_eq_false hge,Bool.false_eq_true,w3,wl];exact r6
theorem zO (x b:Int) (hb:0≤b):∃c:Int,db.f x 0 b=some c∧dB.f x 0 b=some c∧0≤c∧c≤b∧(c≤x∨c=0):=by
 obtain⟨c,e,h0,h1,h2⟩:=vl x b hb;refine⟨c,e,?_,h0,h1,h2⟩;have hb0:¬b<0:=by omega
 rw[←e]
 by_cases q1:x<0
 ·by_cases q2:b<0
  ·omega
  ·simp only[dB.f,dB.begin,db.f,db.begin,Tr.ag,Tr.aj,decide_eq_true_eq,q1,q2,gt_iff_lt,↓reduceIte]
 ·by_cases q2:b<x
  ·simp only[dB.f,dB.begin,db.f,db.begin,Tr.ag,Tr.aj,decide_eq_true_eq,q1,q2,hb0,gt_iff_lt,↓reduceIte]
  ·simp only[dB.f,dB.begin,db.f,db.begin,Tr.ag,Tr.aj,decide_eq_true_eq,q1,q2,hb0,gt_iff_lt,↓reduceIte]
theorem wo (a b:Int) (h:jG a b=true):fH.f a b 1=some (b6 a,b6 b):=by
 obtain⟨h0,h1,h2⟩:=lY.mp h;have w1:wr (a+1)=a+1:=cd (by omega);have w2:wr (b+1)=b+1:=cd (by omega);have h11:fU 1 0 1000000=true:=rfl;simp only[fH.f,fH.begin,gi.told,gi.f,gi.begin,Tr.ah,Tr.ag,Tr.aj,fw.told,pK,aE.told,dG,h,h11,af,Bool.not_true,Bool.false_eq_true,↓reduceIte,w1,w2,b6]
theorem w8 {p:List az} {m r:List Int} {a3 a4 a5 a6 a7 a8 a9 a10:Int} {h:List Int} {a12:Int} (x:Int) (hn:gW p m r a3 a4 a5 a6 a7 a8 a9 a10 h a12=true) (hrr:r.length≤1048576) (hx:0≤x∧x≤1000):
 ∃m' b3 b4 b12,Eu p m a3 a4 a5 a6 a7 a8 a9 a12 m' b3 b4 (b6 a8) (b6 a9) b12∧(b12=a12∨a6≤a4+x)∧
  gW p m' r b3 b4 a5 a6 a7 (b6 a8) (b6 a9) a10 h b12=(fU b3 0 400000&&fU b12 0 100000)∧
  cX.f p m r a3 a4 a5 a6 a7 a8 a9 a10 h a12 x=some (if(fU b3 0 400000&&fU b12 0 100000)=true then(p,m',r,b3,b4,a5,a6,a7,b6 a8,b6 a9,a10,h,b12,true)else(p,m,r,a3,a4,a5,a6,a7,a8,a9,a10,h,a12,false))∧
  dL.f p m r a3 a4 a5 a6 a7 a8 a9 a10 h a12 x=some (if(fU b3 0 400000&&fU b12 0 100000)=true then(p,m',r,b3,b4,a5,a6,a7,b6 a8,b6 a9,a10,h,b12,true)else(p,m,r,a3,a4,a5,a6,a7,a8,a9,a10,h,a12,false)):=by
 obtain⟨hp,hm,hst,hr,ha3,hsp,hlk,ha12⟩:=gS.mp hn;obtain⟨p6,p1,hs⟩:=mE hp;obtain⟨s1,s2,s3,s4⟩:=la.mp hst;have hm49:=(gj hm).1;have hml:m.length≤1048576:=by omega
 have hhl:h.length≤1048576:=Nat.le_trans hlk.2.length_le (gA m _ hml);have w1:wr (a4+x)=a4+x:=cd (by omega);have w2:wr (a4+x-a7)=a4+x-a7:=cd (by omega);obtain⟨c,ec,esc,c0,c1,c2⟩:=zO (a4+x-a7) a5 (by omega);have hxx:fU x 0 1000=true:=by rw[bd];omega
 have hi:dA.f x=some true:=by
  simp only[dA.f,dA.begin,Tr.ah,Tr.aj,aK.told,dt,hxx,af]
 have hnode:∀(m':List Int) (b3 b4 b12:Int),jh p.length m m'→(a3≤b3)→gQ b4 a5 a6 a7=true→a12≤b12→gW p m' r b3 b4 a5 a6 a7 (b6 a8) (b6 a9) a10 h b12=(fU b3 0 400000&&fU b12 0 100000):=by
  intro m' b3 b4 b12 hG h3 hst' h12;rw[Bool.eq_iff_iff,gS,Bool.and_eq_true,bd,bd];exact⟨fun⟨_,_,_,_,q5,_,_,q8⟩=>⟨q5,q8⟩,fun⟨q5,q8⟩=>⟨hp,hG.1,hst',hr,q5,wc hsp,⟨hlk.1,hlk.2.trans hG.2⟩,q8⟩⟩
 have e1:=nE p m r a3 a4 a5 a6 a7 a8 a9 a10 h a12 (by omega) hs hml hrr hhl;have s1':=nX p m r a3 a4 a5 a6 a7 a8 a9 a10 h a12 (by omega) hs hml hrr hhl;have e2:=iB p m r a3 a4 a5 a6 a7 a8 a9 a10 h a12 (by omega) hs hml hrr hhl;have s2':=mr p m r a3 a4 a5 a6 a7 a8 a9 a10 h a12 (by omega) hs hml hrr hhl;rw[hn]at e2 s2'
 have fin':∀(m':List Int) (b3 b4 b12:Int) (y0:List az) (y1 y2:List Int) (y3 y4 y5 y6 y7 y8 y9 y10:Int) (y11:List Int) (y12:Int),jh p.length m m'→(a3≤b3)→gQ b4 a5 a6 a7=true→a12≤b12→
  lp cX.tree (.c9 p m r a3 a4 a5 a6 a7 a8 a9 a10 h a12 y0 y1 y2 y3 y4 y5 y6 y7 y8 y9 y10 y11 y12 p m' r b3 b4 a5 a6 a7 (b6 a8) (b6 a9) a10 h b12)=some (if(fU b3 0 400000&&fU b12 0 100000)=true then(p,m',r,b3,b4,a5,a6,a7,b6 a8,b6 a9,a10,h,b12,true)else(p,m,r,a3,a4,a5,a6,a7,a8,a9,a10,h,a12,false)):=by
  intro m' b3 b4 b12 y0 y1 y2 y3 y4 y5 y6 y7 y8 y9 y10 y11 y12 hG h3 hst' h12;have e3:=iB p m' r b3 b4 a5 a6 a7 (b6 a8) (b6 a9) a10 h b12 (by omega) hs (by have:=(gj hG.1).1;omega) hrr hhl;rw[hnode m' b3 b4 b12 hG h3 hst' h12]at e3;rw[aB];simp only[cX.tree,Tr.ah,Tr.ag,Tr.aj,cJ.told,e3,af,cZ.told,e1];cases(fU b3 0 400000&&fU b12 0 100000)<;>rfl
 have fins:∀(m':List Int) (b3 b4 b12:Int),jh p.length m m'→(a3≤b3)→gQ b4 a5 a6 a7=true→a12≤b12→eM.f p m r a3 a4 a5 a6 a7 a8 a9 a10 h a12 x=some (p,m',r,b3,b4,a5,a6,a7,b6 a8,b6 a9,a10,h,b12)→
  dL.f p m r a3 a4 a5 a6 a7 a8 a9 a10 h a12 x=some (if(fU b3 0 400000&&fU b12 0 100000)=true then(p,m',r,b3,b4,a5,a6,a7,b6 a8,b6 a9,a10,h,b12,true)else(p,m,r,a3,a4,a5,a6,a7,a8,a9,a10,h,a12,false)):=by
  intro m' b3 b4 b12 hG h3 hst' h12 ht;have e3:=mr p m' r b3 b4 a5 a6 a7 (b6 a8) (b6 a9) a10 h b12 (by omega) hs (by have:=(gj hG.1).1;omega) hrr hhl;rw[hnode m' b3 b4 b12 hG h3 hst' h12]at e3;simp only[dL.f,dL.begin,Tr.ah,Tr.ag,Tr.aj,eZ.told,s2',aE.told,dG,hxx,af,Bool.not_true,Bool.false_eq_true,↓reduceIte,eM.told,ht,e3,cV.told,s1'];cases(fU b3 0 400000&&fU b12 0 100000)<;>rfl
 have est:dj.f x p m r a3 a4 a5 a6 a7 a8 a9 a10 h a12=some (p,m,r,a3,c,a5,a6,a7,a8,a9,a10,h,a12):=by
  simp only[dj.f,dj.begin,Tr.bf,Tr.ah,Tr.aj,w1,w2,db.told,ec,af]
 have est':ff.f a4 a5 a6 a7 x=some (c,a5,a6,a7):=by
  simp only[ff.f,ff.begin,Tr.ah,Tr.aj,w1,w2,dB.told,esc,af]
 have epn:=wG a8 a9 hsp;have spn:=wo a8 a9 hsp
 by_cases hc:c≥a6
 ·obtain⟨m',b3,us,left',eb,gb,lb,ab,ub,sb⟩:=A7 (m:=m) r a3 c hp (by omega) hs hm (by omega) (by omega);have hst':gQ 0 a5 a6 a7=true:=la.mpr ⟨s1,by omega,s3,s4⟩;have hul:=ub.1;have w3:wr (a12+(us.length:Int))=a12+(us.length:Int):=cd (by omega);refine⟨m',b3,0,a12+(us.length:Int),⟨gb,by omega,hst',rfl,rfl,by omega⟩,Or.inr (by omega),hnode _ _ _ _ gb (by omega) hst' (by omega),?_,fins m' b3 0 _ gb (by omega) hst' (by omega) ?_⟩
  ·simp only[cX.f,cX.begin,Tr.ah,Tr.ag,Tr.fq,Tr.bf,Tr.ai,Tr.aj,cZ.told,e1,cJ.told,e2,dA.told,hi,dj.told,est,fL.told,epn,af,Bool.not_true,Bool.false_eq_true,↓reduceIte,decide_eq_true hc,fG.told,eb,w3,cB,decide_true];exact fin' m' b3 0 (a12+(us.length:Int)) _ _ _ _ _ _ _ _ _ _ _ _ _ gb (by omega) hst' (by omega)
  ·simp only[eM.f,eM.begin,Tr.ah,Tr.ag,Tr.aj,cV.told,s1',ff.told,est',fH.told,spn,af,decide_eq_true hc,↓reduceIte,bD.told,sb,w3]
 ·have hst':gQ c a5 a6 a7=true:=la.mpr ⟨s1,by omega,s3,s4⟩;have g0:jh p.length m m:=⟨hm,List.prefix_rfl⟩;refine⟨m,a3,c,a12,⟨g0,by omega,hst',rfl,rfl,by omega⟩,Or.inl rfl,hnode _ _ _ _ g0 (by omega) hst' (by omega),?_,fins m a3 c a12 g0 (by omega) hst' (by omega) ?_⟩
  ·simp only[cX.f,cX.begin,Tr.ah,Tr.ag,Tr.fq,Tr.bf,Tr.ai,Tr.aj,cZ.told,e1,cJ.told,e2,dA.told,hi,dj.told,est,fL.told,epn,af,Bool.not_true,Bool.false_eq_true,↓reduceIte,decide_eq_false hc];exact fin' m a3 c a12 _ _ _ _ _ _ _ _ _ _ _ _ _ g0 (by omega) hst' (by omega)
  ·simp only[eM.f,eM.begin,Tr.ah,Tr.ag,Tr.aj,cV.told,s1',ff.told,est',fH.told,spn,af,decide_eq_false hc,Bool.false_eq_true,↓reduceIte]
theorem s9 {s:List Int}:∀(l:List (iw×Bool)) (g:List Int),g<+:s→(∀q∈l,∃i:Nat,q.1.f0=(i:Int)∧s[i]? =some q.1.f1)→g<+:l.foldl iG g∧l.foldl iG g<+:s
 | [],g,hg,_=>⟨List.prefix_rfl,hg⟩
 | q::l,g,hg,hl=>by
   obtain⟨i,hi,hv⟩:=hl q (by simp)
   have h1:g<+:iG g q∧iG g q<+:s:=by
    unfold iG ri;split
    ·split
     ·rename_i ha;split
      ·refine⟨List.prefix_append _ _,?_⟩;have:i=g.length:=by omega
       subst this;obtain⟨t,ht⟩:=hg;subst ht;rw[List.getElem?_append_right (Nat.le_refl _),Nat.sub_self]at hv;cases t with
       | nil=>cases hv
       | cons x t=>
         simp only[List.getElem?_cons_zero]at hv;cases hv;exact⟨t,by simp⟩
      ·exact⟨List.prefix_rfl,hg⟩
     ·exact⟨List.prefix_rfl,hg⟩
    ·exact⟨List.prefix_rfl,hg⟩
   obtain⟨h2,h3⟩:=s9 l (iG g q) h1.2 (fun x hx=>hl x (by simp[hx]));exact⟨h1.1.trans h2,h3⟩
theorem BN (s:List Int) (k:Int):∀q∈lM s k,∃i:Nat,q.f0=(i:Int)∧s[i]? =some q.f1:=by
 intro q hq;unfold lM at hq;split at hq
 ·rename_i hb;rw[bd]at hb;obtain⟨i,hi,rfl⟩:=List.mem_map.mp hq;rw[List.mem_range'_1]at hi;have h:i<s.length:=by omega
  refine⟨i,rfl,?_⟩;show s[i]? =some (dz s (i:Int));rw[List.getElem?_eq_getElem h,show dz s (i:Int)=s[i]from aU h]
 ·simp at hq
theorem A5 (p:List az) (m r:List Int) (a3 a4 a5 a6 a7 a8 a9 a10:Int) (h:List Int) (a12:Int) (k:List Bool) (b:Bool) (hn:gW p m r a3 a4 a5 a6 a7 a8 a9 a10 h a12=true) (hr:r.length≤1048576) (hk:k.length≤1048576):
 ∃x' h',gW p m r a3 a4 a5 a6 a7 a8 a9 x' h' a12=true∧fa.f p m r a3 a4 a5 a6 a7 a8 a9 a10 h a12 k b=some (p,m,r,a3,a4,a5,a6,a7,a8,a9,x',h',a12,true):=by
 obtain⟨hp,hm,hst,hrv,ha3,hsp,hlk,ha12⟩:=gS.mp hn;obtain⟨p6,p1,hs⟩:=mE hp;have hml:m.length≤1048576:=by have:=(gj hm).1;omega
 have hhl:h.length≤1048576:=Nat.le_trans hlk.2.length_le (gA m _ hml);have e:=pE p m r a3 a4 a5 a6 a7 a8 a9 a10 h a12 k b (by omega) hs hml hr hhl hk;have hok:kq m a10 h=true:=by unfold kq;rw[bd.mpr hlk.1,re hlk.2];rfl
 unfold vp at e;rw[if_pos hn]at e;refine⟨_,_,?_,e⟩;unfold kr;rw[if_pos hok];obtain⟨g1,g2⟩:=s9 ((lM (cS m) a10).zip k) h hlk.2 (fun q hq=>BN (cS m) a10 q.1 (List.of_mem_zip hq).1);have hge:=g1.length_le;refine gS.mpr ⟨hp,hm,hst,hrv,ha3,hsp,⟨?_,g2⟩,ha12⟩;show 0≤(if b=true then((kv h (lM (cS m) a10) k).length:Int)else a10)∧(if b=true then((kv h (lM (cS m) a10) k).length:Int)else a10)≤((kv h (lM (cS m) a10) k).length:Int);have:h.length≤(kv h (lM (cS m) a10) k).length:=hge;split<;>omega
theorem tF {b:List Int} {i:Int} (h:Int) (c:lP b i):∃l i' h',dI.f 3 b i h=some (l,b,i',h')∧l.length=3∧lP b i':=by
 simp only[dI.f,dI.begin,Tr.ai]
 have key:=upto 3 (fun k (s:List Bool×Int×Int)=>s.1.length=k∧lP b s.2.1) (fun k s=>lp dI.tree (.c3 3 s.1 (k:Int) b s.2.1 s.2.2)) (fun r=>∃l i' h',r=(l,b,i',h')∧l.length=3∧lP b i') (fun k hk s hs=>by
  obtain⟨s1,s2,s3⟩:=s;obtain⟨hs1,hs2⟩:=hs;simp only at hs1 hs2;rw[aB]
  by_cases q:k<3
  ·have q1:decide ((k:Int)<3)=true:=decide_eq_true (by omega);obtain⟨x,i1,j1,e1,c1⟩:=iq 3 s3 (by omega) hs2;refine Or.inr ⟨q,(s1++[!x],i1,j1),?_,by show(s1++[!x]).length=k+1;rw[List.length_append,List.length_singleton];omega,c1⟩;simp only[dI.tree,Tr.ag,Tr.al,Tr.ah,Tr.ai,q1,↓reduceIte,bF.told,e1,af,dR s1 (!x) 1048576 (by omega) (by omega) 1 (by omega),aN (show k<4611686018427387904 by omega)]
  ·obtain rfl:k=3:=by omega
   refine Or.inl ⟨(s1,b,s2,s3),?_,_,_,_,rfl,hs1,hs2⟩;simp only[dI.tree,Tr.ag,Tr.aj,show decide (((3:Nat):Int)<3)=false from rfl,Bool.false_eq_true,↓reduceIte]) 0 (by omega) ([],i,h) ⟨rfl,c⟩
 obtain⟨r,e,l,i',h',rfl,hl⟩:=key;exact⟨l,i',h',e,hl⟩
theorem s5 (p:List az) (m r:List Int) (a3 a4 a5 a6 a7 a8 a9 a10:Int) (h:List Int) (a12:Int) (k:List Bool) (b:Bool) (hn:gW p m r a3 a4 a5 a6 a7 a8 a9 a10 h a12=true) (hr:r.length≤1048576) (hk:k.length≤1048576):
 ∃x' h',gW p m r a3 a4 a5 a6 a7 a8 a9 x' h' a12=true∧fa.f p m r a3 a4 a5 a6 a7 a8 a9 a10 h a12 k b=some (p,m,r,a3,a4,a5,a6,a7,a8,a9,x',h',a12,true)∧fy.f p m r a3 a4 a5 a6 a7 a8 a9 a10 h a12 k b=some (p,m,r,a3,a4,a5,a6,a7,a8,a9,x',h',a12,true):=by
 obtain⟨hp,hm,hst,hrv,ha3,hsp,hlk,ha12⟩:=gS.mp hn;obtain⟨p6,p1,hs⟩:=mE hp;have hml:m.length≤1048576:=by have:=(gj hm).1;omega
 have hhl:h.length≤1048576:=Nat.le_trans hlk.2.length_le (gA m _ hml);obtain⟨x',h',h1,h2⟩:=A5 p m r a3 a4 a5 a6 a7 a8 a9 a10 h a12 k b hn hr hk;have e:=pE p m r a3 a4 a5 a6 a7 a8 a9 a10 h a12 k b (by omega) hs hml hr hhl hk;have e':=vX p m r a3 a4 a5 a6 a7 a8 a9 a10 h a12 k b (by omega) hs hml hr hhl hk;exact⟨x',h',h1,h2,e'.trans (e.symm.trans h2)⟩
set_option maxHeartbeats 2000000 in
theorem tw {b:List Int} {i:Int} (hh:Int) (c:lP b i):∃p m r a3 a4 a5 a6 a7 a8 a9 a10 h a12 i' h',bw.f b i hh=some (p,m,r,a3,a4,a5,a6,a7,a8,a9,a10,h,a12,b,i',h')∧gW p m r a3 a4 a5 a6 a7 a8 a9 a10 h a12=true∧r.length≤9∧a3≤30000∧a8≤6∧a12≤60:=by
 obtain⟨p,i2,j2,e2,hp,c2⟩:=pT hh c;obtain⟨a4,a5,a6,a7,i5,j5,e5,hst,c5⟩:=sx j2 c2;obtain⟨v,i3,j3,e3,hv,hv8,c3⟩:=tu j5 c5;obtain⟨r,i4,j4,e4,hr,hr1,hr9,c4⟩:=pq j3 c3;obtain⟨m1,m2,m3⟩:=BB (n:=p.length) hv hv8 hp.2.1;obtain⟨p6,p1,hs⟩:=mE hp.1
 have e7:aV.f p v r a4 a5 a6 a7=some (p,v++List.replicate 41 0,r,0,a4,a5,a6,a7,0,0,0,[],0,true):=by
  rw[vo p v r a4 a5 a6 a7 (by omega) hs (by omega) (by omega)];unfold yd;rw[m1,hp.1,hst,hr];rfl
 have hn0:gW p (v++List.replicate 41 0) r 0 a4 a5 a6 a7 0 0 0 [] 0=true:=gS.mpr ⟨hp.1,m2,hst,hr,by omega,rfl,⟨by simp,List.nil_prefix⟩,by omega⟩
 have key:∀(k n:Nat),n+k=6→∀(m:List Int) (a3 a4 a8 a9 a10:Int) (h:List Int) (a12 ci ch:Int),gW p m r a3 a4 a5 a6 a7 a8 a9 a10 h a12=true→a3≤5000*(n:Int)→a8≤(n:Int)→a12≤10*(n:Int)→lP b ci→
  ∃m' b3 b4 b8 b9 b10 h' b12 i' ch',lp bw.tree (.c5 [] [] [] 0 0 0 0 0 0 0 0 [] 0 p m r a3 a4 a5 a6 a7 a8 a9 a10 h a12 (n:Int) b ci ch)=some (p,m',r,b3,b4,a5,a6,a7,b8,b9,b10,h',b12,b,i',ch')∧gW p m' r b3 b4 a5 a6 a7 b8 b9 b10 h' b12=true∧b3≤30000∧b8≤6∧b12≤60:=by
  intro k
  induction k with
  | zero=>
    intro n hn m a3 a4 a8 a9 a10 h a12 ci ch hok h3 h8 h12 hc;obtain⟨x,i1,j1,e1,x0,x1,c1⟩:=bp 6 ch (by omega) hc;have q:decide ((n:Int)<x)=false:=decide_eq_false (by omega);refine⟨m,a3,a4,a8,a9,a10,h,a12,i1,j1,?_,hok,by omega,by omega,by omega⟩;rw[aB];simp only[bw.tree,Tr.ah,Tr.ag,Tr.aj,ar.told,e1,af,q,Bool.false_eq_true,↓reduceIte]
  | succ k ih=>
    intro n hn m a3 a4 a8 a9 a10 h a12 ci ch hok h3 h8 h12 hc;obtain⟨x,i1,j1,e1,x0,x1,c1⟩:=bp 6 ch (by omega) hc
    by_cases q:(n:Int)<x
    ·obtain⟨y,i2,j2,e2,hy,c2⟩:=jF [0,30,200] j1 (fun y=>0≤y∧y≤1000) (by simp) (by simp) c1;obtain⟨m',b3,b4,b12,hT,_,hN,_,e3⟩:=w8 y hok (by omega) hy;have hT3:=hT.at_;have hTd:=hT.done;have v:=gS.mp hok;have ho8:b6 a8=a8+1:=by unfold b6;rw[if_pos (by omega)]
     have hi:(fU b3 0 400000&&fU b12 0 100000)=true:=by rw[Bool.and_eq_true,bd,bd];omega
     rw[hi]at hN e3;rw[if_pos rfl]at e3;obtain⟨z,i3,j3,e4,c3⟩:=iq 3 j2 (by omega) c2;have w:wr ((n:Int)+1)=((n+1:Nat):Int):=aN (by omega);cases z with
     | false=>
       obtain⟨m2,d3,d4,d8,d9,d10,h2,d12,i',ch',ee,r1,r2,r3,r4⟩:=ih (n+1) (by omega) m' b3 b4 (b6 a8) (b6 a9) a10 h b12 i3 j3 hN (by omega) (by omega) (by omega) c3;refine⟨m2,d3,d4,d8,d9,d10,h2,d12,i',ch',?_,r1,r2,r3,r4⟩;rw[aB];simp only[bw.tree,Tr.ah,Tr.ag,Tr.fq,Tr.bf,Tr.ai,ar.told,e1,b7.told,e2,dL.told,e3,bF.told,e4,af,decide_eq_true q,Bool.false_eq_true,↓reduceIte,cB];rw[aB];simp only[bw.tree,Tr.ai,w];exact ee
     | true=>
       obtain⟨kl,i4,j4,e5,hkl,c4⟩:=tF j3 c3;obtain⟨zb,i5,j5,e6,c5⟩:=iq 2 j4 (by omega) c4;obtain⟨x',h',hok',_,e7⟩:=s5 p m' r b3 b4 a5 a6 a7 (b6 a8) (b6 a9) a10 h b12 kl zb hN (by omega) (by omega);obtain⟨m2,d3,d4,d8,d9,d10,h2,d12,i',ch',ee,r1,r2,r3,r4⟩:=ih (n+1) (by omega) m' b3 b4 (b6 a8) (b6 a9) x' h' b12 i5 j5 hok' (by omega) (by omega) (by omega) c5;refine⟨m2,d3,d4,d8,d9,d10,h2,d12,i',ch',?_,r1,r2,r3,r4⟩;rw[aB];simp only[bw.tree,Tr.ah,Tr.ag,Tr.fq,Tr.bf,Tr.ai,ar.told,e1,b7.told,e2,dL.told,e3,bF.told,e4,af,decide_eq_true q,↓reduceIte,cB];rw[aB];simp only[bw.tree,Tr.ah,Tr.fq,Tr.bf,Tr.ai,dI.told,e5,bF.told,e6,fy.told,e7,af,cB];rw[aB];simp only[bw.tree,Tr.ai,w];exact ee
    ·refine⟨m,a3,a4,a8,a9,a10,h,a12,i1,j1,?_,hok,by omega,by omega,by omega⟩;rw[aB];simp only[bw.tree,Tr.ah,Tr.ag,Tr.aj,ar.told,e1,af,decide_eq_false q,Bool.false_eq_true,↓reduceIte]
 obtain⟨m',b3,b4,b8,b9,b10,h',b12,i',ch',ee,r1,r2,r3,r4⟩:=key 6 0 (by omega) (v++List.replicate 41 0) 0 a4 0 0 0 [] 0 i4 j4 hn0 (by omega) (by omega) (by omega) c4;refine⟨p,m',r,b3,b4,a5,a6,a7,b8,b9,b10,h',b12,i',ch',?_,r1,hr9,r2,r3,r4⟩
 have e8:lp bw.tree (.c4 [] [] [] 0 0 0 0 0 0 0 0 [] 0 p (v++List.replicate 41 0) r 0 a4 a5 a6 a7 0 0 0 [] 0 b i4 j4)=some (p,m',r,b3,b4,a5,a6,a7,b8,b9,b10,h',b12,b,i',ch'):=by
  rw[aB];simp only[bw.tree,Tr.ai];exact ee
 have e9:lp bw.tree (.c3 [] [] [] 0 0 0 0 0 0 0 0 [] 0 p a4 a5 a6 a7 b i5 j5)=some (p,m',r,b3,b4,a5,a6,a7,b8,b9,b10,h',b12,b,i',ch'):=by
  rw[aB];simp only[bw.tree,bw.Dd,bw.Dv,bw.Ds,bw.Dp,Tr.ah,Tr.fq,Tr.bf,Tr.ai,bK.told,e3,aI.told,e4,aV.told,e7,af,cB,e8]
 simp only[bw.f,bw.begin,Tr.ah,Tr.ai,cF.told,e2,eY.told,e5,af,e9]
theorem sh (b:List Int) (hb:b.length≤1048576):∃p m r a3 a4 a5 a6 a7 a8 a9 a10 h a12,eX.f b=some (p,m,r,a3,a4,a5,a6,a7,a8,a9,a10,h,a12)∧gW p m r a3 a4 a5 a6 a7 a8 a9 a10 h a12=true∧r.length≤9∧a3≤30000∧a8≤6∧a12≤60:=by
 obtain⟨hh,e1⟩:=nY b hb;obtain⟨p,m,r,a3,a4,a5,a6,a7,a8,a9,a10,h,a12,i',h',e2,hn⟩:=tw (b:=b) (i:=0) hh ⟨hb,by omega⟩;refine⟨p,m,r,a3,a4,a5,a6,a7,a8,a9,a10,h,a12,?_,hn⟩;simp only[eX.f,eX.begin,Tr.ah,Tr.aj,eJ.told,e1,bw.told,e2,af]
set_option maxHeartbeats 2000000 in
theorem FnNodes:cY.Pure:=by
 intro b hb
 by_cases q:(b.length:Int)>1048576
 ·simp only[cY.f,cY.begin,Tr.ah,Tr.ag,Tr.aj,iE.told,uU,af,decide_eq_true q,↓reduceIte]
 ·have hl:b.length≤1048576:=by omega
  obtain⟨p,m,r,a3,a4,a5,a6,a7,a8,a9,a10,h,a12,e1,hn,hr,h3,h8,h12⟩:=sh b hl;obtain⟨pl,e2,hpl,hpv⟩:=qp b hl;have v:=gS.mp hn;obtain⟨p6,p1,hs⟩:=mE v.1
  have hx0:=hpv (dz pl 0) (by
   have:dz pl ((0:Nat):Int)=pl[0]:=aU (by omega);rw[show dz pl 0=pl[0]from this];exact List.getElem_mem _)
  have hx:0≤Int.tmod (dz pl 0) 400∧Int.tmod (dz pl 0) 400≤1000:=by
   rw[Int.tmod_eq_emod_of_nonneg (by omega)];exact⟨Int.emod_nonneg _ (by omega),by have:=Int.emod_lt_of_pos (dz pl 0) (show(0:Int)<400 by omega);omega⟩
  obtain⟨m',b3,b4,b12,hT,_,hN,e3,_⟩:=w8 (Int.tmod (dz pl 0) 400) hn (by omega) hx;have hT3:=hT.at_;have hTd:=hT.done;have ho8:b6 a8=a8+1:=by unfold b6;rw[if_pos (by omega)]
  have hi:(fU b3 0 400000&&fU b12 0 100000)=true:=by rw[Bool.and_eq_true,bd,bd];omega
  rw[hi]at hN e3;rw[if_pos rfl]at e3;obtain⟨x',h',hok',e4,_⟩:=s5 p m' r b3 b4 a5 a6 a7 (b6 a8) (b6 a9) a10 h b12 [true,decide (Int.tmod (dz pl 1) 2=0)] (decide (Int.tmod (dz pl 2) 2=0)) hN (by omega) (by simp);have v':=gS.mp hN;have v2:=gS.mp hok';have hml:m.length≤1048576:=by have:=(gj v.2.1).1;omega
  have hml':m'.length≤1048576:=by have:=(gj v'.2.1).1;omega
  have hhl:h.length≤1048576:=Nat.le_trans v.2.2.2.2.2.2.1.2.length_le (gA m _ hml);have hhl':h'.length≤1048576:=Nat.le_trans v2.2.2.2.2.2.2.1.2.length_le (gA m' _ hml');have i1:=iB p m r a3 a4 a5 a6 a7 a8 a9 a10 h a12 (by omega) hs hml (by omega) hhl;have i2:=iB p m' r b3 b4 a5 a6 a7 (b6 a8) (b6 a9) a10 h b12 (by omega) hs hml' (by omega) hhl;have i3:=iB p m' r b3 b4 a5 a6 a7 (b6 a8) (b6 a9) x' h' b12 (by omega) hs hml' (by omega) hhl';rw[hn]at i1;rw[hN]at i2;rw[hok']at i3;have s1:=mf p m r a3 a4 a5 a6 a7 a8 a9 a10 h a12 (by omega) hs hml (by omega) hhl;have s2:=mf p m' r b3 b4 a5 a6 a7 (b6 a8) (b6 a9) a10 h b12 (by omega) hs hml' (by omega) hhl;have s3:=mf p m' r b3 b4 a5 a6 a7 (b6 a8) (b6 a9) x' h' b12 (by omega) hs hml' (by omega) hhl';rw[show oI p m r a3 a4 a5 a6 a7 a8 a9 a10 h a12=cS m by unfold oI;rw[if_pos hn]]at s1;rw[show oI p m' r b3 b4 a5 a6 a7 (b6 a8) (b6 a9) a10 h b12=cS m' by unfold oI;rw[if_pos hN]]at s2;rw[show oI p m' r b3 b4 a5 a6 a7 (b6 a8) (b6 a9) x' h' b12=cS m' by unfold oI;rw[if_pos hok']]at s3;have hms:=gA m _ hml;have hms':=gA m' _ hml';have f1:=jW (cS m) (cS m') (by omega) (by omega);rw[re hT.gD.2]at f1;have f2:=jW h' (cS m') hhl' (by omega);rw[re v2.2.2.2.2.2.2.1.2]at f2
  have ed:dX.f x' h'=some h':=by
   simp only[dX.f,dX.begin,Tr.ah,Tr.aj,aL.told,eG h' hhl',af]
  have w1:wr (a8+1)=a8+1:=cd (by have:=(lY.mp v.2.2.2.2.2.1);omega);have k1:decide (b6 a8=a8+1)=true:=decide_eq_true ho8;have k2:decide (b12≥a12)=true:=decide_eq_true (by omega);have n400:(400:Int)≠0:=by omega
  have n2:(2:Int)≠0:=by omega
  have np:∀j:Int,0≤j→j<12→(0:Int)≤j∧j<(pl.length:Int):=fun j h0 h1=>by omega
  have e7:lp cY.tree (.c7 p m r a3 a4 a5 a6 a7 a8 a9 a10 h a12 p m' r b3 b4 a5 a6 a7 (b6 a8) (b6 a9) a10 h b12 true p m' r b3 b4 a5 a6 a7 (b6 a8) (b6 a9) x' h' b12 true)=some true:=by
   rw[aB];simp only[cY.tree,Tr.bf,Tr.ah,Tr.ag,Tr.aj,cJ.told,i1,i2,i3,af,↓reduceIte,w1,k1,k2,fA.told,s1,s2,s3,cI.told,f1,f2,dX.told,ed]
  have e6:lp cY.tree (.c6 p m r a3 a4 a5 a6 a7 a8 a9 a10 h a12 pl p m' r b3 b4 a5 a6 a7 (b6 a8) (b6 a9) a10 h b12 true)=some true:=by
   rw[aB];simp only[cY.tree,Tr.ah,Tr.al,Tr.fq,Tr.bf,Tr.ai,np 1 (by omega) (by omega),np 2 (by omega) (by omega),and_self,ne_eq,n2,not_false_eq_true,↓reduceIte,fa.told,e4,af,cB,e7]
  simp only[cY.f,cY.begin,Tr.ah,Tr.ag,Tr.al,Tr.fq,Tr.bf,Tr.aj,Tr.ai,iE.told,uU,af,decide_eq_false q,Bool.false_eq_true,↓reduceIte,eX.told,e1,cG.told,e2,np 0 (by omega) (by omega),np 1 (by omega) (by omega),np 2 (by omega) (by omega),and_self,ne_eq,n400,n2,not_false_eq_true,cX.told,e3,cB,e6]
end Go.Proofs.YtmapddgocpkgeaaGreat.Pure
