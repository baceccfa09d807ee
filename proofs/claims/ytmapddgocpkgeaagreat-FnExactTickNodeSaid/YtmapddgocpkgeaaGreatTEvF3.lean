/- Functions as trees, with their contracts. No conditions. -/
import Derived.Test.YtmapddgocpkgeaaGreatTEvF2
namespace Go.Proofs.YtmapddgocpkgeaaGreat.Ev
open Go.Proofs.YtmapddgocpkgeaaGreat.aa Go.RowKit
set_option linter.unusedVariables false
set_option maxRecDepth 100000
noncomputable section
namespace dE
def S (a0:Int):List (PV U):=aa.start C 5 [.int .i64 a0] []
abbrev X:=Empty
def id:X→Nat:=fun _=>0
def st:X→List (PV U):=fun _=>[]
def begin (a0:Int):Tr X A:=
 .call (aK.told a0 (-8:Int) (999:Int)) fun t1=> .ret t1
def tree:X→Tr X A:=fun _=> .fail
def f (a0:Int):Option A:=(begin a0).run (lp tree)
def Q:aE C:={PL with aU:=[],aT:=[],aQ:=[]}
theorem e:ay Pg C Q Tryz.f225 0 id st v o tree:=fun J K x=>by cases x
theorem b (a0:Int):ax Pg C Q Tryz.f225 0 id st v o (S a0) (begin a0):=fun J K=>by kernel_rfl
def told (a0:Int):aa.Told A:=⟨f a0,fun r=>af Pg C 225 (S a0) 0 (v r) (o r),fun r h=>ae G mixed Q Tryz.func225 rfl (of_decide_eq_true (by kernel_rfl)) (by rfl) id st v o (fun _=>rfl) tree e (begin a0) (b a0) h⟩
end dE
namespace cR
def S (a0 a1 a2:Int):List (PV U):=aa.start C 16 [.agg [.int .i64 a0,.int .i64 a1,.int .i64 a2]] []
abbrev X:=Empty
def id:X→Nat:=fun _=>0
def st:X→List (PV U):=fun _=>[]
def begin (a0 a1 a2:Int):Tr X A:=
 .call (aK.told a0 (1:Int) (7:Int)) fun t1=> .ite t1
  (.call (dE.told a1) fun t2=> .ite t2
   (.call (dE.told a2) fun t3=> .ret t3)
   (.ret false))
  (.ret false)
def tree:X→Tr X A:=fun _=> .fail
def f (a0 a1 a2:Int):Option A:=(begin a0 a1 a2).run (lp tree)
def Q:aE C:={PL with aU:=[],aT:=[],aQ:=[]}
theorem e:ay Pg C Q Tryz.f190 0 id st v o tree:=fun J K x=>by cases x
theorem b (a0 a1 a2:Int):ax Pg C Q Tryz.f190 0 id st v o (S a0 a1 a2) (begin a0 a1 a2):=fun J K=>by kernel_rfl
def told (a0 a1 a2:Int):aa.Told A:=⟨f a0 a1 a2,fun r=>af Pg C 190 (S a0 a1 a2) 0 (v r) (o r),fun r h=>ae G mixed Q Tryz.func190 rfl (of_decide_eq_true (by kernel_rfl)) (by rfl) id st v o (fun _=>rfl) tree e (begin a0 a1 a2) (b a0 a1 a2) h⟩
end cR
namespace bS
def S (a0:Int):List (PV U):=aa.start C 5 [.int .i64 a0] []
abbrev X:=Empty
def id:X→Nat:=fun _=>0
def st:X→List (PV U):=fun _=>[]
def begin (a0:Int):Tr X A:=
 .call (aK.told a0 (0:Int) (3:Int)) fun t1=> .ret t1
def tree:X→Tr X A:=fun _=> .fail
def f (a0:Int):Option A:=(begin a0).run (lp tree)
def Q:aE C:={PL with aU:=[],aT:=[],aQ:=[]}
theorem e:ay Pg C Q Tryz.f223 0 id st v o tree:=fun J K x=>by cases x
theorem b (a0:Int):ax Pg C Q Tryz.f223 0 id st v o (S a0) (begin a0):=fun J K=>by kernel_rfl
def told (a0:Int):aa.Told A:=⟨f a0,fun r=>af Pg C 223 (S a0) 0 (v r) (o r),fun r h=>ae G mixed Q Tryz.func223 rfl (of_decide_eq_true (by kernel_rfl)) (by rfl) id st v o (fun _=>rfl) tree e (begin a0) (b a0) h⟩
end bS
namespace dx
def S (a0 a1 a2 a3 a4 a5:Int):List (PV U):=aa.start C 65 [.agg [.int .i64 a0,.int .i64 a1,.int .i64 a2,.int .i64 a3,.int .i64 a4,.int .i64 a5]] []
inductive X where
 | c3 (x0 x1 x2 x3 x4 x5:Int)
 | c5 (x0 x1 x2 x3 x4 x5:Int)
def id:X→Nat
 | .c3 .. =>3
 | .c5 .. =>5
def st:X→List (PV U)
 | .c3 x0 x1 x2 x3 x4 x5=>eH 65 [(1,.box [.int .i64 x0,.int .i64 x1,.int .i64 x2,.int .i64 x3,.int .i64 x4,.int .i64 x5])]
 | .c5 x0 x1 x2 x3 x4 x5=>eH 65 [(1,.box [.int .i64 x0,.int .i64 x1,.int .i64 x2,.int .i64 x3,.int .i64 x4,.int .i64 x5])]
def begin (a0 a1 a2 a3 a4 a5:Int):Tr X A:=
 .call (aK.told a0 (1:Int) (6:Int)) fun t1=> .ite (!t1)
  (.ret false)
  (.call (bT.told a0) fun t2=> .ite t2
   (.call (dY.told a1) fun t3=> .ite (!t3)
    (.ret false)
    (.call (bT.told a0) fun t4=>let u4_0:Tr X A:=(.jump (.c3 a0 a1 a2 a3 a4 a5)); .ite (!t4)
     (.ite (!decide (a1=(0:Int)))
      (.ret false)
      (u4_0))
     (u4_0)))
   (.call (bT.told a0) fun t3=>let u3_0:Tr X A:=(.jump (.c3 a0 a1 a2 a3 a4 a5)); .ite (!t3)
    (.ite (!decide (a1=(0:Int)))
     (.ret false)
     (u3_0))
    (u3_0)))
def tree:X→Tr X A
 | .c3 x0 x1 x2 x3 x4 x5=>
 .call (cS.told x0) fun t1=> .ite t1
  (.call (cR.told x3 x4 x5) fun t2=> .ite (!t2)
   (.ret false)
   (.call (cS.told x0) fun t3=> .ite (!t3)
    (.val ((!(decide (x3=(0:Int))&&(decide (x4=(0:Int))&&(decide (x5=(0:Int))&&true)))):Bool) fun v4=> .ite v4
     (.ret false)
     (.jump (.c5 x0 x1 x2 x3 x4 x5)))
    (.jump (.c5 x0 x1 x2 x3 x4 x5))))
  (.call (cS.told x0) fun t2=> .ite (!t2)
   (.val ((!(decide (x3=(0:Int))&&(decide (x4=(0:Int))&&(decide (x5=(0:Int))&&true)))):Bool) fun v3=> .ite v3
    (.ret false)
    (.jump (.c5 x0 x1 x2 x3 x4 x5)))
   (.jump (.c5 x0 x1 x2 x3 x4 x5)))
 | .c5 x0 x1 x2 x3 x4 x5=>
 .ite (decide (x0=(2:Int)))
  (.call (bS.told x2) fun t1=> .ret t1)
  (.ite (decide (x0=(5:Int)))
   (.call (aK.told x2 (1:Int) (5:Int)) fun t1=> .ret t1)
   (.ret ((decide (x2=(0:Int))))))
def f (a0 a1 a2 a3 a4 a5:Int):Option A:=(begin a0 a1 a2 a3 a4 a5).run (lp tree)
def Q:aE C:={PL with aU:=[(3,[1,33,34,35,36,39,40,41,42,43,44,45,46,47,48]),(5,[1])],aT:=[],aQ:=[]}
theorem e:ay Pg C Q Tryz.f217 0 id st v o tree:=fun J K x=>by cases x<;>kernel_rfl
theorem b (a0 a1 a2 a3 a4 a5:Int):ax Pg C Q Tryz.f217 0 id st v o (S a0 a1 a2 a3 a4 a5) (begin a0 a1 a2 a3 a4 a5):=fun J K=>by kernel_rfl
def told (a0 a1 a2 a3 a4 a5:Int):aa.Told A:=⟨f a0 a1 a2 a3 a4 a5,fun r=>af Pg C 217 (S a0 a1 a2 a3 a4 a5) 0 (v r) (o r),fun r h=>ae G mixed Q Tryz.func217 rfl (of_decide_eq_true (by kernel_rfl)) (by rfl) id st v o (fun _=>rfl) tree e (begin a0 a1 a2 a3 a4 a5) (b a0 a1 a2 a3 a4 a5) h⟩
end dx
namespace bJ
def S (a0:Int):List (PV U):=aa.start C 9 [.int .i64 a0] []
abbrev X:=Empty
def id:X→Nat:=fun _=>0
def st:X→List (PV U):=fun _=>[]
def begin (a0:Int):Tr X A:=
 .ite (decide (a0=(4:Int)))
  (.ret true)
  (.ret ((decide (a0=(5:Int)))))
def tree:X→Tr X A:=fun _=> .fail
def f (a0:Int):Option A:=(begin a0).run (lp tree)
def Q:aE C:={PL with aU:=[],aT:=[],aQ:=[]}
theorem e:ay Pg C Q Tryz.f215 0 id st v o tree:=fun J K x=>by cases x
theorem b (a0:Int):ax Pg C Q Tryz.f215 0 id st v o (S a0) (begin a0):=fun J K=>by kernel_rfl
def told (a0:Int):aa.Told A:=⟨f a0,fun r=>af Pg C 215 (S a0) 0 (v r) (o r),fun r h=>ae G mixed Q Tryz.func215 rfl (of_decide_eq_true (by kernel_rfl)) (by rfl) id st v o (fun _=>rfl) tree e (begin a0) (b a0) h⟩
end bJ
namespace bQ
def S (a0:List aq):List (PV U):=aa.start C 39 [.sl 204 a0] []
inductive X where
 | c3 (x0:List aq) (x1:Int) (x2:List aq) (x3 x4:Int)
 | rY
def id:X→Nat
 | .c3 .. =>3
 | .rY .. =>12
def st:X→List (PV U)
 | .c3 x0 x1 x2 x3 x4=>eH 39 [(0,.sl 204 x0),(3,.int .i64 x1),(6,.sl 204 x2),(7,.int .i64 x3),(8,.int .i64 x4)]
 | .rY=>eH 39 []
def begin (a0:List aq):Tr X A:=
 .jump (.c3 a0 (0:Int) a0 (List.length a0:Int) (0:Int))
def tree:X→Tr X A
 | .c3 x0 x1 x2 x3 x4=>
 .ite (decide (x4<x3))
  (.aG ((0:Int)≤x4∧x4<(List.length x2:Int)) (.call (dx.told ((ah x2 x4).f0) ((ah x2 x4).f1) ((ah x2 x4).f2) ((ah x2 x4).f3.f0) ((ah x2 x4).f3.f1) ((ah x2 x4).f3.f2)) fun t1=> .ite (!t1)
   (.ret false)
   (.call (bJ.told ((ah x2 x4).f0)) fun t2=>let u2_0:Tr X A:=(.jump (.rY)); .ite t2
    (.ite (decide ((ah x2 x4).f0=(6:Int)))
     (.ite (decide ((wr ((wr (x1+(1:Int)))-(1:Int)))<(0:Int)))
      (u2_0)
      (.ite (decide ((wr ((wr (x1+(1:Int)))-(1:Int)))>(3:Int)))
       (u2_0)
       (.jump (.c3 x0 (wr ((wr (x1+(1:Int)))-(1:Int))) x2 x3 (wr (x4+(1:Int)))))))
     (.ite (decide ((wr (x1+(1:Int)))<(0:Int)))
      (u2_0)
      (.ite (decide ((wr (x1+(1:Int)))>(3:Int)))
       (u2_0)
       (.jump (.c3 x0 (wr (x1+(1:Int))) x2 x3 (wr (x4+(1:Int))))))))
    (.ite (decide ((ah x2 x4).f0=(6:Int)))
     (.ite (decide ((wr (x1-(1:Int)))<(0:Int)))
      (u2_0)
      (.ite (decide ((wr (x1-(1:Int)))>(3:Int)))
       (u2_0)
       (.jump (.c3 x0 (wr (x1-(1:Int))) x2 x3 (wr (x4+(1:Int)))))))
     (.ite (decide (x1<(0:Int)))
      (u2_0)
      (.ite (decide (x1>(3:Int)))
       (u2_0)
       (.jump (.c3 x0 x1 x2 x3 (wr (x4+(1:Int)))))))))))
  (.ite (decide (x1=(0:Int)))
   (.ret ((decide ((List.length x0:Int)≤(24:Int)))))
   (.ret false))
 | .rY=>
 .ret false
def f (a0:List aq):Option A:=(begin a0).run (lp tree)
def Q:aE C:={PL with aU:=[(3,[0,3,6,7,8,35,36,37]),(12,[])],aT:=[],aQ:=[]}
theorem e:ay Pg C Q Tryz.f189 0 id st v o tree:=fun J K x=>by cases x<;>kernel_rfl
theorem b (a0:List aq):ax Pg C Q Tryz.f189 0 id st v o (S a0) (begin a0):=fun J K=>by kernel_rfl
def told (a0:List aq):aa.Told A:=⟨f a0,fun r=>af Pg C 189 (S a0) 0 (v r) (o r),fun r h=>ae G mixed Q Tryz.func189 rfl (of_decide_eq_true (by kernel_rfl)) (by rfl) id st v o (fun _=>rfl) tree e (begin a0) (b a0) h⟩
end bQ
namespace de
def S (a0:List aq) (a1 a2 a3:Int):List (PV U):=aa.start C 11 [.agg [.sl 204 a0,.int .i64 a1,.int .i64 a2,.int .i64 a3]] []
abbrev X:=Empty
def id:X→Nat:=fun _=>0
def st:X→List (PV U):=fun _=>[]
def begin (a0:List aq) (a1 a2 a3:Int):Tr X A:=
 .call (bQ.told a0) fun t1=> .ite t1
  (.call (cR.told a1 a2 a3) fun t2=> .ret t2)
  (.ret false)
def tree:X→Tr X A:=fun _=> .fail
def f (a0:List aq) (a1 a2 a3:Int):Option A:=(begin a0 a1 a2 a3).run (lp tree)
def Q:aE C:={PL with aU:=[],aT:=[],aQ:=[]}
theorem e:ay Pg C Q Tryz.f150 0 id st v o tree:=fun J K x=>by cases x
theorem b (a0:List aq) (a1 a2 a3:Int):ax Pg C Q Tryz.f150 0 id st v o (S a0 a1 a2 a3) (begin a0 a1 a2 a3):=fun J K=>by kernel_rfl
def told (a0:List aq) (a1 a2 a3:Int):aa.Told A:=⟨f a0 a1 a2 a3,fun r=>af Pg C 150 (S a0 a1 a2 a3) 0 (v r) (o r),fun r h=>ae G mixed Q Tryz.func150 rfl (of_decide_eq_true (by kernel_rfl)) (by rfl) id st v o (fun _=>rfl) tree e (begin a0 a1 a2 a3) (b a0 a1 a2 a3) h⟩
end de
namespace dj
def S (a0:List aq) (a1 a2 a3:Int):List (PV U):=aa.start C 6 [.agg [.sl 204 a0,.int .i64 a1,.int .i64 a2,.int .i64 a3]] []
abbrev X:=Empty
def id:X→Nat:=fun _=>0
def st:X→List (PV U):=fun _=>[]
def begin (a0:List aq) (a1 a2 a3:Int):Tr X A:=
 .call (de.told a0 a1 a2 a3) fun t1=> .ret ((!t1))
def tree:X→Tr X A:=fun _=> .fail
def f (a0:List aq) (a1 a2 a3:Int):Option A:=(begin a0 a1 a2 a3).run (lp tree)
def Q:aE C:={PL with aU:=[],aT:=[],aQ:=[]}
theorem e:ay Pg C Q Tryz.f149 0 id st v o tree:=fun J K x=>by cases x
theorem b (a0:List aq) (a1 a2 a3:Int):ax Pg C Q Tryz.f149 0 id st v o (S a0 a1 a2 a3) (begin a0 a1 a2 a3):=fun J K=>by kernel_rfl
def told (a0:List aq) (a1 a2 a3:Int):aa.Told A:=⟨f a0 a1 a2 a3,fun r=>af Pg C 149 (S a0 a1 a2 a3) 0 (v r) (o r),fun r h=>ae G mixed Q Tryz.func149 rfl (of_decide_eq_true (by kernel_rfl)) (by rfl) id st v o (fun _=>rfl) tree e (begin a0 a1 a2 a3) (b a0 a1 a2 a3) h⟩
end dj
namespace ao
def S (a0:List az):List (PV U):=aa.start C 19 [.sl 164 a0,.fn 149 []] []
inductive X where
 | c2 (x0:List az) (x1 x2:Int)
def id:X→Nat
 | .c2 .. =>2
def st:X→List (PV U)
 | .c2 x0 x1 x2=>eH 19 [(0,.sl 164 x0),(1,.fn 149 []),(7,.int .i64 x1),(8,.int .i64 x2)]
def begin (a0:List az):Tr X A:=
 .jump (.c2 a0 (List.length a0:Int) (0:Int))
def tree:X→Tr X A
 | .c2 x0 x1 x2=>
 .ite (decide (x2<x1))
  (.aG ((0:Int)≤x2∧x2<(List.length x0:Int)) (.call (dj.told ((aV x0 x2).f0) ((aV x0 x2).f1.f0) ((aV x0 x2).f1.f1) ((aV x0 x2).f1.f2)) fun t1=> .ite t1
   (.ret x2)
   (.jump (.c2 x0 x1 (wr (x2+(1:Int)))))))
  (.ret ((-1:Int)))
def f (a0:List az):Option A:=(begin a0).run (lp tree)
def Q:aE C:={PL with aU:=[(2,[0,1,7,8])],aT:=[],aQ:=[]}
theorem e:ay Pg C Q Tryz.f188 0 id st v o tree:=fun J K x=>by cases x<;>kernel_rfl
theorem b (a0:List az):ax Pg C Q Tryz.f188 0 id st v o (S a0) (begin a0):=fun J K=>by kernel_rfl
def told (a0:List az):aa.Told A:=⟨f a0,fun r=>af Pg C 188 (S a0) 0 (v r) (o r),fun r h=>ae G mixed Q Tryz.func188 rfl (of_decide_eq_true (by kernel_rfl)) (by rfl) id st v o (fun _=>rfl) tree e (begin a0) (b a0) h⟩
end ao
namespace aA
def S (a0:List az):List (PV U):=aa.start C 9 [.sl 164 a0,.fn 149 []] []
abbrev X:=Empty
def id:X→Nat:=fun _=>0
def st:X→List (PV U):=fun _=>[]
def begin (a0:List az):Tr X A:=
 .call (ao.told a0) fun t1=> .ret ((decide (t1≥(0:Int))))
def tree:X→Tr X A:=fun _=> .fail
def f (a0:List az):Option A:=(begin a0).run (lp tree)
def Q:aE C:={PL with aU:=[],aT:=[],aQ:=[]}
theorem e:ay Pg C Q Tryz.f148 0 id st v o tree:=fun J K x=>by cases x
theorem b (a0:List az):ax Pg C Q Tryz.f148 0 id st v o (S a0) (begin a0):=fun J K=>by kernel_rfl
def told (a0:List az):aa.Told A:=⟨f a0,fun r=>af Pg C 148 (S a0) 0 (v r) (o r),fun r h=>ae G mixed Q Tryz.func148 rfl (of_decide_eq_true (by kernel_rfl)) (by rfl) id st v o (fun _=>rfl) tree e (begin a0) (b a0) h⟩
end aA
namespace da
def S (a0:List az):List (PV U):=aa.start C 13 [.agg [.sl 164 a0]] []
abbrev X:=Empty
def id:X→Nat:=fun _=>0
def st:X→List (PV U):=fun _=>[]
def begin (a0:List az):Tr X A:=
 .call (aK.told (List.length a0:Int) (1:Int) (6:Int)) fun t1=> .ite t1
  (.call (aA.told a0) fun t2=> .ret ((!t2)))
  (.ret false)
def tree:X→Tr X A:=fun _=> .fail
def f (a0:List az):Option A:=(begin a0).run (lp tree)
def Q:aE C:={PL with aU:=[],aT:=[],aQ:=[]}
theorem e:ay Pg C Q Tryz.f103 0 id st v o tree:=fun J K x=>by cases x
theorem b (a0:List az):ax Pg C Q Tryz.f103 0 id st v o (S a0) (begin a0):=fun J K=>by kernel_rfl
def told (a0:List az):aa.Told A:=⟨f a0,fun r=>af Pg C 103 (S a0) 0 (v r) (o r),fun r h=>ae G mixed Q Tryz.func103 rfl (of_decide_eq_true (by kernel_rfl)) (by rfl) id st v o (fun _=>rfl) tree e (begin a0) (b a0) h⟩
end da
namespace eC
def S (a0:Int):List (PV U):=aa.start C 5 [.int .i64 a0] []
abbrev X:=Empty
def id:X→Nat:=fun _=>0
def st:X→List (PV U):=fun _=>[]
def begin (a0:Int):Tr X A:=
 .call (aK.told a0 (-1000000:Int) (1000000:Int)) fun t1=> .ret t1
def tree:X→Tr X A:=fun _=> .fail
def f (a0:Int):Option A:=(begin a0).run (lp tree)
def Q:aE C:={PL with aU:=[],aT:=[],aQ:=[]}
theorem e:ay Pg C Q Tryz.f106 0 id st v o tree:=fun J K x=>by cases x
theorem b (a0:Int):ax Pg C Q Tryz.f106 0 id st v o (S a0) (begin a0):=fun J K=>by kernel_rfl
def told (a0:Int):aa.Told A:=⟨f a0,fun r=>af Pg C 106 (S a0) 0 (v r) (o r),fun r h=>ae G mixed Q Tryz.func106 rfl (of_decide_eq_true (by kernel_rfl)) (by rfl) id st v o (fun _=>rfl) tree e (begin a0) (b a0) h⟩
end eC
namespace df
def S (a0:Int):List (PV U):=aa.start C 6 [.int .i64 a0] []
abbrev X:=Empty
def id:X→Nat:=fun _=>0
def st:X→List (PV U):=fun _=>[]
def begin (a0:Int):Tr X A:=
 .call (eC.told a0) fun t1=> .ret ((!t1))
def tree:X→Tr X A:=fun _=> .fail
def f (a0:Int):Option A:=(begin a0).run (lp tree)
def Q:aE C:={PL with aU:=[],aT:=[],aQ:=[]}
theorem e:ay Pg C Q Tryz.f108 0 id st v o tree:=fun J K x=>by cases x
theorem b (a0:Int):ax Pg C Q Tryz.f108 0 id st v o (S a0) (begin a0):=fun J K=>by kernel_rfl
def told (a0:Int):aa.Told A:=⟨f a0,fun r=>af Pg C 108 (S a0) 0 (v r) (o r),fun r h=>ae G mixed Q Tryz.func108 rfl (of_decide_eq_true (by kernel_rfl)) (by rfl) id st v o (fun _=>rfl) tree e (begin a0) (b a0) h⟩
end df
namespace aB
def S (a0:List Int):List (PV U):=aa.start C 19 [.sl 3 a0,.fn 108 []] []
inductive X where
 | c2 (x0:List Int) (x1 x2:Int)
def id:X→Nat
 | .c2 .. =>2
def st:X→List (PV U)
 | .c2 x0 x1 x2=>eH 19 [(0,.sl 3 x0),(1,.fn 108 []),(7,.int .i64 x1),(8,.int .i64 x2)]
def begin (a0:List Int):Tr X A:=
 .jump (.c2 a0 (List.length a0:Int) (0:Int))
def tree:X→Tr X A
 | .c2 x0 x1 x2=>
 .ite (decide (x2<x1))
  (.aG ((0:Int)≤x2∧x2<(List.length x0:Int)) (.call (df.told (eG x0 x2)) fun t1=> .ite t1
   (.ret x2)
   (.jump (.c2 x0 x1 (wr (x2+(1:Int)))))))
  (.ret ((-1:Int)))
def f (a0:List Int):Option A:=(begin a0).run (lp tree)
def Q:aE C:={PL with aU:=[(2,[0,1,7,8])],aT:=[],aQ:=[]}
theorem e:ay Pg C Q Tryz.f152 0 id st v o tree:=fun J K x=>by cases x<;>kernel_rfl
theorem b (a0:List Int):ax Pg C Q Tryz.f152 0 id st v o (S a0) (begin a0):=fun J K=>by kernel_rfl
def told (a0:List Int):aa.Told A:=⟨f a0,fun r=>af Pg C 152 (S a0) 0 (v r) (o r),fun r h=>ae G mixed Q Tryz.func152 rfl (of_decide_eq_true (by kernel_rfl)) (by rfl) id st v o (fun _=>rfl) tree e (begin a0) (b a0) h⟩
end aB
namespace aI
def S (a0:List Int):List (PV U):=aa.start C 9 [.sl 3 a0,.fn 108 []] []
abbrev X:=Empty
def id:X→Nat:=fun _=>0
def st:X→List (PV U):=fun _=>[]
def begin (a0:List Int):Tr X A:=
 .call (aB.told a0) fun t1=> .ret ((decide (t1≥(0:Int))))
def tree:X→Tr X A:=fun _=> .fail
def f (a0:List Int):Option A:=(begin a0).run (lp tree)
def Q:aE C:={PL with aU:=[],aT:=[],aQ:=[]}
theorem e:ay Pg C Q Tryz.f107 0 id st v o tree:=fun J K x=>by cases x
theorem b (a0:List Int):ax Pg C Q Tryz.f107 0 id st v o (S a0) (begin a0):=fun J K=>by kernel_rfl
def told (a0:List Int):aa.Told A:=⟨f a0,fun r=>af Pg C 107 (S a0) 0 (v r) (o r),fun r h=>ae G mixed Q Tryz.func107 rfl (of_decide_eq_true (by kernel_rfl)) (by rfl) id st v o (fun _=>rfl) tree e (begin a0) (b a0) h⟩
end aI
namespace ck
def S (a0:List Int):List (PV U):=aa.start C 6 [.sl 3 a0] []
abbrev X:=Empty
def id:X→Nat:=fun _=>0
def st:X→List (PV U):=fun _=>[]
def begin (a0:List Int):Tr X A:=
 .call (aI.told a0) fun t1=> .ret ((!t1))
def tree:X→Tr X A:=fun _=> .fail
def f (a0:List Int):Option A:=(begin a0).run (lp tree)
def Q:aE C:={PL with aU:=[],aT:=[],aQ:=[]}
theorem e:ay Pg C Q Tryz.f49 0 id st v o tree:=fun J K x=>by cases x
theorem b (a0:List Int):ax Pg C Q Tryz.f49 0 id st v o (S a0) (begin a0):=fun J K=>by kernel_rfl
def told (a0:List Int):aa.Told A:=⟨f a0,fun r=>af Pg C 49 (S a0) 0 (v r) (o r),fun r h=>ae G mixed Q Tryz.func49 rfl (of_decide_eq_true (by kernel_rfl)) (by rfl) id st v o (fun _=>rfl) tree e (begin a0) (b a0) h⟩
end ck
namespace bo
def S (a0 a1 a2:Int):List (PV U):=aa.start C 27 [.int .i64 a0,.int .i64 a1,.int .i64 a2] []
abbrev X:=Empty
def id:X→Nat:=fun _=>0
def st:X→List (PV U):=fun _=>[]
def begin (a0 a1 a2:Int):Tr X A:=
 .call (aK.told a0 (0:Int) (5:Int)) fun t1=> .ite (!t1)
  (.ret ((-1:Int)))
  (.call (aK.told a1 (0:Int) (8:Int)) fun t2=> .ite (!t2)
   (.ret ((-1:Int)))
   (.call (aK.told a2 (0:Int) (24:Int)) fun t3=> .ite (!t3)
    (.ret ((-1:Int)))
    (.ret ((wr (a0+(wr ((8:Int)*(wr (a1+(wr ((16:Int)*a2))))))))))))
def tree:X→Tr X A:=fun _=> .fail
def f (a0 a1 a2:Int):Option A:=(begin a0 a1 a2).run (lp tree)
def Q:aE C:={PL with aU:=[],aT:=[],aQ:=[]}
theorem e:ay Pg C Q Tryz.f151 0 id st v o tree:=fun J K x=>by cases x
theorem b (a0 a1 a2:Int):ax Pg C Q Tryz.f151 0 id st v o (S a0 a1 a2) (begin a0 a1 a2):=fun J K=>by kernel_rfl
def told (a0 a1 a2:Int):aa.Told A:=⟨f a0 a1 a2,fun r=>af Pg C 151 (S a0 a1 a2) 0 (v r) (o r),fun r h=>ae G mixed Q Tryz.func151 rfl (of_decide_eq_true (by kernel_rfl)) (by rfl) id st v o (fun _=>rfl) tree e (begin a0 a1 a2) (b a0 a1 a2) h⟩
end bo
namespace bj
def S (a0:Int):List (PV U):=aa.start C 28 [.int .i64 a0] []
abbrev X:=Empty
def id:X→Nat:=fun _=>0
def st:X→List (PV U):=fun _=>[]
def begin (a0:Int):Tr X A:=
 .aG ((8:Int)≠0) (.aG ((8:Int)≠0) (.aG ((16:Int)≠0) (.aG ((128:Int)≠0) (.ite (decide (a0<(0:Int)))
  (.ret ((-1:Int),(-1:Int),(-1:Int)))
  (.call (bo.told (Int.tmod a0 (8:Int)) (Int.tmod (wr (Int.tdiv a0 (8:Int))) (16:Int)) (wr (Int.tdiv a0 (128:Int)))) fun t1=> .ite (!decide (t1=a0))
   (.ret ((-1:Int),(-1:Int),(-1:Int)))
   (.ret ((Int.tmod a0 (8:Int)),(Int.tmod (wr (Int.tdiv a0 (8:Int))) (16:Int)),(wr (Int.tdiv a0 (128:Int))))))))))
def tree:X→Tr X A:=fun _=> .fail
def f (a0:Int):Option A:=(begin a0).run (lp tree)
def Q:aE C:={PL with aU:=[],aT:=[],aQ:=[]}
theorem e:ay Pg C Q Tryz.f104 0 id st v o tree:=fun J K x=>by cases x
theorem b (a0:Int):ax Pg C Q Tryz.f104 0 id st v o (S a0) (begin a0):=fun J K=>by kernel_rfl
def told (a0:Int):aa.Told A:=⟨f a0,fun r=>af Pg C 104 (S a0) 0 (v r) (o r),fun r h=>ae G mixed Q Tryz.func104 rfl (of_decide_eq_true (by kernel_rfl)) (by rfl) id st v o (fun _=>rfl) tree e (begin a0) (b a0) h⟩
end bj
namespace fi
def S (a0:List az) (a1:List Int):List (PV U):=aa.start C 72 [.agg [.sl 164 a0],.sl 3 a1] []
inductive X where
 | c7 (x0:List Int) (x1 x2:Int)
def id:X→Nat
 | .c7 .. =>7
def st:X→List (PV U)
 | .c7 x0 x1 x2=>eH 72 [(1,.sl 3 x0),(48,.int .i64 x1),(49,.int .i64 x2)]
def begin (a0:List az) (a1:List Int):Tr X A:=
 .call (da.told a0) fun t1=> .ite (!t1)
  (.ret false)
  (.ite (!decide ((List.length a1:Int)=(49:Int)))
   (.ret false)
   (.aG ((0:Int)≤(0:Int)∧(0:Int)≤(8:Int)∧(8:Int)≤(List.length a1:Int)) (.call (ck.told (List.take (Int.toNat (8:Int)) a1)) fun t2=> .ite (!t2)
    (.ret false)
    (.aG ((0:Int)≤(8:Int)∧(8:Int)<(List.length a1:Int)) (.call (bj.told (eG a1 (8:Int))) fun t3=> .ite (decide (t3.1<(0:Int)))
     (.ret false)
     (.ite (decide (t3.1≥(List.length a0:Int)))
      (.ret false)
      (.aG ((0:Int)≤(25:Int)∧(25:Int)≤(wr ((25:Int)+t3.2.2))∧(wr ((25:Int)+t3.2.2))≤(List.length a1:Int)) (.call (ck.told (List.drop (Int.toNat (25:Int)) (List.take (Int.toNat (wr ((25:Int)+t3.2.2))) a1))) fun t4=> .ite (!t4)
       (.ret false)
       (.jump (.c7 a1 t3.2.1 (0:Int)))))))))))
def tree:X→Tr X A
 | .c7 x0 x1 x2=>
 .ite (decide (x2<x1))
  (.aG ((0:Int)≤(wr ((9:Int)+(wr ((2:Int)*x2))))∧(wr ((9:Int)+(wr ((2:Int)*x2))))<(List.length x0:Int)) (.call (dY.told (eG x0 (wr ((9:Int)+(wr ((2:Int)*x2)))))) fun t1=> .ite (!t1)
   (.ret false)
   (.aG ((0:Int)≤(wr ((wr ((9:Int)+(wr ((2:Int)*x2))))+(1:Int)))∧(wr ((wr ((9:Int)+(wr ((2:Int)*x2))))+(1:Int)))<(List.length x0:Int)) (.call (eC.told (eG x0 (wr ((wr ((9:Int)+(wr ((2:Int)*x2))))+(1:Int))))) fun t2=> .ite (!t2)
    (.ret false)
    (.jump (.c7 x0 x1 (wr (x2+(1:Int)))))))))
  (.ret true)
def f (a0:List az) (a1:List Int):Option A:=(begin a0 a1).run (lp tree)
def Q:aE C:={PL with aU:=[(7,[1,48,49])],aT:=[],aQ:=[]}
theorem e:ay Pg C Q Tryz.f47 0 id st v o tree:=fun J K x=>by cases x<;>kernel_rfl
theorem b (a0:List az) (a1:List Int):ax Pg C Q Tryz.f47 0 id st v o (S a0 a1) (begin a0 a1):=fun J K=>by kernel_rfl
def told (a0:List az) (a1:List Int):aa.Told A:=⟨f a0 a1,fun r=>af Pg C 47 (S a0 a1) 0 (v r) (o r),fun r h=>ae G mixed Q Tryz.func47 rfl (of_decide_eq_true (by kernel_rfl)) (by rfl) id st v o (fun _=>rfl) tree e (begin a0 a1) (b a0 a1) h⟩
end fi
namespace fo
def S (a0 a1 a2 a3:Int):List (PV U):=aa.start C 25 [.agg [.int .i64 a0,.int .i64 a1,.int .i64 a2,.int .i64 a3]] []
abbrev X:=Empty
def id:X→Nat:=fun _=>0
def st:X→List (PV U):=fun _=>[]
def begin (a0 a1 a2 a3:Int):Tr X A:=
 .call (aK.told a1 (1:Int) (5000:Int)) fun t1=> .ite t1
  (.call (aK.told a0 (0:Int) a1) fun t2=> .ite t2
   (.call (aK.told a2 (1:Int) a1) fun t3=> .ite t3
    (.call (aK.told a3 (0:Int) (100:Int)) fun t4=> .ret t4)
    (.ret false))
   (.ret false))
  (.ret false)
def tree:X→Tr X A:=fun _=> .fail
def f (a0 a1 a2 a3:Int):Option A:=(begin a0 a1 a2 a3).run (lp tree)
def Q:aE C:={PL with aU:=[],aT:=[],aQ:=[]}
theorem e:ay Pg C Q Tryz.f48 0 id st v o tree:=fun J K x=>by cases x
theorem b (a0 a1 a2 a3:Int):ax Pg C Q Tryz.f48 0 id st v o (S a0 a1 a2 a3) (begin a0 a1 a2 a3):=fun J K=>by kernel_rfl
def told (a0 a1 a2 a3:Int):aa.Told A:=⟨f a0 a1 a2 a3,fun r=>af Pg C 48 (S a0 a1 a2 a3) 0 (v r) (o r),fun r h=>ae G mixed Q Tryz.func48 rfl (of_decide_eq_true (by kernel_rfl)) (by rfl) id st v o (fun _=>rfl) tree e (begin a0 a1 a2 a3) (b a0 a1 a2 a3) h⟩
end fo
namespace eR
def S (a0 a1:Int):List (PV U):=aa.start C 18 [.agg [.int .i64 a0,.int .i64 a1]] []
abbrev X:=Empty
def id:X→Nat:=fun _=>0
def st:X→List (PV U):=fun _=>[]
def begin (a0 a1:Int):Tr X A:=
 .ite (decide (a0≥(0:Int)))
  (.ite (decide (a0≤a1))
   (.ret ((decide (a1≤(1000000:Int)))))
   (.ret false))
  (.ret false)
def tree:X→Tr X A:=fun _=> .fail
def f (a0 a1:Int):Option A:=(begin a0 a1).run (lp tree)
def Q:aE C:={PL with aU:=[],aT:=[],aQ:=[]}
theorem e:ay Pg C Q Tryz.f51 0 id st v o tree:=fun J K x=>by cases x
theorem b (a0 a1:Int):ax Pg C Q Tryz.f51 0 id st v o (S a0 a1) (begin a0 a1):=fun J K=>by kernel_rfl
def told (a0 a1:Int):aa.Told A:=⟨f a0 a1,fun r=>af Pg C 51 (S a0 a1) 0 (v r) (o r),fun r h=>ae G mixed Q Tryz.func51 rfl (of_decide_eq_true (by kernel_rfl)) (by rfl) id st v o (fun _=>rfl) tree e (begin a0 a1) (b a0 a1) h⟩
end eR
namespace fq
def S (a0:List Int):List (PV U):=aa.start C 24 [.sl 3 a0] []
abbrev X:=Empty
def id:X→Nat:=fun _=>0
def st:X→List (PV U):=fun _=>[]
def begin (a0:List Int):Tr X A:=
 .ite (!decide ((List.length a0:Int)=(49:Int)))
  (.ret (([]:List Int)))
  (.aG ((0:Int)≤(8:Int)∧(8:Int)<(List.length a0:Int)) (.call (bj.told (eG a0 (8:Int))) fun t1=> .ite (decide (t1.2.2<(0:Int)))
   (.ret (([]:List Int)))
   (.aG ((0:Int)≤(25:Int)∧(25:Int)≤(wr ((25:Int)+t1.2.2))∧(wr ((25:Int)+t1.2.2))≤(List.length a0:Int)) (.call (bc.told (List.drop (Int.toNat (25:Int)) (List.take (Int.toNat (wr ((25:Int)+t1.2.2))) a0))) fun t2=> .ret t2))))
def tree:X→Tr X A:=fun _=> .fail
def f (a0:List Int):Option A:=(begin a0).run (lp tree)
def Q:aE C:={PL with aU:=[],aT:=[],aQ:=[]}
theorem e:ay Pg C Q Tryz.f54 0 id st v o tree:=fun J K x=>by cases x
theorem b (a0:List Int):ax Pg C Q Tryz.f54 0 id st v o (S a0) (begin a0):=fun J K=>by kernel_rfl
def told (a0:List Int):aa.Told A:=⟨f a0,fun r=>af Pg C 54 (S a0) 0 (v r) (o r),fun r h=>ae G mixed Q Tryz.func54 rfl (of_decide_eq_true (by kernel_rfl)) (by rfl) id st v o (fun _=>rfl) tree e (begin a0) (b a0) h⟩
end fq
namespace bZ
def S (a0 a1:List Int):List (PV U):=aa.start C 26 [.sl 3 a0,.sl 3 a1] []
inductive X where
 | c4 (x0 x1:List Int) (x2 x3:Int)
def id:X→Nat
 | .c4 .. =>4
def st:X→List (PV U)
 | .c4 x0 x1 x2 x3=>eH 26 [(0,.sl 3 x0),(1,.sl 3 x1),(12,.int .i64 x2),(13,.int .i64 x3)]
def begin (a0 a1:List Int):Tr X A:=
 .ite (!decide ((List.length a0:Int)=(List.length a1:Int)))
  (.ret false)
  (.jump (.c4 a0 a1 (List.length a0:Int) (0:Int)))
def tree:X→Tr X A
 | .c4 x0 x1 x2 x3=>
 .ite (decide (x3<x2))
  (.aG ((0:Int)≤x3∧x3<(List.length x0:Int)) (.aG ((0:Int)≤x3∧x3<(List.length x1:Int)) (.ite (!decide ((eG x0 x3)=(eG x1 x3)))
   (.ret false)
   (.jump (.c4 x0 x1 x2 (wr (x3+(1:Int))))))))
  (.ret true)
def f (a0 a1:List Int):Option A:=(begin a0 a1).run (lp tree)
def Q:aE C:={PL with aU:=[(4,[0,1,12,13])],aT:=[(6,[],(.take 0 [] (.take 1 [] (.take 2 [] (.take 4 [] (.take 5 [] (.take 6 [] (.take 3 [0,1,2,4,5,6,7] (.take 7 [0,1,2,3,4,5,6] (.take 8 [] .done))))))))))],aQ:=[]}
theorem e:ay Pg C Q Tryz.f53 0 id st v o tree:=fun J K x=>by cases x<;>kernel_rfl
theorem b (a0 a1:List Int):ax Pg C Q Tryz.f53 0 id st v o (S a0 a1) (begin a0 a1):=fun J K=>by kernel_rfl
def told (a0 a1:List Int):aa.Told A:=⟨f a0 a1,fun r=>af Pg C 53 (S a0 a1) 0 (v r) (o r),fun r h=>ae G mixed Q Tryz.func53 rfl (of_decide_eq_true (by kernel_rfl)) (by rfl) id st v o (fun _=>rfl) tree e (begin a0 a1) (b a0 a1) h⟩
end bZ
namespace dm
def S (a0 a1:List Int):List (PV U):=aa.start C 18 [.sl 3 a0,.sl 3 a1] []
abbrev X:=Empty
def id:X→Nat:=fun _=>0
def st:X→List (PV U):=fun _=>[]
def begin (a0 a1:List Int):Tr X A:=
 .ite (decide ((List.length a0:Int)≤(List.length a1:Int)))
  (.aG ((0:Int)≤(0:Int)∧(0:Int)≤(List.length a0:Int)∧(List.length a0:Int)≤(List.length a1:Int)) (.call (bZ.told a0 (List.take (Int.toNat (List.length a0:Int)) a1)) fun t1=> .ret t1))
  (.ret false)
def tree:X→Tr X A:=fun _=> .fail
def f (a0 a1:List Int):Option A:=(begin a0 a1).run (lp tree)
def Q:aE C:={PL with aU:=[],aT:=[],aQ:=[]}
theorem e:ay Pg C Q Tryz.f14 0 id st v o tree:=fun J K x=>by cases x
theorem b (a0 a1:List Int):ax Pg C Q Tryz.f14 0 id st v o (S a0 a1) (begin a0 a1):=fun J K=>by kernel_rfl
def told (a0 a1:List Int):aa.Told A:=⟨f a0 a1,fun r=>af Pg C 14 (S a0 a1) 0 (v r) (o r),fun r h=>ae G mixed Q Tryz.func14 rfl (of_decide_eq_true (by kernel_rfl)) (by rfl) id st v o (fun _=>rfl) tree e (begin a0 a1) (b a0 a1) h⟩
end dm
namespace fN
def S (a0:List Int) (a1:Int) (a2:List Int):List (PV U):=aa.start C 20 [.sl 3 a0,.agg [.int .i64 a1,.sl 3 a2]] []
abbrev X:=Empty
def id:X→Nat:=fun _=>0
def st:X→List (PV U):=fun _=>[]
def begin (a0:List Int) (a1:Int) (a2:List Int):Tr X A:=
 .last (.call (aK.told a1 (0:Int) (List.length a2:Int)) fun t1=> .ite t1
  (.last (.call (fq.told a0) fun t2=> .last (.call (dm.told a2 t2) fun t3=> .ret t3)))
  (.last (.last (.ret false))))
def tree:X→Tr X A:=fun _=> .fail
def f (a0:List Int) (a1:Int) (a2:List Int):Option A:=(begin a0 a1 a2).run (lp tree)
def Q:aE C:={PL with aU:=[],aT:=[(1,[],(.take 0 [] (.take 2 [] (.take 3 [] (.take 1 [0,2,3,4,5] (.take 4 [0,1,2,3] (.take 5 [] (.alt 6 (.take 7 [] (.take 8 [] (.take 9 [] (.take 11 [] (.take 10 [0,1,2,3,4,5,6,7,8,9,11,12] (.alt 12 (.alt 13 (.take 14 [] (.take 15 [] .done)) .nil) .nil)))))) .nil))))))))],aQ:=[]}
theorem e:ay Pg C Q Tryz.f52 0 id st v o tree:=fun J K x=>by cases x
theorem b (a0:List Int) (a1:Int) (a2:List Int):ax Pg C Q Tryz.f52 0 id st v o (S a0 a1 a2) (begin a0 a1 a2):=fun J K=>by kernel_rfl
def told (a0:List Int) (a1:Int) (a2:List Int):aa.Told A:=⟨f a0 a1 a2,fun r=>af Pg C 52 (S a0 a1 a2) 0 (v r) (o r),fun r h=>ae G mixed Q Tryz.func52 rfl (of_decide_eq_true (by kernel_rfl)) (by rfl) id st v o (fun _=>rfl) tree e (begin a0 a1 a2) (b a0 a1 a2) h⟩
end fN
namespace dS
def S (a0:List az) (a1 a2:List Int) (a3 a4 a5 a6 a7 a8 a9 a10:Int) (a11:List Int) (a12:Int):List (PV U):=aa.start C 40 [.agg [.sl 164 a0,.sl 3 a1,.sl 3 a2,.int .i64 a3,.int .i64 a4,.int .i64 a5,.int .i64 a6,.int .i64 a7,.int .i64 a8,.int .i64 a9,.int .i64 a10,.sl 3 a11,.int .i64 a12]] []
abbrev X:=Empty
def id:X→Nat:=fun _=>0
def st:X→List (PV U):=fun _=>[]
def begin (a0:List az) (a1 a2:List Int) (a3 a4 a5 a6 a7 a8 a9 a10:Int) (a11:List Int) (a12:Int):Tr X A:=
 .call (fi.told a0 a1) fun t1=> .ite t1
  (.call (fo.told a4 a5 a6 a7) fun t2=> .ite t2
   (.call (ck.told a2) fun t3=> .ite t3
    (.call (aK.told a3 (0:Int) (400000:Int)) fun t4=> .ite t4
     (.call (eR.told a8 a9) fun t5=> .ite t5
      (.call (fN.told a1 a10 a11) fun t6=> .ite t6
       (.call (aK.told a12 (0:Int) (100000:Int)) fun t7=> .ret t7)
       (.ret false))
      (.ret false))
     (.ret false))
    (.ret false))
   (.ret false))
  (.ret false)
def tree:X→Tr X A:=fun _=> .fail
def f (a0:List az) (a1 a2:List Int) (a3 a4 a5 a6 a7 a8 a9 a10:Int) (a11:List Int) (a12:Int):Option A:=(begin a0 a1 a2 a3 a4 a5 a6 a7 a8 a9 a10 a11 a12).run (lp tree)
def Q:aE C:={PL with aU:=[],aT:=[],aQ:=[]}
theorem e:ay Pg C Q Tryz.f13 0 id st v o tree:=fun J K x=>by cases x
theorem b (a0:List az) (a1 a2:List Int) (a3 a4 a5 a6 a7 a8 a9 a10:Int) (a11:List Int) (a12:Int):ax Pg C Q Tryz.f13 0 id st v o (S a0 a1 a2 a3 a4 a5 a6 a7 a8 a9 a10 a11 a12) (begin a0 a1 a2 a3 a4 a5 a6 a7 a8 a9 a10 a11 a12):=fun J K=>by kernel_rfl
def told (a0:List az) (a1 a2:List Int) (a3 a4 a5 a6 a7 a8 a9 a10:Int) (a11:List Int) (a12:Int):aa.Told A:=⟨f a0 a1 a2 a3 a4 a5 a6 a7 a8 a9 a10 a11 a12,fun r=>af Pg C 13 (S a0 a1 a2 a3 a4 a5 a6 a7 a8 a9 a10 a11 a12) 0 (v r) (o r),fun r h=>ae G mixed Q Tryz.func13 rfl (of_decide_eq_true (by kernel_rfl)) (by rfl) id st v o (fun _=>rfl) tree e (begin a0 a1 a2 a3 a4 a5 a6 a7 a8 a9 a10 a11 a12) (b a0 a1 a2 a3 a4 a5 a6 a7 a8 a9 a10 a11 a12) h⟩
end dS
namespace cl
def S (a0:Int):List (PV U):=aa.start C 5 [.int .i64 a0] []
abbrev X:=Empty
def id:X→Nat:=fun _=>0
def st:X→List (PV U):=fun _=>[]
def begin (a0:Int):Tr X A:=
 .call (aK.told a0 (0:Int) (1000:Int)) fun t1=> .ret t1
def tree:X→Tr X A:=fun _=> .fail
def f (a0:Int):Option A:=(begin a0).run (lp tree)
def Q:aE C:={PL with aU:=[],aT:=[],aQ:=[]}
theorem e:ay Pg C Q Tryz.f42 0 id st v o tree:=fun J K x=>by cases x
theorem b (a0:Int):ax Pg C Q Tryz.f42 0 id st v o (S a0) (begin a0):=fun J K=>by kernel_rfl
def told (a0:Int):aa.Told A:=⟨f a0,fun r=>af Pg C 42 (S a0) 0 (v r) (o r),fun r h=>ae G mixed Q Tryz.func42 rfl (of_decide_eq_true (by kernel_rfl)) (by rfl) id st v o (fun _=>rfl) tree e (begin a0) (b a0) h⟩
end cl
namespace cN
def S (a0 a1 a2:Int):List (PV U):=aa.start C 16 [.int .i64 a0,.int .i64 a1,.int .i64 a2] []
abbrev X:=Empty
def id:X→Nat:=fun _=>0
def st:X→List (PV U):=fun _=>[]
def begin (a0 a1 a2:Int):Tr X A:=
 .ite (decide (a2<a1))
  (.ret a1)
  (.ret ((if a2<(if a1>a0 then a1 else a0)then a2 else(if a1>a0 then a1 else a0))))
def tree:X→Tr X A:=fun _=> .fail
def f (a0 a1 a2:Int):Option A:=(begin a0 a1 a2).run (lp tree)
def Q:aE C:={PL with aU:=[],aT:=[],aQ:=[]}
theorem e:ay Pg C Q Tryz.f97 0 id st v o tree:=fun J K x=>by cases x
theorem b (a0 a1 a2:Int):ax Pg C Q Tryz.f97 0 id st v o (S a0 a1 a2) (begin a0 a1 a2):=fun J K=>by kernel_rfl
def told (a0 a1 a2:Int):aa.Told A:=⟨f a0 a1 a2,fun r=>af Pg C 97 (S a0 a1 a2) 0 (v r) (o r),fun r h=>ae G mixed Q Tryz.func97 rfl (of_decide_eq_true (by kernel_rfl)) (by rfl) id st v o (fun _=>rfl) tree e (begin a0 a1 a2) (b a0 a1 a2) h⟩
end cN
namespace cX
def S (a0:Int) (a1:List az) (a2 a3:List Int) (a4 a5 a6 a7 a8 a9 a10 a11:Int) (a12:List Int) (a13:Int):List (PV U):=aa.start C 23 [.ptr 23 4,.int .i64 a0] [.box [.own true 164 a1,.own true 3 a2,.own true 3 a3,.int .i64 a4,.int .i64 a5,.int .i64 a6,.int .i64 a7,.int .i64 a8,.int .i64 a9,.int .i64 a10,.int .i64 a11,.own true 3 a12,.int .i64 a13]]
abbrev X:=Empty
def id:X→Nat:=fun _=>0
def st:X→List (PV U):=fun _=>[]
def begin (a0:Int) (a1:List az) (a2 a3:List Int) (a4 a5 a6 a7 a8 a9 a10 a11:Int) (a12:List Int) (a13:Int):Tr X A:=
 .last (.call (cN.told (wr ((wr (a5+a0))-a8)) (0:Int) a6) fun t1=> .last (.ret (a1,a2,a3,a4,t1,a6,a7,a8,a9,a10,a11,a12,a13)))
def tree:X→Tr X A:=fun _=> .fail
def f (a0:Int) (a1:List az) (a2 a3:List Int) (a4 a5 a6 a7 a8 a9 a10 a11:Int) (a12:List Int) (a13:Int):Option A:=(begin a0 a1 a2 a3 a4 a5 a6 a7 a8 a9 a10 a11 a12 a13).run (lp tree)
def Q:aE C:={PL with aU:=[],aT:=[(0,[19],(.take 0 [] (.take 1 [] (.take 2 [] (.take 3 [] (.take 5 [] (.take 7 [] (.take 8 [] (.take 9 [] (.take 12 [] (.take 13 [] (.take 14 [] (.take 4 [0,1,2,3,5,7,8,9,10,12,13,14,15] (.take 6 [] (.take 10 [0,1,2,3,4,5,6,7,8,9,12,13,14,15] (.take 11 [] (.take 15 [0,1,2,3,4,5,6,7,8,9,10,11,12,13,14] (.alt 16 (.take 17 [] (.take 18 [] (.alt 19 .done .nil))) .nil))))))))))))))))))],aQ:=[]}
theorem e:ay Pg C Q Tryz.f43 1 id st v o tree:=fun J K x=>by cases x
theorem b (a0:Int) (a1:List az) (a2 a3:List Int) (a4 a5 a6 a7 a8 a9 a10 a11:Int) (a12:List Int) (a13:Int):ax Pg C Q Tryz.f43 1 id st v o (S a0 a1 a2 a3 a4 a5 a6 a7 a8 a9 a10 a11 a12 a13) (begin a0 a1 a2 a3 a4 a5 a6 a7 a8 a9 a10 a11 a12 a13):=fun J K=>by kernel_rfl
def told (a0:Int) (a1:List az) (a2 a3:List Int) (a4 a5 a6 a7 a8 a9 a10 a11:Int) (a12:List Int) (a13:Int):aa.Told A:=⟨f a0 a1 a2 a3 a4 a5 a6 a7 a8 a9 a10 a11 a12 a13,fun r=>af Pg C 43 (S a0 a1 a2 a3 a4 a5 a6 a7 a8 a9 a10 a11 a12 a13) 1 (v r) (o r),fun r h=>ae G mixed Q Tryz.func43 rfl (of_decide_eq_true (by kernel_rfl)) (by rfl) id st v o (fun _=>rfl) tree e (begin a0 a1 a2 a3 a4 a5 a6 a7 a8 a9 a10 a11 a12 a13) (b a0 a1 a2 a3 a4 a5 a6 a7 a8 a9 a10 a11 a12 a13) h⟩
end cX
namespace fG
def S (a0 a1 a2 a3:Int):List (PV U):=aa.start C 29 [.agg [.int .i64 a0,.int .i64 a1],.int .i64 a2,.int .i64 a3] []
abbrev X:=Empty
def id:X→Nat:=fun _=>0
def st:X→List (PV U):=fun _=>[]
def begin (a0 a1 a2 a3:Int):Tr X A:=
 .call (eR.told a0 a1) fun t1=> .ite (!t1)
  (.ret (a0,a1))
  (.call (eR.told a2 a3) fun t2=> .ite (!t2)
   (.ret (a0,a1))
   (.ret ((if(wr (a0+a2))<(1000000:Int)then(wr (a0+a2))else(1000000:Int)),(if(wr (a1+a3))<(1000000:Int)then(wr (a1+a3))else(1000000:Int)))))
def tree:X→Tr X A:=fun _=> .fail
def f (a0 a1 a2 a3:Int):Option A:=(begin a0 a1 a2 a3).run (lp tree)
def Q:aE C:={PL with aU:=[],aT:=[],aQ:=[]}
theorem e:ay Pg C Q Tryz.f98 0 id st v o tree:=fun J K x=>by cases x
theorem b (a0 a1 a2 a3:Int):ax Pg C Q Tryz.f98 0 id st v o (S a0 a1 a2 a3) (begin a0 a1 a2 a3):=fun J K=>by kernel_rfl
def told (a0 a1 a2 a3:Int):aa.Told A:=⟨f a0 a1 a2 a3,fun r=>af Pg C 98 (S a0 a1 a2 a3) 0 (v r) (o r),fun r h=>ae G mixed Q Tryz.func98 rfl (of_decide_eq_true (by kernel_rfl)) (by rfl) id st v o (fun _=>rfl) tree e (begin a0 a1 a2 a3) (b a0 a1 a2 a3) h⟩
end fG
namespace fz
def S (a0 a1 a2:Int):List (PV U):=aa.start C 9 [.agg [.int .i64 a0,.int .i64 a1],.int .i64 a2] []
abbrev X:=Empty
def id:X→Nat:=fun _=>0
def st:X→List (PV U):=fun _=>[]
def begin (a0 a1 a2:Int):Tr X A:=
 .call (fG.told a0 a1 a2 a2) fun t1=> .ret (t1.1,t1.2)
def tree:X→Tr X A:=fun _=> .fail
def f (a0 a1 a2:Int):Option A:=(begin a0 a1 a2).run (lp tree)
def Q:aE C:={PL with aU:=[],aT:=[],aQ:=[]}
theorem e:ay Pg C Q Tryz.f44 0 id st v o tree:=fun J K x=>by cases x
theorem b (a0 a1 a2:Int):ax Pg C Q Tryz.f44 0 id st v o (S a0 a1 a2) (begin a0 a1 a2):=fun J K=>by kernel_rfl
def told (a0 a1 a2:Int):aa.Told A:=⟨f a0 a1 a2,fun r=>af Pg C 44 (S a0 a1 a2) 0 (v r) (o r),fun r h=>ae G mixed Q Tryz.func44 rfl (of_decide_eq_true (by kernel_rfl)) (by rfl) id st v o (fun _=>rfl) tree e (begin a0 a1 a2) (b a0 a1 a2) h⟩
end fz
namespace bm
def S (a0:List Int):List (PV U):=aa.start C 57 [.sl 3 a0] []
inductive X where
 | c8 (x0:List Int) (x1 x2:Int) (x3:List fY) (x4:Int)
def id:X→Nat
 | .c8 .. =>8
def st:X→List (PV U)
 | .c8 x0 x1 x2 x3 x4=>eH 57 [(0,.sl 3 x0),(3,.int .i64 x1),(5,.int .i64 x2),(6,.own true 173 x3),(7,.int .i64 x4)]
def begin (a0:List Int):Tr X A:=
 .ite (!decide ((List.length a0:Int)=(49:Int)))
  (.ret (([]:List fY)))
  (.aG ((0:Int)≤(8:Int)∧(8:Int)<(List.length a0:Int)) (.call (bj.told (eG a0 (8:Int))) fun t1=> .ite (decide (t1.2.1<(1:Int)))
   (.ret (([]:List fY)))
   (.jump (.c8 a0 t1.1 t1.2.2 ([]:List fY) (wr (t1.2.1-(1:Int)))))))
def tree:X→Tr X A
 | .c8 x0 x1 x2 x3 x4=>
 .ite (decide (x4≥(0:Int)))
  (.aG ((0:Int)≤(wr ((9:Int)+(wr ((2:Int)*x4))))∧(wr ((9:Int)+(wr ((2:Int)*x4))))<(List.length x0:Int)) (.call (dY.told (eG x0 (wr ((9:Int)+(wr ((2:Int)*x4)))))) fun t1=> .ite (!t1)
   (.ret (([]:List fY)))
   (.aG ((0:Int)≤(wr ((wr ((9:Int)+(wr ((2:Int)*x4))))+(1:Int)))∧(wr ((wr ((9:Int)+(wr ((2:Int)*x4))))+(1:Int)))<(List.length x0:Int)) (.val ([(⟨(eG x0 (wr ((9:Int)+(wr ((2:Int)*x4))))),(eG x0 (wr ((wr ((9:Int)+(wr ((2:Int)*x4))))+(1:Int))))⟩:fY)]:List fY) fun v2=> .aG (((List.length x3:Int)+(List.length v2:Int))*(16:Nat)≤room) (.jump (.c8 x0 x1 x2 (x3++v2) (wr (x4-(1:Int)))))))))
  (.call (bo.told x1 (0:Int) x2) fun t1=> .aG (((List.length x3:Int)+(List.length ([(⟨(8:Int),t1⟩:fY)]):Int))*(16:Nat)≤room) (.ret ((x3++[(⟨(8:Int),t1⟩:fY)]))))
def f (a0:List Int):Option A:=(begin a0).run (lp tree)
def Q:aE C:={PL with aU:=[(8,[0,3,5,6,7])],aT:=[],aQ:=[]}
theorem e:ay Pg C Q Tryz.f143 0 id st v o tree:=fun J K x=>by cases x<;>kernel_rfl
theorem b (a0:List Int):ax Pg C Q Tryz.f143 0 id st v o (S a0) (begin a0):=fun J K=>by kernel_rfl
def told (a0:List Int):aa.Told A:=⟨f a0,fun r=>af Pg C 143 (S a0) 0 (v r) (o r),fun r h=>ae G mixed Q Tryz.func143 rfl (of_decide_eq_true (by kernel_rfl)) (by rfl) id st v o (fun _=>rfl) tree e (begin a0) (b a0) h⟩
end bm
namespace aY
def S (a0:Int) (a1:List Int) (a2:Int) (a3:List (List Int)) (a4:Int):List (PV U):=aa.start C 19 [.ptr 19 0,.int .i64 a0] [.box [.own true 3 a1,.int .i64 a2,.own true 27 a3,.int .i64 a4]]
abbrev X:=Empty
def id:X→Nat:=fun _=>0
def st:X→List (PV U):=fun _=>[]
def begin (a0:Int) (a1:List Int) (a2:Int) (a3:List (List Int)) (a4:Int):Tr X A:=
 .ite (decide (a4<a0))
  (.ret (false,a1,a2,a3,a4))
  (.ret (true,a1,a2,a3,(wr (a4-a0))))
def tree:X→Tr X A:=fun _=> .fail
def f (a0:Int) (a1:List Int) (a2:Int) (a3:List (List Int)) (a4:Int):Option A:=(begin a0 a1 a2 a3 a4).run (lp tree)
def Q:aE C:={PL with aU:=[],aT:=[],aQ:=[]}
theorem e:ay Pg C Q Tryz.f144 1 id st v o tree:=fun J K x=>by cases x
theorem b (a0:Int) (a1:List Int) (a2:Int) (a3:List (List Int)) (a4:Int):ax Pg C Q Tryz.f144 1 id st v o (S a0 a1 a2 a3 a4) (begin a0 a1 a2 a3 a4):=fun J K=>by kernel_rfl
def told (a0:Int) (a1:List Int) (a2:Int) (a3:List (List Int)) (a4:Int):aa.Told A:=⟨f a0 a1 a2 a3 a4,fun r=>af Pg C 144 (S a0 a1 a2 a3 a4) 1 (v r) (o r),fun r h=>ae G mixed Q Tryz.func144 rfl (of_decide_eq_true (by kernel_rfl)) (by rfl) id st v o (fun _=>rfl) tree e (begin a0 a1 a2 a3 a4) (b a0 a1 a2 a3 a4) h⟩
end aY
namespace aO
def S (a0:List Int) (a1:Int) (a2:List (List Int)) (a3:Int):List (PV U):=aa.start C 28 [.ptr 28 0] [.box [.own true 3 a0,.int .i64 a1,.own true 27 a2,.int .i64 a3]]
inductive X where
 | c2 (x0:List fY) (x1 x2:Int) (x3:List Int) (x4:Int) (x5:List (List Int)) (x6:Int)
def id:X→Nat
 | .c2 .. =>2
def st:X→List (PV U)
 | .c2 x0 x1 x2 x3 x4 x5 x6=>eH 29 [(0,.ptr 28 0),(9,.own true 173 x0),(10,.int .i64 x1),(11,.int .i64 x2),(28,.box [.own true 3 x3,.int .i64 x4,.own true 27 x5,.int .i64 x6])]
def begin (a0:List Int) (a1:Int) (a2:List (List Int)) (a3:Int):Tr X A:=
 .call (bm.told a0) fun t1=> .jump (.c2 t1 (List.length t1:Int) (0:Int) a0 a1 a2 a3)
def tree:X→Tr X A
 | .c2 x0 x1 x2 x3 x4 x5 x6=>
 .ite (decide (x2<x1))
  (.aG ((0:Int)≤x2∧x2<(List.length x0:Int)) (.call (aY.told (3:Int) x3 x4 x5 x6) fun t1=> .ite (!t1.1)
   (.ret (false,t1.2.1,t1.2.2.1,t1.2.2.2.1,t1.2.2.2.2))
   (.aG ((0:Int)≤(mT x0 x2).f0∧(mT x0 x2).f0<(List.length t1.2.1:Int)) (.last (.jump (.c2 x0 x1 (wr (x2+(1:Int))) (List.set t1.2.1 (Int.toNat ((mT x0 x2).f0)) ((mT x0 x2).f1)) t1.2.2.1 t1.2.2.2.1 t1.2.2.2.2))))))
  (.ret (true,x3,x4,x5,x6))
def f (a0:List Int) (a1:Int) (a2:List (List Int)) (a3:Int):Option A:=(begin a0 a1 a2 a3).run (lp tree)
def Q:aE C:={PL with aU:=[(2,[0,9,10,11,28])],aT:=[(6,[9],(.take 0 [] (.take 1 [] (.take 2 [] (.take 4 [] (.take 6 [] (.take 3 [0,1,2,4,5,6,7] (.take 5 [0,1,2,3,4,6,7] (.take 7 [0,1,2,3,4,5,6] (.take 8 [] (.alt 9 .done .nil)))))))))))],aQ:=[]}
theorem e:ay Pg C Q Tryz.f99 1 id st v o tree:=fun J K x=>by cases x<;>kernel_rfl
theorem b (a0:List Int) (a1:Int) (a2:List (List Int)) (a3:Int):ax Pg C Q Tryz.f99 1 id st v o (S a0 a1 a2 a3) (begin a0 a1 a2 a3):=fun J K=>by kernel_rfl
def told (a0:List Int) (a1:Int) (a2:List (List Int)) (a3:Int):aa.Told A:=⟨f a0 a1 a2 a3,fun r=>af Pg C 99 (S a0 a1 a2 a3) 1 (v r) (o r),fun r h=>ae G mixed Q Tryz.func99 rfl (of_decide_eq_true (by kernel_rfl)) (by rfl) id st v o (fun _=>rfl) tree e (begin a0 a1 a2 a3) (b a0 a1 a2 a3) h⟩
end aO
namespace eZ
def S (a0:List Int):List (PV U):=aa.start C 9 [.sl 3 a0] []
abbrev X:=Empty
def id:X→Nat:=fun _=>0
def st:X→List (PV U):=fun _=>[]
def begin (a0:List Int):Tr X A:=
 .ite (!decide ((List.length a0:Int)=(49:Int)))
  (.ret (([]:List Int)))
  (.aG ((0:Int)≤(0:Int)∧(0:Int)≤(8:Int)∧(8:Int)≤(List.length a0:Int)) (.call (bc.told (List.take (Int.toNat (8:Int)) a0)) fun t1=> .ret t1))
def tree:X→Tr X A:=fun _=> .fail
def f (a0:List Int):Option A:=(begin a0).run (lp tree)
def Q:aE C:={PL with aU:=[],aT:=[],aQ:=[]}
theorem e:ay Pg C Q Tryz.f176 0 id st v o tree:=fun J K x=>by cases x
theorem b (a0:List Int):ax Pg C Q Tryz.f176 0 id st v o (S a0) (begin a0):=fun J K=>by kernel_rfl
def told (a0:List Int):aa.Told A:=⟨f a0,fun r=>af Pg C 176 (S a0) 0 (v r) (o r),fun r h=>ae G mixed Q Tryz.func176 rfl (of_decide_eq_true (by kernel_rfl)) (by rfl) id st v o (fun _=>rfl) tree e (begin a0) (b a0) h⟩
end eZ
namespace slices_Sort_int
def S (a0:List Int):List (PV U):=aa.start C 1 [.iL (1,[])] [.own true 3 a0]
noncomputable def f (a0:List Int):Option A:=if(a0.length:Int)<4611686018427387904 then some (a0.mergeSort fun x y=>decide (x≤y))else none
def told (a0:List Int):aa.Told A:=⟨f a0,fun r=>af Pg C 259 (S a0) 1 (v r) (o r),fun r h=>by
 unfold f at h;split at h
 ·rename_i hl;cases h;exact zp (C:=C) (e:=3) ⟨_,Tryz.func259,rfl,rfl⟩ (fun x:Int=>x) (fun _=>rfl) (fun blk off cap zs w=>Go.Proofs.Tryz.Ak blk off cap zs w) (fun p cap w=>Go.Proofs.Tryz.AF p cap w) (show List.length (α:=Int) a0<4611686018427387904 from by omega) (show List.map (fun x:Int=>x) (List.mergeSort (α:=Int) a0 fun x y=>decide (x≤y))=List.mergeSort (α:=Int) (List.map (fun x:Int=>x) a0) fun x y=>decide (x≤y)from by simp)
 ·cases h⟩
end slices_Sort_int
namespace slices_Compact_int
def S (a0:List Int):List (PV U):=aa.start C 1 [.own true 3 a0] []
def f (a0:List Int):Option A:=some (Lib.compact a0)
def told (a0:List Int):aa.Told A:=⟨f a0,fun r=>af Pg C 260 (S a0) 0 (v r) (o r),fun r h=>by
 cases h;exact vL (C:=C) (e:=3) ⟨_,Tryz.func260,rfl,rfl⟩ (fun x:Int=>x) (fun _=>rfl) (fun blk off cap zs w=>Go.Proofs.Tryz.xa blk off cap zs w) (fun p cap w=>Go.Proofs.Tryz.wD p cap w) (show List.map (fun x:Int=>x) (Lib.compact (α:=Int) a0)=Lib.compact (α:=Int) (List.map (fun x:Int=>x) a0)from by simp)⟩
end slices_Compact_int
namespace cU
def S (a0 a1 a2:Int):List (PV U):=aa.start C 32 [.agg [.int .i64 a0,.int .i64 a1,.int .i64 a2]] []
inductive X where
 | c5 (x0 x1:List Int) (x2 x3:Int)
def id:X→Nat
 | .c5 .. =>5
def st:X→List (PV U)
 | .c5 x0 x1 x2 x3=>eH 32 [(3,.own true 3 x0),(14,.own true 3 x1),(15,.int .i64 x2),(16,.int .i64 x3)]
def begin (a0 a1 a2:Int):Tr X A:=
 .call (cR.told a0 a1 a2) fun t1=> .ite (!t1)
  (.ret (([]:List Int)))
  (.jump (.c5 ([]:List Int) ([a1,a2]) (List.length ([a1,a2]):Int) (0:Int)))
def tree:X→Tr X A
 | .c5 x0 x1 x2 x3=>
 .ite (decide (x3<x2))
  (.aG ((0:Int)≤x3∧x3<(List.length x1:Int)) (.ite (decide ((eG x1 x3)<(0:Int)))
   (.aG (((List.length x0:Int)+(List.length ([(wr ((-1:Int)-(eG x1 x3)))]):Int))*(8:Nat)≤room) (.jump (.c5 (x0++[(wr ((-1:Int)-(eG x1 x3)))]) x1 x2 (wr (x3+(1:Int))))))
   (.jump (.c5 x0 x1 x2 (wr (x3+(1:Int)))))))
  (.call (slices_Sort_int.told x0) fun t1=> .call (slices_Compact_int.told t1) fun t2=> .ret t2)
def f (a0 a1 a2:Int):Option A:=(begin a0 a1 a2).run (lp tree)
def Q:aE C:={PL with aU:=[(5,[3,14,15,16])],aT:=[],aQ:=[]}
theorem e:ay Pg C Q Tryz.f258 0 id st v o tree:=fun J K x=>by cases x<;>kernel_rfl
theorem b (a0 a1 a2:Int):ax Pg C Q Tryz.f258 0 id st v o (S a0 a1 a2) (begin a0 a1 a2):=fun J K=>by kernel_rfl
def told (a0 a1 a2:Int):aa.Told A:=⟨f a0 a1 a2,fun r=>af Pg C 258 (S a0 a1 a2) 0 (v r) (o r),fun r h=>ae G mixed Q Tryz.func258 rfl (of_decide_eq_true (by kernel_rfl)) (by rfl) id st v o (fun _=>rfl) tree e (begin a0 a1 a2) (b a0 a1 a2) h⟩
end cU
end
end Go.Proofs.YtmapddgocpkgeaaGreat.Ev
