/- Functions as trees, with their contracts. No conditions. -/
import Derived.Test.YtmapddgocpkgeaaGreatNEvF15
namespace Go.Proofs.YtmapddgocpkgeaaGreat.Ev
open Go.Proofs.YtmapddgocpkgeaaGreat.aa Go.RowKit
set_option linter.unusedVariables false
set_option maxRecDepth 100000
noncomputable section
namespace eX
def S (a0:List Int):List (PV U):=aa.start C 6 [.sl 5 a0] []
def begin (a0:List Int):Tr Empty A:=
 .call (eJ.told a0) fun t1=> .call (bw.told t1.1 t1.2.1 t1.2.2) fun t2=> .ret (t2.1,t2.2.1,t2.2.2.1,t2.2.2.2.1,t2.2.2.2.2.1,t2.2.2.2.2.2.1,t2.2.2.2.2.2.2.1,t2.2.2.2.2.2.2.2.1,t2.2.2.2.2.2.2.2.2.1,t2.2.2.2.2.2.2.2.2.2.1,t2.2.2.2.2.2.2.2.2.2.2.1,t2.2.2.2.2.2.2.2.2.2.2.2.1,t2.2.2.2.2.2.2.2.2.2.2.2.2.1)
def f (a0:List Int):Option A:=(begin a0).run (lp aF)
def told (a0:List Int):aa.Told A:=⟨f a0,fun r=>ae Pg C 9 (S a0) 0 (v r) (o r),fun r h=>aG (Q:=PL) v o Tryz.func9 rfl (of_decide_eq_true (by kernel_rfl)) (by rfl) (fun _=>rfl) (fun J K=>by kernel_rfl) h⟩
end eX
namespace cG
def S (a0:List Int):List (PV U):=aa.start C 19 [.sl 5 a0] []
inductive X where
 | c4 (x0:List Int) (x1:Int) (x2:List Int) (x3 x4:Int)
def id:X→Nat
 | .c4 .. =>4
def st:X→List (PV U)
 | .c4 x0 x1 x2 x3 x4=>eA 19 [(3,.ptr 7 0),(4,.own true 3 x0),(5,.int .i64 x1),(7,.box [.sl 5 x2,.int .i64 x3,.int .i64 x4])]
def begin (a0:List Int):Tr X A:=
 .call (eJ.told a0) fun t1=> .jump (.c4 ([]:List Int) (0:Int) t1.1 t1.2.1 t1.2.2)
def tree:X→Tr X A
 | .c4 x0 x1 x2 x3 x4=>
 .ite (decide (x1<(12:Int)))
  (.call (ar.told (10000:Int) x2 x3 x4) fun t1=> .aC (((List.length x0:Int)+(List.length ([t1.1]):Int))*(8:Nat)≤room) (.jump (.c4 (x0++[t1.1]) (wr (x1+(1:Int))) t1.2.1 t1.2.2.1 t1.2.2.2)))
  (.ret x0)
def f (a0:List Int):Option A:=(begin a0).run (lp tree)
def Q:bE C:={PL with fM:=[(4,[3,4,5,7])]}
theorem e:df Pg C Q Tryz.f10 0 id st v o tree:=fun J K x=>by cases x<;>kernel_rfl
def told (a0:List Int):aa.Told A:=⟨f a0,fun r=>ae Pg C 10 (S a0) 0 (v r) (o r),fun r h=>dy v o Tryz.func10 rfl (of_decide_eq_true (by kernel_rfl)) (by rfl) (fun _=>rfl) e (fun J K=>by kernel_rfl) h⟩
end cG
namespace bB
def S (a0:List aw):List (PV U):=aa.start C 8 [.sl 204 a0] []
def begin (a0:List aw):Tr Empty A:=
 .wq a0
  (.ret (([]:List aw)))
  (.aC (((List.length ([]:List aw):Int)+(List.length a0:Int))*(48:Nat)≤room) (.ret ((([]:List aw)++a0))))
def f (a0:List aw):Option A:=(begin a0).run (lp aF)
def told (a0:List aw):aa.Told A:=⟨f a0,fun r=>ae Pg C 175 (S a0) 0 (v r) (o r),fun r h=>aG (Q:=PL) v o Tryz.func175 rfl (of_decide_eq_true (by kernel_rfl)) (by rfl) (fun _=>rfl) (fun J K=>by kernel_rfl) h⟩
end bB
namespace eS
def S (a0:List aw) (a1 a2 a3:Int):List (PV U):=aa.start C 8 [.agg [.sl 204 a0,.int .i64 a1,.int .i64 a2,.int .i64 a3]] []
def begin (a0:List aw) (a1 a2 a3:Int):Tr Empty A:=
 .call (bB.told a0) fun t1=> .ret (t1,a1,a2,a3)
def f (a0:List aw) (a1 a2 a3:Int):Option A:=(begin a0 a1 a2 a3).run (lp aF)
def told (a0:List aw) (a1 a2 a3:Int):aa.Told A:=⟨f a0 a1 a2 a3,fun r=>ae Pg C 142 (S a0 a1 a2 a3) 0 (v r) (o r),fun r h=>aG (Q:=PL) v o Tryz.func142 rfl (of_decide_eq_true (by kernel_rfl)) (by rfl) (fun _=>rfl) (fun J K=>by kernel_rfl) h⟩
end eS
namespace cf
def S (a0:List az):List (PV U):=aa.start C 23 [.agg [.sl 164 a0]] []
inductive X where
 | c3 (x0 x1 x2:List az) (x3 x4:Int)
def id:X→Nat
 | .c3 .. =>3
def st:X→List (PV U)
 | .c3 x0 x1 x2 x3 x4=>eA 23 [(2,.box [.own true 164 x0]),(3,.box [.own true 164 x1]),(8,.sl 164 x2),(9,.int .i64 x3),(10,.int .i64 x4)]
def begin (a0:List az):Tr X A:=
 .jump (.c3 ([]:List az) ([]:List az) a0 (List.length a0:Int) (0:Int))
def tree:X→Tr X A
 | .c3 x0 x1 x2 x3 x4=>
 .ite (decide (x4<x3))
  (.aC ((0:Int)≤x4∧x4<(List.length x2:Int)) (.both (.last (.call (eS.told ((cy x2 x4).f0) ((cy x2 x4).f1.f0) ((cy x2 x4).f1.f1) ((cy x2 x4).f1.f2)) fun t1=> .last (.last (.aC (((List.length x1:Int)+(List.length ([(⟨t1.1,(⟨t1.2.1,t1.2.2.1,t1.2.2.2⟩:iZ)⟩:az)]):Int))*(48:Nat)≤room) (.last (.jump (.c3 x0 (x1++[(⟨t1.1,(⟨t1.2.1,t1.2.2.1,t1.2.2.2⟩:iZ)⟩:az)]) x2 x3 (wr (x4+(1:Int))))))))))
   (.last (.call (eS.told ((cy x2 x4).f0) ((cy x2 x4).f1.f0) ((cy x2 x4).f1.f1) ((cy x2 x4).f1.f2)) fun t1=>let u1_0:Tr X A:=(.last (.last (.aC (((List.length x1:Int)+(List.length ([(⟨t1.1,(⟨t1.2.1,t1.2.2.1,t1.2.2.2⟩:iZ)⟩:az)]):Int))*(48:Nat)≤room) (.last (.jump (.c3 x0 (x1++[(⟨t1.1,(⟨t1.2.1,t1.2.2.1,t1.2.2.2⟩:iZ)⟩:az)]) x2 x3 (wr (x4+(1:Int))))))))); .both (u1_0)
    (u1_0)))))
  (.ret x1)
def f (a0:List az):Option A:=(begin a0).run (lp tree)
def Q:bE C:={PL with fM:=[(3,[2,3,8,9,10])],iH:=[(5,[4,5,7],(.take 0 [] (.take 2 [0,1] (.alt 1 (.alt 3 (.alt 4 (.alt 5 (.take 6 [] (.alt 7 .done .nil)) .nil) .nil) .nil) (.alt 3 (.alt 1 (.alt 4 (.alt 5 (.take 6 [] (.alt 7 .done .nil)) .nil) .nil) (.alt 4 (.take 1 [0,2,3,4] (.alt 5 (.take 6 [] (.alt 7 .done .nil)) .nil)) .nil)) .nil)))))]}
theorem e:df Pg C Q Tryz.f95 0 id st v o tree:=fun J K x=>by cases x<;>kernel_rfl
def told (a0:List az):aa.Told A:=⟨f a0,fun r=>ae Pg C 95 (S a0) 0 (v r) (o r),fun r h=>dy v o Tryz.func95 rfl (of_decide_eq_true (by kernel_rfl)) (by rfl) (fun _=>rfl) e (fun J K=>by kernel_rfl) h⟩
end cf
namespace aL
def S (a0:List Int):List (PV U):=aa.start C 8 [.sl 3 a0] []
def begin (a0:List Int):Tr Empty A:=
 .wq a0
  (.ret (([]:List Int)))
  (.aC (((List.length ([]:List Int):Int)+(List.length a0:Int))*(8:Nat)≤room) (.ret ((([]:List Int)++a0))))
def f (a0:List Int):Option A:=(begin a0).run (lp aF)
def told (a0:List Int):aa.Told A:=⟨f a0,fun r=>ae Pg C 55 (S a0) 0 (v r) (o r),fun r h=>aG (Q:=PL) v o Tryz.func55 rfl (of_decide_eq_true (by kernel_rfl)) (by rfl) (fun _=>rfl) (fun J K=>by kernel_rfl) h⟩
end aL
namespace dN
def S (a0:Int) (a1:List Int):List (PV U):=aa.start C 11 [.agg [.int .i64 a0,.sl 3 a1]] []
def begin (a0:Int) (a1:List Int):Tr Empty A:=
 .both (.last (.call (aL.told a1) fun t1=> .last (.last (.last (.ret (a0,t1))))))
  (.last (.call (aL.told a1) fun t1=> .both (.last (.last (.last (.ret (a0,t1)))))
   (.last (.last (.last (.ret (a0,t1)))))))
def f (a0:Int) (a1:List Int):Option A:=(begin a0 a1).run (lp aF)
def Q:bE C:={PL with iH:=[(1,[6,7,8],(.take 0 [] (.take 2 [] (.take 3 [] (.take 4 [0,1,2,3] (.alt 1 (.alt 5 (.alt 6 (.alt 7 (.alt 8 .done .nil) .nil) .nil) .nil) (.alt 5 (.alt 1 (.alt 6 (.alt 7 (.alt 8 .done .nil) .nil) .nil) (.alt 6 (.take 1 [0,2,3,4,5,6] (.alt 7 (.alt 8 .done .nil) .nil)) .nil)) .nil)))))))]}
def told (a0:Int) (a1:List Int):aa.Told A:=⟨f a0 a1,fun r=>ae Pg C 96 (S a0 a1) 0 (v r) (o r),fun r h=>aG (Q:=Q) v o Tryz.func96 rfl (of_decide_eq_true (by kernel_rfl)) (by rfl) (fun _=>rfl) (fun J K=>by kernel_rfl) h⟩
end dN
namespace cZ
def S (a0:List az) (a1 a2:List Int) (a3 a4 a5 a6 a7 a8 a9 a10:Int) (a11:List Int) (a12:Int):List (PV U):=aa.start C 20 [.agg [.sl 164 a0,.sl 3 a1,.sl 3 a2,.int .i64 a3,.int .i64 a4,.int .i64 a5,.int .i64 a6,.int .i64 a7,.int .i64 a8,.int .i64 a9,.int .i64 a10,.sl 3 a11,.int .i64 a12]] []
def begin (a0:List az) (a1 a2:List Int) (a3 a4 a5 a6 a7 a8 a9 a10:Int) (a11:List Int) (a12:Int):Tr Empty A:=
 .last (.call (cf.told a0) fun t1=> .last (.call (aL.told a1) fun t2=> .last (.call (aL.told a2) fun t3=> .last (.call (dN.told a10 a11) fun t4=> .last (.last (.last (.last (.ret (t1,t2,t3,a3,a4,a5,a6,a7,a8,a9,t4.1,t4.2,a12)))))))))
def f (a0:List az) (a1 a2:List Int) (a3 a4 a5 a6 a7 a8 a9 a10:Int) (a11:List Int) (a12:Int):Option A:=(begin a0 a1 a2 a3 a4 a5 a6 a7 a8 a9 a10 a11 a12).run (lp aF)
def Q:bE C:={PL with iH:=[(1,[13,15,17,19],(.take 0 [] (.take 3 [] (.take 6 [] (.take 9 [] (.take 1 [0,3,4,6,7,9,10] (.take 4 [0,1,2,3,6,7,9,10] (.take 7 [0,1,2,3,4,5,6,9,10] (.take 10 [0,1,2,3,4,5,6,7,8,9] (.alt 2 (.take 12 [] (.alt 5 (.alt 8 (.alt 11 (.alt 13 (.take 14 [] (.alt 15 (.take 16 [] (.alt 17 (.take 18 [] (.alt 19 .done .nil)) .nil)) .nil)) .nil) .nil) .nil) .nil)) .nil))))))))))]}
def told (a0:List az) (a1 a2:List Int) (a3 a4 a5 a6 a7 a8 a9 a10:Int) (a11:List Int) (a12:Int):aa.Told A:=⟨f a0 a1 a2 a3 a4 a5 a6 a7 a8 a9 a10 a11 a12,fun r=>ae Pg C 41 (S a0 a1 a2 a3 a4 a5 a6 a7 a8 a9 a10 a11 a12) 0 (v r) (o r),fun r h=>aG (Q:=Q) v o Tryz.func41 rfl (of_decide_eq_true (by kernel_rfl)) (by rfl) (fun _=>rfl) (fun J K=>by kernel_rfl) h⟩
end cZ
namespace aK
def S (a0 a1 a2:Int):List (PV U):=aa.start C 15 [.int .i64 a0,.int .i64 a1,.int .i64 a2] []
def begin (a0 a1 a2:Int):Tr Empty A:=
 .ite (decide (a0≥a1))
  (.ret ((decide (a0≤a2))))
  (.ret false)
def f (a0 a1 a2:Int):Option A:=(begin a0 a1 a2).run (lp aF)
def told (a0 a1 a2:Int):aa.Told A:=⟨f a0 a1 a2,fun r=>ae Pg C 50 (S a0 a1 a2) 0 (v r) (o r),fun r h=>aG (Q:=PL) v o Tryz.func50 rfl (of_decide_eq_true (by kernel_rfl)) (by rfl) (fun _=>rfl) (fun J K=>by kernel_rfl) h⟩
end aK
namespace bZ
def S (a0:Int):List (PV U):=aa.start C 9 [.int .i64 a0] []
def begin (a0:Int):Tr Empty A:=
 .ite (decide (a0=(1:Int)))
  (.ret true)
  (.ret ((decide (a0=(2:Int)))))
def f (a0:Int):Option A:=(begin a0).run (lp aF)
def told (a0:Int):aa.Told A:=⟨f a0,fun r=>ae Pg C 245 (S a0) 0 (v r) (o r),fun r h=>aG (Q:=PL) v o Tryz.func245 rfl (of_decide_eq_true (by kernel_rfl)) (by rfl) (fun _=>rfl) (fun J K=>by kernel_rfl) h⟩
end bZ
namespace eF
def S (a0:Int):List (PV U):=aa.start C 5 [.int .i64 a0] []
def begin (a0:Int):Tr Empty A:=
 .call (aK.told a0 (0:Int) (7:Int)) fun t1=> .ret t1
def f (a0:Int):Option A:=(begin a0).run (lp aF)
def told (a0:Int):aa.Told A:=⟨f a0,fun r=>ae Pg C 105 (S a0) 0 (v r) (o r),fun r h=>aG (Q:=PL) v o Tryz.func105 rfl (of_decide_eq_true (by kernel_rfl)) (by rfl) (fun _=>rfl) (fun J K=>by kernel_rfl) h⟩
end eF
end
end Go.Proofs.YtmapddgocpkgeaaGreat.Ev
