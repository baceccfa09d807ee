/- Functions as trees, with their contracts. No conditions. -/
import Derived.Test.YtmapddgocpkgeaaGreatNEvF6
namespace Go.Proofs.YtmapddgocpkgeaaGreat.Ev
open Go.Proofs.YtmapddgocpkgeaaGreat.aa Go.RowKit
set_option linter.unusedVariables false
set_option maxRecDepth 100000
noncomputable section
namespace ba
def S (a0:List Int):List (PV U):=aa.start C 60 [.sl 3 a0] []
inductive X where
 | c6 (x0:List Int) (x1:List fY) (x2 x3 x4 x5:Int)
def id:X→Nat
 | .c6 .. =>6
def st:X→List (PV U)
 | .c6 x0 x1 x2 x3 x4 x5=>eA 60 [(0,.sl 3 x0),(3,.own true 173 x1),(4,.int .i64 x2),(5,.int .i64 x3),(6,.int .i64 x4),(7,.int .i64 x5)]
def begin (a0:List Int):Tr X A:=
 .ite (!decide ((List.length a0:Int)=(49:Int)))
  (.ret (([]:List fY)))
  (.aC ((0:Int)≤(8:Int)∧(8:Int)<(List.length a0:Int)) (.call (bk.told (dz a0 (8:Int))) fun t1=> .jump (.c6 a0 ([]:List fY) t1.1 t1.2.1 t1.2.2 (wr (t1.2.1-(1:Int))))))
def tree:X→Tr X A
 | .c6 x0 x1 x2 x3 x4 x5=>
 .ite (decide (x5≥(0:Int)))
  (.aC ((0:Int)≤(wr ((9:Int)+(wr ((2:Int)*x5))))∧(wr ((9:Int)+(wr ((2:Int)*x5))))<(List.length x0:Int)) (.call (aE.told (dz x0 (wr ((9:Int)+(wr ((2:Int)*x5))))) (0:Int) (7:Int)) fun t1=> .ite (!t1)
   (.ret (([]:List fY)))
   (.aC ((0:Int)≤(wr ((wr ((9:Int)+(wr ((2:Int)*x5))))+(1:Int)))∧(wr ((wr ((9:Int)+(wr ((2:Int)*x5))))+(1:Int)))<(List.length x0:Int)) (.val ([(⟨(dz x0 (wr ((9:Int)+(wr ((2:Int)*x5))))),(dz x0 (wr ((wr ((9:Int)+(wr ((2:Int)*x5))))+(1:Int))))⟩:fY)]:List fY) fun v2=> .aC (((List.length x1:Int)+(List.length v2:Int))*(16:Nat)≤room) (.jump (.c6 x0 (x1++v2) x2 x3 x4 (wr (x5-(1:Int)))))))))
  (.ite (decide (x3≤(0:Int)))
   (.ret x1)
   (.call (bz.told x2 (0:Int) x4) fun t1=> .aC (((List.length x1:Int)+(List.length ([(⟨(8:Int),t1⟩:fY)]):Int))*(16:Nat)≤room) (.ret ((x1++[(⟨(8:Int),t1⟩:fY)])))))
def f (a0:List Int):Option A:=(begin a0).run (lp tree)
def Q:bE C:={PL with fM:=[(6,[0,3,4,5,6,7])]}
theorem e:df Pg C Q Tryz.f158 0 id st v o tree:=fun J K x=>by cases x<;>kernel_rfl
def told (a0:List Int):aa.Told A:=⟨f a0,fun r=>ae Pg C 158 (S a0) 0 (v r) (o r),fun r h=>dy v o Tryz.func158 rfl (of_decide_eq_true (by kernel_rfl)) (by rfl) (fun _=>rfl) e (fun J K=>by kernel_rfl) h⟩
end ba
namespace bJ
def S (a0:List Int) (a1:List fY) (a2:Int):List (PV U):=aa.start C 45 [.sl 3 a0,.sl 173 a1,.int .i64 a2] []
inductive X where
 | c3 (x0:List Int) (x1:List fY) (x2:Int) (x3:List Int) (x4:Int)
def id:X→Nat
 | .c3 .. =>3
def st:X→List (PV U)
 | .c3 x0 x1 x2 x3 x4=>eA 45 [(0,.sl 3 x0),(1,.sl 173 x1),(2,.int .i64 x2),(7,.own true 3 x3),(8,.int .i64 x4)]
def begin (a0:List Int) (a1:List fY) (a2:Int):Tr X A:=
 .aC (((List.length ([]:List Int):Int)+(List.length a0:Int))*(8:Nat)≤room) (.jump (.c3 a0 a1 a2 (([]:List Int)++a0) (0:Int)))
def tree:X→Tr X A
 | .c3 x0 x1 x2 x3 x4=>
 .ite (decide (x4<(List.length x1:Int)))
  (.ite (decide (x4<x2))
   (.aC ((0:Int)≤x4∧x4<(List.length x1:Int)) (.call (aE.told ((nw x1 x4).f0) (0:Int) (wr ((List.length x0:Int)-(1:Int)))) fun t1=> .ite t1
    (.aC ((0:Int)≤x4∧x4<(List.length x1:Int)) (.aC ((0:Int)≤x4∧x4<(List.length x1:Int)) (.aC ((0:Int)≤(nw x1 x4).f0∧(nw x1 x4).f0<(List.length x3:Int)) (.last (.jump (.c3 x0 x1 x2 (List.set x3 (Int.toNat ((nw x1 x4).f0)) ((nw x1 x4).f1)) (wr (x4+(1:Int)))))))))
    (.jump (.c3 x0 x1 x2 x3 (wr (x4+(1:Int)))))))
   (.ret x3))
  (.ret x3)
def f (a0:List Int) (a1:List fY) (a2:Int):Option A:=(begin a0 a1 a2).run (lp tree)
def Q:bE C:={PL with fM:=[(3,[0,1,2,7,8])],iH:=[(6,[12],(.take 0 [] (.take 1 [] (.take 2 [] (.take 3 [] (.take 4 [] (.take 6 [] (.take 7 [] (.take 8 [] (.take 9 [] (.take 5 [0,1,2,3,4,6,7,8,9,10] (.take 10 [0,1,2,3,4,5,6,7,8,9] (.take 11 [] (.alt 12 .done .nil))))))))))))))]}
theorem e:df Pg C Q Tryz.f159 0 id st v o tree:=fun J K x=>by cases x<;>kernel_rfl
def told (a0:List Int) (a1:List fY) (a2:Int):aa.Told A:=⟨f a0 a1 a2,fun r=>ae Pg C 159 (S a0 a1 a2) 0 (v r) (o r),fun r h=>dy v o Tryz.func159 rfl (of_decide_eq_true (by kernel_rfl)) (by rfl) (fun _=>rfl) e (fun J K=>by kernel_rfl) h⟩
end bJ
namespace gB
def S (a0:List aw) (a1 a2 a3:Int):List (PV U):=aa.start C 11 [.agg [.sl 204 a0,.int .i64 a1,.int .i64 a2,.int .i64 a3]] []
def begin (a0:List aw) (a1 a2 a3:Int):Tr Empty A:=
 .call (bx.told a0) fun t1=> .ite t1
  (.call (cq.told a1 a2 a3) fun t2=> .ret t2)
  (.ret false)
def f (a0:List aw) (a1 a2 a3:Int):Option A:=(begin a0 a1 a2 a3).run (lp aF)
def told (a0:List aw) (a1 a2 a3:Int):aa.Told A:=⟨f a0 a1 a2 a3,fun r=>ae Pg C 226 (S a0 a1 a2 a3) 0 (v r) (o r),fun r h=>aG (Q:=PL) v o Tryz.func226 rfl (of_decide_eq_true (by kernel_rfl)) (by rfl) (fun _=>rfl) (fun J K=>by kernel_rfl) h⟩
end gB
namespace cO
def S (a0 a1 a2 a3 a4 a5:Int):List (PV U):=aa.start C 11 [.agg [.int .i64 a0,.int .i64 a1,.int .i64 a2,.int .i64 a3,.int .i64 a4,.int .i64 a5]] []
def begin (a0 a1 a2 a3 a4 a5:Int):Tr Empty A:=
 .ite (decide (a0=(1:Int)))
  (.ret true)
  (.ret ((decide (a0=(2:Int)))))
def f (a0 a1 a2 a3 a4 a5:Int):Option A:=(begin a0 a1 a2 a3 a4 a5).run (lp aF)
def told (a0 a1 a2 a3 a4 a5:Int):aa.Told A:=⟨f a0 a1 a2 a3 a4 a5,fun r=>ae Pg C 248 (S a0 a1 a2 a3 a4 a5) 0 (v r) (o r),fun r h=>aG (Q:=PL) v o Tryz.func248 rfl (of_decide_eq_true (by kernel_rfl)) (by rfl) (fun _=>rfl) (fun J K=>by kernel_rfl) h⟩
end cO
namespace bV
def S (a0:List Bool):List (PV U):=aa.start C 21 [.sl 4 a0] []
inductive X where
 | c3 (x0:List Bool) (x1:List Int) (x2:Int)
def id:X→Nat
 | .c3 .. =>3
def st:X→List (PV U)
 | .c3 x0 x1 x2=>eA 21 [(0,.sl 4 x0),(3,.own true 3 x1),(4,.int .i64 x2)]
def begin (a0:List Bool):Tr X A:=
 .jump (.c3 a0 ([]:List Int) (0:Int))
def tree:X→Tr X A
 | .c3 x0 x1 x2=>
 .ite (decide (x2<(List.length x0:Int)))
  (.aC ((0:Int)≤x2∧x2<(List.length x0:Int)) (.ite (Dt x0 x2)
   (.aC (((List.length x1:Int)+(List.length ([x2]):Int))*(8:Nat)≤room) (.jump (.c3 x0 (x1++[x2]) (wr (x2+(1:Int))))))
   (.jump (.c3 x0 x1 (wr (x2+(1:Int)))))))
  (.ret x1)
def f (a0:List Bool):Option A:=(begin a0).run (lp tree)
def Q:bE C:={PL with fM:=[(3,[0,3,4])]}
theorem e:df Pg C Q Tryz.f249 0 id st v o tree:=fun J K x=>by cases x<;>kernel_rfl
def told (a0:List Bool):aa.Told A:=⟨f a0,fun r=>ae Pg C 249 (S a0) 0 (v r) (o r),fun r h=>dy v o Tryz.func249 rfl (of_decide_eq_true (by kernel_rfl)) (by rfl) (fun _=>rfl) e (fun J K=>by kernel_rfl) h⟩
end bV
namespace di
def S (a0:List aw):List (PV U):=aa.start C 30 [.sl 204 a0] []
inductive X where
 | c3 (x0:List aw) (x1:List Bool) (x2:Int)
def id:X→Nat
 | .c3 .. =>3
def st:X→List (PV U)
 | .c3 x0 x1 x2=>eA 30 [(0,.sl 204 x0),(3,.own true 4 x1),(4,.int .i64 x2)]
def begin (a0:List aw):Tr X A:=
 .aC ((0:Int)≤(8:Int)∧(8:Int)≤(8:Int)∧(8:Int)*(1:Nat)≤room) (.jump (.c3 a0 (List.replicate (Int.toNat (8:Int)) false) (0:Int)))
def tree:X→Tr X A
 | .c3 x0 x1 x2=>
 .ite (decide (x2<(List.length x0:Int)))
  (.call (bx.told x0) fun t1=> .ite t1
   (.aC ((0:Int)≤x2∧x2<(List.length x0:Int)) (.call (cO.told ((ak x0 x2).f0) ((ak x0 x2).f1) ((ak x0 x2).f2) ((ak x0 x2).f3.f0) ((ak x0 x2).f3.f1) ((ak x0 x2).f3.f2)) fun t2=> .ite t2
    (.aC ((0:Int)≤x2∧x2<(List.length x0:Int)) (.aC ((0:Int)≤(ak x0 x2).f1∧(ak x0 x2).f1<(List.length x1:Int)) (.jump (.c3 x0 (List.set x1 (Int.toNat ((ak x0 x2).f1)) true) (wr (x2+(1:Int)))))))
    (.jump (.c3 x0 x1 (wr (x2+(1:Int)))))))
   (.call (bV.told x1) fun t2=> .ret t2))
  (.call (bV.told x1) fun t1=> .ret t1)
def f (a0:List aw):Option A:=(begin a0).run (lp tree)
def Q:bE C:={PL with fM:=[(3,[0,3,4])]}
theorem e:df Pg C Q Tryz.f227 0 id st v o tree:=fun J K x=>by cases x<;>kernel_rfl
def told (a0:List aw):aa.Told A:=⟨f a0,fun r=>ae Pg C 227 (S a0) 0 (v r) (o r),fun r h=>dy v o Tryz.func227 rfl (of_decide_eq_true (by kernel_rfl)) (by rfl) (fun _=>rfl) e (fun J K=>by kernel_rfl) h⟩
end di
namespace eT
def S (a0 a1 a2 a3 a4 a5:Int):List (PV U):=aa.start C 11 [.agg [.int .i64 a0,.int .i64 a1,.int .i64 a2,.int .i64 a3,.int .i64 a4,.int .i64 a5]] []
def begin (a0 a1 a2 a3 a4 a5:Int):Tr Empty A:=
 .ite (decide (a0=(4:Int)))
  (.ret true)
  (.ret ((decide (a0=(5:Int)))))
def f (a0 a1 a2 a3 a4 a5:Int):Option A:=(begin a0 a1 a2 a3 a4 a5).run (lp aF)
def told (a0 a1 a2 a3 a4 a5:Int):aa.Told A:=⟨f a0 a1 a2 a3 a4 a5,fun r=>ae Pg C 257 (S a0 a1 a2 a3 a4 a5) 0 (v r) (o r),fun r h=>aG (Q:=PL) v o Tryz.func257 rfl (of_decide_eq_true (by kernel_rfl)) (by rfl) (fun _=>rfl) (fun J K=>by kernel_rfl) h⟩
end eT
namespace cn
def S (a0:List aw) (a1:Int):List (PV U):=aa.start C 32 [.sl 204 a0,.int .i64 a1] []
inductive X where
 | c3 (x0:List aw) (x1 x2:Int)
def id:X→Nat
 | .c3 .. =>3
def st:X→List (PV U)
 | .c3 x0 x1 x2=>eA 32 [(0,.sl 204 x0),(5,.int .i64 x1),(6,.int .i64 x2)]
def begin (a0:List aw) (a1:Int):Tr X A:=
 .jump (.c3 a0 (0:Int) a1)
def tree:X→Tr X A
 | .c3 x0 x1 x2=>
 .ite (decide (x2<(List.length x0:Int)))
  (.aC ((0:Int)≤x2∧x2<(List.length x0:Int)) (.call (eT.told ((ak x0 x2).f0) ((ak x0 x2).f1) ((ak x0 x2).f2) ((ak x0 x2).f3.f0) ((ak x0 x2).f3.f1) ((ak x0 x2).f3.f2)) fun t1=> .ite t1
   (.aC ((0:Int)≤x2∧x2<(List.length x0:Int)) (.ite (decide ((ak x0 x2).f0=(6:Int)))
    (.ite (decide ((wr ((wr (x1+(1:Int)))-(1:Int)))=(0:Int)))
     (.ret x2)
     (.jump (.c3 x0 (wr ((wr (x1+(1:Int)))-(1:Int))) (wr (x2+(1:Int))))))
    (.jump (.c3 x0 (wr (x1+(1:Int))) (wr (x2+(1:Int)))))))
   (.aC ((0:Int)≤x2∧x2<(List.length x0:Int)) (.ite (decide ((ak x0 x2).f0=(6:Int)))
    (.ite (decide ((wr (x1-(1:Int)))=(0:Int)))
     (.ret x2)
     (.jump (.c3 x0 (wr (x1-(1:Int))) (wr (x2+(1:Int))))))
    (.jump (.c3 x0 x1 (wr (x2+(1:Int)))))))))
  (.ret ((-1:Int)))
def f (a0:List aw) (a1:Int):Option A:=(begin a0 a1).run (lp tree)
def Q:bE C:={PL with fM:=[(3,[0,5,6])]}
theorem e:df Pg C Q Tryz.f235 0 id st v o tree:=fun J K x=>by cases x<;>kernel_rfl
def told (a0:List aw) (a1:Int):aa.Told A:=⟨f a0 a1,fun r=>ae Pg C 235 (S a0 a1) 0 (v r) (o r),fun r h=>dy v o Tryz.func235 rfl (of_decide_eq_true (by kernel_rfl)) (by rfl) (fun _=>rfl) e (fun J K=>by kernel_rfl) h⟩
end cn
end
end Go.Proofs.YtmapddgocpkgeaaGreat.Ev
