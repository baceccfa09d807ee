/- Functions as trees, with their contracts. No conditions. -/
import Derived.Test.YtmapddgocpkgeaaGreatNEvF13
namespace Go.Proofs.YtmapddgocpkgeaaGreat.Ev
open Go.Proofs.YtmapddgocpkgeaaGreat.aa Go.RowKit
set_option linter.unusedVariables false
set_option maxRecDepth 100000
noncomputable section
namespace cQ
def S (a0:List Int) (a1:Int):List (PV U):=aa.start C 34 [.sl 3 a0,.int .i64 a1] []
inductive X where
 | c6 (x0:List iw) (x1:List Int) (x2:Int)
def id:X→Nat
 | .c6 .. =>6
def st:X→List (PV U)
 | .c6 x0 x1 x2=>eA 34 [(5,.own true 182 x0),(6,.own true 3 x1),(7,.int .i64 x2)]
def begin (a0:List Int) (a1:Int):Tr X A:=
 .call (eO.told a0) fun t1=> .call (aE.told a1 (0:Int) (List.length t1:Int)) fun t2=> .ite (!t2)
  (.ret (([]:List iw)))
  (.jump (.c6 ([]:List iw) t1 a1))
def tree:X→Tr X A
 | .c6 x0 x1 x2=>
 .ite (decide (x2<(List.length x1:Int)))
  (.aC ((0:Int)≤x2∧x2<(List.length x1:Int)) (.aC (((List.length x0:Int)+(List.length ([(⟨x2,(dz x1 x2)⟩:iw)]):Int))*(16:Nat)≤room) (.jump (.c6 (x0++[(⟨x2,(dz x1 x2)⟩:iw)]) x1 (wr (x2+(1:Int)))))))
  (.ret x0)
def f (a0:List Int) (a1:Int):Option A:=(begin a0 a1).run (lp tree)
def Q:bE C:={PL with fM:=[(6,[5,6,7])]}
theorem e:df Pg C Q Tryz.f168 0 id st v o tree:=fun J K x=>by cases x<;>kernel_rfl
def told (a0:List Int) (a1:Int):aa.Told A:=⟨f a0 a1,fun r=>ae Pg C 168 (S a0 a1) 0 (v r) (o r),fun r h=>dy v o Tryz.func168 rfl (of_decide_eq_true (by kernel_rfl)) (by rfl) (fun _=>rfl) e (fun J K=>by kernel_rfl) h⟩
end cQ
namespace fD
def S (a0:List Int) (a1 a2:Int):List (PV U):=aa.start C 21 [.own true 3 a0,.agg [.int .i64 a1,.int .i64 a2]] []
def begin (a0:List Int) (a1 a2:Int):Tr Empty A:=
 .ite (decide (a1=(List.length a0:Int)))
  (.ite (decide ((List.length a0:Int)<(255:Int)))
   (.aC (((List.length a0:Int)+(List.length ([a2]):Int))*(8:Nat)≤room) (.ret ((a0++[a2]))))
   (.ret a0))
  (.ret a0)
def f (a0:List Int) (a1 a2:Int):Option A:=(begin a0 a1 a2).run (lp aF)
def told (a0:List Int) (a1 a2:Int):aa.Told A:=⟨f a0 a1 a2,fun r=>ae Pg C 203 (S a0 a1 a2) 0 (v r) (o r),fun r h=>aG (Q:=PL) v o Tryz.func203 rfl (of_decide_eq_true (by kernel_rfl)) (by rfl) (fun _=>rfl) (fun J K=>by kernel_rfl) h⟩
end fD
namespace bR
def S (a0:List Int) (a1:List iw) (a2:List Bool):List (PV U):=aa.start C 40 [.agg [.sl 3 a0],.sl 182 a1,.sl 4 a2] []
inductive X where
 | c3 (x0:List iw) (x1:List Bool) (x2 x3:List Int) (x4:Int)
def id:X→Nat
 | .c3 .. =>3
def st:X→List (PV U)
 | .c3 x0 x1 x2 x3 x4=>eA 40 [(1,.sl 182 x0),(2,.sl 4 x1),(6,.box [.own true 3 x2]),(8,.own true 3 x3),(9,.int .i64 x4)]
def begin (a0:List Int) (a1:List iw) (a2:List Bool):Tr X A:=
 .aC (((List.length ([]:List Int):Int)+(List.length a0:Int))*(8:Nat)≤room) (.jump (.c3 a1 a2 ([]:List Int) (([]:List Int)++a0) (0:Int)))
def tree:X→Tr X A
 | .c3 x0 x1 x2 x3 x4=>
 .ite (decide (x4<(List.length x0:Int)))
  (.ite (decide (x4<(List.length x1:Int)))
   (.aC ((0:Int)≤x4∧x4<(List.length x1:Int)) (.ite (Dt x1 x4)
    (.aC ((0:Int)≤x4∧x4<(List.length x0:Int)) (.call (fD.told x3 ((yg x0 x4).f0) ((yg x0 x4).f1)) fun t1=> .jump (.c3 x0 x1 x2 t1 (wr (x4+(1:Int))))))
    (.jump (.c3 x0 x1 x2 x3 (wr (x4+(1:Int)))))))
   (.ret (x3,(List.length x3:Int))))
  (.ret (x3,(List.length x3:Int)))
def f (a0:List Int) (a1:List iw) (a2:List Bool):Option A:=(begin a0 a1 a2).run (lp tree)
def Q:bE C:={PL with fM:=[(3,[1,2,6,8,9])]}
theorem e:df Pg C Q Tryz.f167 0 id st v o tree:=fun J K x=>by cases x<;>kernel_rfl
def told (a0:List Int) (a1:List iw) (a2:List Bool):aa.Told A:=⟨f a0 a1 a2,fun r=>ae Pg C 167 (S a0 a1 a2) 0 (v r) (o r),fun r h=>dy v o Tryz.func167 rfl (of_decide_eq_true (by kernel_rfl)) (by rfl) (fun _=>rfl) e (fun J K=>by kernel_rfl) h⟩
end bR
namespace ef
def S (a0:List Int) (a1:Int) (a2:List Int) (a3:List Bool) (a4:Bool):List (PV U):=aa.start C 37 [.sl 3 a0,.agg [.int .i64 a1,.sl 3 a2],.sl 4 a3,.bool a4] []
def begin (a0:List Int) (a1:Int) (a2:List Int) (a3:List Bool) (a4:Bool):Tr Empty A:=
 .call (eQ.told a1 a2) fun t1=> .call (fu.told a0 a1 a2) fun t2=> .ite (!t2)
  (.ret (t1.1,t1.2,false))
  (.both (.call (cQ.told a0 a1) fun t3=> .both (.call (bR.told t1.2 t3 a3) fun t4=> .last (.last (.ite a4
   (.ret (t4.2,t4.1,true))
   (.ret (t1.1,t4.1,true)))))
    (.last (.last (.call (bR.told t1.2 t3 a3) fun t4=> .last (.ite a4
     (.ret (t4.2,t4.1,true))
     (.ret (t1.1,t4.1,true)))))))
   (.last (.last (.call (cQ.told a0 a1) fun t3=> .last (.call (bR.told t1.2 t3 a3) fun t4=> .last (.ite a4
    (.ret (t4.2,t4.1,true))
    (.ret (t1.1,t4.1,true))))))))
def f (a0:List Int) (a1:Int) (a2:List Int) (a3:List Bool) (a4:Bool):Option A:=(begin a0 a1 a2 a3 a4).run (lp aF)
def Q:bE C:={PL with iH:=[(4,[12],(.take 0 [] (.take 2 [] (.take 3 [] (.take 6 [] (.take 1 [0,2,3,4,5,6,11] (.take 4 [0,1,2,3,6,11] (.alt 5 (.alt 7 (.take 8 [] (.take 9 [] (.take 10 [] (.alt 11 (.alt 12 (.take 13 [] .done) .nil) .nil)))) (.alt 11 (.alt 7 (.take 8 [] (.take 9 [] (.take 10 [] (.alt 12 (.take 13 [] .done) .nil)))) .nil) .nil)) (.alt 11 (.alt 5 (.alt 7 (.take 8 [] (.take 9 [] (.take 10 [] (.alt 12 (.take 13 [] .done) .nil)))) .nil) .nil) .nil)))))))))]}
def told (a0:List Int) (a1:Int) (a2:List Int) (a3:List Bool) (a4:Bool):aa.Told A:=⟨f a0 a1 a2 a3 a4,fun r=>ae Pg C 131 (S a0 a1 a2 a3 a4) 0 (v r) (o r),fun r h=>aG (Q:=Q) v o Tryz.func131 rfl (of_decide_eq_true (by kernel_rfl)) (by rfl) (fun _=>rfl) (fun J K=>by kernel_rfl) h⟩
end ef
namespace fy
def S (a0:List az) (a1 a2:List Int) (a3 a4 a5 a6 a7 a8 a9 a10:Int) (a11:List Int) (a12:Int) (a13:List Bool) (a14:Bool):List (PV U):=aa.start C 27 [.agg [.sl 164 a0,.sl 3 a1,.sl 3 a2,.int .i64 a3,.int .i64 a4,.int .i64 a5,.int .i64 a6,.int .i64 a7,.int .i64 a8,.int .i64 a9,.int .i64 a10,.sl 3 a11,.int .i64 a12],.sl 4 a13,.bool a14] []
def begin (a0:List az) (a1 a2:List Int) (a3 a4 a5 a6 a7 a8 a9 a10:Int) (a11:List Int) (a12:Int) (a13:List Bool) (a14:Bool):Tr Empty A:=
 .call (cV.told a0 a1 a2 a3 a4 a5 a6 a7 a8 a9 a10 a11 a12) fun t1=> .call (eZ.told a0 a1 a2 a3 a4 a5 a6 a7 a8 a9 a10 a11 a12) fun t2=> .ite (!t2)
  (.ret (t1.1,t1.2.1,t1.2.2.1,t1.2.2.2.1,t1.2.2.2.2.1,t1.2.2.2.2.2.1,t1.2.2.2.2.2.2.1,t1.2.2.2.2.2.2.2.1,t1.2.2.2.2.2.2.2.2.1,t1.2.2.2.2.2.2.2.2.2.1,t1.2.2.2.2.2.2.2.2.2.2.1,t1.2.2.2.2.2.2.2.2.2.2.2.1,t1.2.2.2.2.2.2.2.2.2.2.2.2,false))
  (.call (ef.told a1 a10 a11 a13 a14) fun t3=> .ret (t1.1,t1.2.1,t1.2.2.1,t1.2.2.2.1,t1.2.2.2.2.1,t1.2.2.2.2.2.1,t1.2.2.2.2.2.2.1,t1.2.2.2.2.2.2.2.1,t1.2.2.2.2.2.2.2.2.1,t1.2.2.2.2.2.2.2.2.2.1,t3.1,t3.2.1,t1.2.2.2.2.2.2.2.2.2.2.2.2,true))
def f (a0:List az) (a1 a2:List Int) (a3 a4 a5 a6 a7 a8 a9 a10:Int) (a11:List Int) (a12:Int) (a13:List Bool) (a14:Bool):Option A:=(begin a0 a1 a2 a3 a4 a5 a6 a7 a8 a9 a10 a11 a12 a13 a14).run (lp aF)
def told (a0:List az) (a1 a2:List Int) (a3 a4 a5 a6 a7 a8 a9 a10:Int) (a11:List Int) (a12:Int) (a13:List Bool) (a14:Bool):aa.Told A:=⟨f a0 a1 a2 a3 a4 a5 a6 a7 a8 a9 a10 a11 a12 a13 a14,fun r=>ae Pg C 78 (S a0 a1 a2 a3 a4 a5 a6 a7 a8 a9 a10 a11 a12 a13 a14) 0 (v r) (o r),fun r h=>aG (Q:=PL) v o Tryz.func78 rfl (of_decide_eq_true (by kernel_rfl)) (by rfl) (fun _=>rfl) (fun J K=>by kernel_rfl) h⟩
end fy
end
end Go.Proofs.YtmapddgocpkgeaaGreat.Ev
