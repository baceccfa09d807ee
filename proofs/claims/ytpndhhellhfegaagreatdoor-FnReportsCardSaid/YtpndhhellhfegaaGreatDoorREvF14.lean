/- Functions as trees, with their contracts. No conditions. -/
import Derived.Test.YtpndhhellhfegaaGreatDoorREvF13
namespace Go.Proofs.YtpndhhellhfegaaGreatDoor.Ev
open Go.Proofs.YtpndhhellhfegaaGreatDoor.aa Go.RowKit
set_option linter.unusedVariables false
set_option maxRecDepth 100000
noncomputable section
namespace cv
def S (a0:List Int) (a1:Int):List (PV U):=aa.start C 34 [.sl 3 a0,.int .i64 a1] []
inductive X where
 | c6 (x0:List iA) (x1:List Int) (x2:Int)
def id:X→Nat
 | .c6 .. =>6
def st:X→List (PV U)
 | .c6 x0 x1 x2=>gf 34 [(5,.own true 192 x0),(6,.own true 3 x1),(7,.int .i64 x2)]
def begin (a0:List Int) (a1:Int):Tr X A:=
 .call (dI.told a0) fun t1=> .call (aC.told a1 (0:Int) (List.length t1:Int)) fun t2=> .ite (!t2)
  (.ret (([]:List iA)))
  (.jump (.c6 ([]:List iA) t1 a1))
def tree:X→Tr X A
 | .c6 x0 x1 x2=>
 .ite (decide (x2<(List.length x1:Int)))
  (.ax ((0:Int)≤x2∧x2<(List.length x1:Int)) (.ax (((List.length x0:Int)+(List.length ([(⟨x2,(cT x1 x2)⟩:iA)]):Int))*(16:Nat)≤room) (.jump (.c6 (x0++[(⟨x2,(cT x1 x2)⟩:iA)]) x1 (wr (x2+(1:Int)))))))
  (.ret x0)
def f (a0:List Int) (a1:Int):Option A:=(begin a0 a1).run (lp tree)
def Q:ck C:={PL with gT:=[(6,[5,6,7])]}
theorem e:fr Pg C Q Tryz.f130 0 id st v o tree:=fun J K x=>by cases x<;>kernel_rfl
def told (a0:List Int) (a1:Int):aa.Told A:=⟨f a0 a1,fun r=>ah Pg C 130 (S a0 a1) 0 (v r) (o r),fun r h=>fI v o Tryz.func130 rfl (of_decide_eq_true (by kernel_rfl)) (by rfl) (fun _=>rfl) e (fun J K=>by kernel_rfl) h⟩
end cv
namespace fc
def S (a0:List Int) (a1 a2:Int):List (PV U):=aa.start C 21 [.own true 3 a0,.agg [.int .i64 a1,.int .i64 a2]] []
def begin (a0:List Int) (a1 a2:Int):Tr Empty A:=
 .ite (decide (a1=(List.length a0:Int)))
  (.ite (decide ((List.length a0:Int)<(255:Int)))
   (.ax (((List.length a0:Int)+(List.length ([a2]):Int))*(8:Nat)≤room) (.ret ((a0++[a2]))))
   (.ret a0))
  (.ret a0)
def f (a0:List Int) (a1 a2:Int):Option A:=(begin a0 a1 a2).run (lp aB)
def told (a0:List Int) (a1 a2:Int):aa.Told A:=⟨f a0 a1 a2,fun r=>ah Pg C 150 (S a0 a1 a2) 0 (v r) (o r),fun r h=>aY (Q:=PL) v o Tryz.func150 rfl (of_decide_eq_true (by kernel_rfl)) (by rfl) (fun _=>rfl) (fun J K=>by kernel_rfl) h⟩
end fc
namespace bN
def S (a0:List Int) (a1:List iA) (a2:List Bool):List (PV U):=aa.start C 40 [.agg [.sl 3 a0],.sl 192 a1,.sl 4 a2] []
inductive X where
 | c3 (x0:List iA) (x1:List Bool) (x2 x3:List Int) (x4:Int)
def id:X→Nat
 | .c3 .. =>3
def st:X→List (PV U)
 | .c3 x0 x1 x2 x3 x4=>gf 40 [(1,.sl 192 x0),(2,.sl 4 x1),(6,.box [.own true 3 x2]),(8,.own true 3 x3),(9,.int .i64 x4)]
def begin (a0:List Int) (a1:List iA) (a2:List Bool):Tr X A:=
 .ax (((List.length ([]:List Int):Int)+(List.length a0:Int))*(8:Nat)≤room) (.jump (.c3 a1 a2 ([]:List Int) (([]:List Int)++a0) (0:Int)))
def tree:X→Tr X A
 | .c3 x0 x1 x2 x3 x4=>
 .ite (decide (x4<(List.length x0:Int)))
  (.ite (decide (x4<(List.length x1:Int)))
   (.ax ((0:Int)≤x4∧x4<(List.length x1:Int)) (.ite (D2 x1 x4)
    (.ax ((0:Int)≤x4∧x4<(List.length x0:Int)) (.call (fc.told x3 ((yp x0 x4).f0) ((yp x0 x4).f1)) fun t1=> .jump (.c3 x0 x1 x2 t1 (wr (x4+(1:Int))))))
    (.jump (.c3 x0 x1 x2 x3 (wr (x4+(1:Int)))))))
   (.ret (x3,(List.length x3:Int))))
  (.ret (x3,(List.length x3:Int)))
def f (a0:List Int) (a1:List iA) (a2:List Bool):Option A:=(begin a0 a1 a2).run (lp tree)
def Q:ck C:={PL with gT:=[(3,[1,2,6,8,9])]}
theorem e:fr Pg C Q Tryz.f129 0 id st v o tree:=fun J K x=>by cases x<;>kernel_rfl
def told (a0:List Int) (a1:List iA) (a2:List Bool):aa.Told A:=⟨f a0 a1 a2,fun r=>ah Pg C 129 (S a0 a1 a2) 0 (v r) (o r),fun r h=>fI v o Tryz.func129 rfl (of_decide_eq_true (by kernel_rfl)) (by rfl) (fun _=>rfl) e (fun J K=>by kernel_rfl) h⟩
end bN
namespace dy
def S (a0:List Int) (a1:Int) (a2:List Int) (a3:List Bool) (a4:Bool):List (PV U):=aa.start C 37 [.sl 3 a0,.agg [.int .i64 a1,.sl 3 a2],.sl 4 a3,.bool a4] []
def begin (a0:List Int) (a1:Int) (a2:List Int) (a3:List Bool) (a4:Bool):Tr Empty A:=
 .call (dL.told a1 a2) fun t1=> .call (eZ.told a0 a1 a2) fun t2=> .ite (!t2)
  (.ret (t1.1,t1.2,false))
  (.both (.call (cv.told a0 a1) fun t3=> .both (.call (bN.told t1.2 t3 a3) fun t4=> .last (.last (.ite a4
   (.ret (t4.2,t4.1,true))
   (.ret (t1.1,t4.1,true)))))
    (.last (.last (.call (bN.told t1.2 t3 a3) fun t4=> .last (.ite a4
     (.ret (t4.2,t4.1,true))
     (.ret (t1.1,t4.1,true)))))))
   (.last (.last (.call (cv.told a0 a1) fun t3=> .last (.call (bN.told t1.2 t3 a3) fun t4=> .last (.ite a4
    (.ret (t4.2,t4.1,true))
    (.ret (t1.1,t4.1,true))))))))
def f (a0:List Int) (a1:Int) (a2:List Int) (a3:List Bool) (a4:Bool):Option A:=(begin a0 a1 a2 a3 a4).run (lp aB)
def Q:ck C:={PL with kI:=[(4,[12],(.take 0 [] (.take 2 [] (.take 3 [] (.take 6 [] (.take 1 [0,2,3,4,5,6,11] (.take 4 [0,1,2,3,6,11] (.alt 5 (.alt 7 (.take 8 [] (.take 9 [] (.take 10 [] (.alt 11 (.alt 12 (.take 13 [] .done) .nil) .nil)))) (.alt 11 (.alt 7 (.take 8 [] (.take 9 [] (.take 10 [] (.alt 12 (.take 13 [] .done) .nil)))) .nil) .nil)) (.alt 11 (.alt 5 (.alt 7 (.take 8 [] (.take 9 [] (.take 10 [] (.alt 12 (.take 13 [] .done) .nil)))) .nil) .nil) .nil)))))))))]}
def told (a0:List Int) (a1:Int) (a2:List Int) (a3:List Bool) (a4:Bool):aa.Told A:=⟨f a0 a1 a2 a3 a4,fun r=>ah Pg C 109 (S a0 a1 a2 a3 a4) 0 (v r) (o r),fun r h=>aY (Q:=Q) v o Tryz.func109 rfl (of_decide_eq_true (by kernel_rfl)) (by rfl) (fun _=>rfl) (fun J K=>by kernel_rfl) h⟩
end dy
namespace eS
def S (a0:List bR) (a1 a2:List Int) (a3 a4 a5 a6 a7 a8 a9 a10:Int) (a11:List Int) (a12:Int) (a13:List Bool) (a14:Bool):List (PV U):=aa.start C 27 [.agg [.sl 88 a0,.sl 3 a1,.sl 3 a2,.int .i64 a3,.int .i64 a4,.int .i64 a5,.int .i64 a6,.int .i64 a7,.int .i64 a8,.int .i64 a9,.int .i64 a10,.sl 3 a11,.int .i64 a12],.sl 4 a13,.bool a14] []
def begin (a0:List bR) (a1 a2:List Int) (a3 a4 a5 a6 a7 a8 a9 a10:Int) (a11:List Int) (a12:Int) (a13:List Bool) (a14:Bool):Tr Empty A:=
 .call (cE.told a0 a1 a2 a3 a4 a5 a6 a7 a8 a9 a10 a11 a12) fun t1=> .call (dY.told a0 a1 a2 a3 a4 a5 a6 a7 a8 a9 a10 a11 a12) fun t2=> .ite (!t2)
  (.ret (t1.1,t1.2.1,t1.2.2.1,t1.2.2.2.1,t1.2.2.2.2.1,t1.2.2.2.2.2.1,t1.2.2.2.2.2.2.1,t1.2.2.2.2.2.2.2.1,t1.2.2.2.2.2.2.2.2.1,t1.2.2.2.2.2.2.2.2.2.1,t1.2.2.2.2.2.2.2.2.2.2.1,t1.2.2.2.2.2.2.2.2.2.2.2.1,t1.2.2.2.2.2.2.2.2.2.2.2.2,false))
  (.call (dy.told a1 a10 a11 a13 a14) fun t3=> .ret (t1.1,t1.2.1,t1.2.2.1,t1.2.2.2.1,t1.2.2.2.2.1,t1.2.2.2.2.2.1,t1.2.2.2.2.2.2.1,t1.2.2.2.2.2.2.2.1,t1.2.2.2.2.2.2.2.2.1,t1.2.2.2.2.2.2.2.2.2.1,t3.1,t3.2.1,t1.2.2.2.2.2.2.2.2.2.2.2.2,true))
def f (a0:List bR) (a1 a2:List Int) (a3 a4 a5 a6 a7 a8 a9 a10:Int) (a11:List Int) (a12:Int) (a13:List Bool) (a14:Bool):Option A:=(begin a0 a1 a2 a3 a4 a5 a6 a7 a8 a9 a10 a11 a12 a13 a14).run (lp aB)
def told (a0:List bR) (a1 a2:List Int) (a3 a4 a5 a6 a7 a8 a9 a10:Int) (a11:List Int) (a12:Int) (a13:List Bool) (a14:Bool):aa.Told A:=⟨f a0 a1 a2 a3 a4 a5 a6 a7 a8 a9 a10 a11 a12 a13 a14,fun r=>ah Pg C 84 (S a0 a1 a2 a3 a4 a5 a6 a7 a8 a9 a10 a11 a12 a13 a14) 0 (v r) (o r),fun r h=>aY (Q:=PL) v o Tryz.func84 rfl (of_decide_eq_true (by kernel_rfl)) (by rfl) (fun _=>rfl) (fun J K=>by kernel_rfl) h⟩
end eS
end
end Go.Proofs.YtpndhhellhfegaaGreatDoor.Ev
