/- Functions as trees, with their contracts. No conditions. -/
import Derived.Test.YtmapddgocpkgeaaGreatNEvF9
namespace Go.Proofs.YtmapddgocpkgeaaGreat.Ev
open Go.Proofs.YtmapddgocpkgeaaGreat.aa Go.RowKit
set_option linter.unusedVariables false
set_option maxRecDepth 100000
noncomputable section
namespace bX
def S (a0 a1:Int) (a2 a3 a4 a5 a6:List Int) (a7:Int) (a8:Bool) (a9:List aO) (a10 a11:List Int) (a12 a13:Int):List (PV U):=aa.start C 18 [.ptr 18 0,.int .i64 a0,.int .i64 a1] [.box [.own true 3 a2,.own true 3 a3,.own true 3 a4,.own true 3 a5,.sl 3 a6,.int .i64 a7,.bool a8,.own true 179 a9,.own true 3 a10,.own true 3 a11,.int .i64 a12,.int .i64 a13]]
def begin (a0 a1:Int) (a2 a3 a4 a5 a6:List Int) (a7:Int) (a8:Bool) (a9:List aO) (a10 a11:List Int) (a12 a13:Int):Tr Empty A:=
 .aC (((List.length a9:Int)+(List.length ([(⟨(3:Int),a0,a1⟩:aO)]):Int))*(24:Nat)≤room) (.ret (a2,a3,a4,a5,a6,a7,a8,(a9++[(⟨(3:Int),a0,a1⟩:aO)]),a10,a11,a12,a13))
def f (a0 a1:Int) (a2 a3 a4 a5 a6:List Int) (a7:Int) (a8:Bool) (a9:List aO) (a10 a11:List Int) (a12 a13:Int):Option A:=(begin a0 a1 a2 a3 a4 a5 a6 a7 a8 a9 a10 a11 a12 a13).run (lp aF)
def told (a0 a1:Int) (a2 a3 a4 a5 a6:List Int) (a7:Int) (a8:Bool) (a9:List aO) (a10 a11:List Int) (a12 a13:Int):aa.Told A:=⟨f a0 a1 a2 a3 a4 a5 a6 a7 a8 a9 a10 a11 a12 a13,fun r=>ae Pg C 197 (S a0 a1 a2 a3 a4 a5 a6 a7 a8 a9 a10 a11 a12 a13) 1 (v r) (o r),fun r h=>aG (Q:=PL) v o Tryz.func197 rfl (of_decide_eq_true (by kernel_rfl)) (by rfl) (fun _=>rfl) (fun J K=>by kernel_rfl) h⟩
end bX
namespace bO
def S (a0 a1:Int) (a2 a3 a4 a5 a6:List Int) (a7:Int) (a8:Bool) (a9:List aO) (a10 a11:List Int) (a12 a13:Int):List (PV U):=aa.start C 82 [.ptr 82 0,.int .i64 a0,.int .i64 a1] [.box [.own true 3 a2,.own true 3 a3,.own true 3 a4,.own true 3 a5,.sl 3 a6,.int .i64 a7,.bool a8,.own true 179 a9,.own true 3 a10,.own true 3 a11,.int .i64 a12,.int .i64 a13]]
inductive X where
 | c6 (x0 x1:Int) (x2 x3 x4 x5 x6:List Int) (x7:Int) (x8:Bool) (x9:List aO) (x10 x11:List Int) (x12 x13:Int)
def id:X→Nat
 | .c6 .. =>6
def st:X→List (PV U)
 | .c6 x0 x1 x2 x3 x4 x5 x6 x7 x8 x9 x10 x11 x12 x13=>eA 83 [(0,.ptr 82 0),(1,.int .i64 x0),(2,.int .i64 x1),(82,.box [.own true 3 x2,.own true 3 x3,.own true 3 x4,.own true 3 x5,.sl 3 x6,.int .i64 x7,.bool x8,.own true 179 x9,.own true 3 x10,.own true 3 x11,.int .i64 x12,.int .i64 x13])]
def begin (a0 a1:Int) (a2 a3 a4 a5 a6:List Int) (a7:Int) (a8:Bool) (a9:List aO) (a10 a11:List Int) (a12 a13:Int):Tr X A:=
 .call (cK.told a10 a0) fun t1=> .ite t1
  (.call (cK.told a11 a0) fun t2=> .ite (!t2)
   (.call (bX.told (wr ((9:Int)+(wr ((2:Int)*(List.length a11:Int))))) a0 a2 a3 a4 a5 a6 a7 a8 a9 a10 a11 a12 a13) fun t3=> .aC ((0:Int)≤a0∧a0<(List.length t3.1:Int)) (.call (bX.told (wr ((wr ((9:Int)+(wr ((2:Int)*(List.length a11:Int)))))+(1:Int))) (dz t3.1 a0) t3.1 t3.2.1 t3.2.2.1 t3.2.2.2.1 t3.2.2.2.2.1 t3.2.2.2.2.2.1 t3.2.2.2.2.2.2.1 t3.2.2.2.2.2.2.2.1 t3.2.2.2.2.2.2.2.2.1 t3.2.2.2.2.2.2.2.2.2.1 t3.2.2.2.2.2.2.2.2.2.2.1 t3.2.2.2.2.2.2.2.2.2.2.2) fun t4=> .last (.call (bz.told t4.2.2.2.2.2.2.2.2.2.2.1 (wr ((List.length a11:Int)+(1:Int))) t4.2.2.2.2.2.2.2.2.2.2.2) fun t5=> .last (.call (bX.told (8:Int) t5 t4.1 t4.2.1 t4.2.2.1 t4.2.2.2.1 t4.2.2.2.2.1 t4.2.2.2.2.2.1 t4.2.2.2.2.2.2.1 t4.2.2.2.2.2.2.2.1 t4.2.2.2.2.2.2.2.2.1 t4.2.2.2.2.2.2.2.2.2.1 t4.2.2.2.2.2.2.2.2.2.2.1 t4.2.2.2.2.2.2.2.2.2.2.2) fun t6=> .aC (((List.length t6.2.2.2.2.2.2.2.2.2.1:Int)+(List.length ([a0]):Int))*(8:Nat)≤room) (.jump (.c6 a0 a1 t6.1 t6.2.1 t6.2.2.1 t6.2.2.2.1 t6.2.2.2.2.1 t6.2.2.2.2.2.1 t6.2.2.2.2.2.2.1 t6.2.2.2.2.2.2.2.1 t6.2.2.2.2.2.2.2.2.1 (t6.2.2.2.2.2.2.2.2.2.1++[a0]) t6.2.2.2.2.2.2.2.2.2.2.1 t6.2.2.2.2.2.2.2.2.2.2.2))))))
   (.jump (.c6 a0 a1 a2 a3 a4 a5 a6 a7 a8 a9 a10 a11 a12 a13)))
  (.jump (.c6 a0 a1 a2 a3 a4 a5 a6 a7 a8 a9 a10 a11 a12 a13))
def tree:X→Tr X A
 | .c6 x0 x1 x2 x3 x4 x5 x6 x7 x8 x9 x10 x11 x12 x13=>
 .aC ((0:Int)≤x0∧x0<(List.length x2:Int)) (.call (bX.told x0 x1 (List.set x2 (Int.toNat x0) x1) x3 x4 x5 x6 x7 x8 x9 x10 x11 x12 x13) fun t1=> .ret (t1.1,t1.2.1,t1.2.2.1,t1.2.2.2.1,t1.2.2.2.2.1,t1.2.2.2.2.2.1,t1.2.2.2.2.2.2.1,t1.2.2.2.2.2.2.2.1,t1.2.2.2.2.2.2.2.2.1,t1.2.2.2.2.2.2.2.2.2.1,t1.2.2.2.2.2.2.2.2.2.2.1,t1.2.2.2.2.2.2.2.2.2.2.2))
def f (a0 a1:Int) (a2 a3 a4 a5 a6:List Int) (a7:Int) (a8:Bool) (a9:List aO) (a10 a11:List Int) (a12 a13:Int):Option A:=(begin a0 a1 a2 a3 a4 a5 a6 a7 a8 a9 a10 a11 a12 a13).run (lp tree)
def Q:bE C:={PL with fM:=[(6,[0,1,2,82])],iH:=[(4,[12],(.take 0 [] (.take 1 [] (.take 2 [] (.take 3 [] (.take 5 [] (.take 6 [] (.take 7 [] (.take 8 [] (.take 9 [] (.take 4 [0,1,2,3,5,6,7,8,9,10] (.take 10 [0,1,2,3,4,5,6,7,8,9] (.alt 11 (.alt 12 .done .nil) .nil)))))))))))))]}
theorem e:df Pg C Q Tryz.f232 1 id st v o tree:=fun J K x=>by cases x<;>kernel_rfl
def told (a0 a1:Int) (a2 a3 a4 a5 a6:List Int) (a7:Int) (a8:Bool) (a9:List aO) (a10 a11:List Int) (a12 a13:Int):aa.Told A:=⟨f a0 a1 a2 a3 a4 a5 a6 a7 a8 a9 a10 a11 a12 a13,fun r=>ae Pg C 232 (S a0 a1 a2 a3 a4 a5 a6 a7 a8 a9 a10 a11 a12 a13) 1 (v r) (o r),fun r h=>dy v o Tryz.func232 rfl (of_decide_eq_true (by kernel_rfl)) (by rfl) (fun _=>rfl) e (fun J K=>by kernel_rfl) h⟩
end bO
namespace bH
def S (a0:List Int) (a1 a2:Int):List (PV U):=aa.start C 29 [.sl 3 a0,.int .i64 a1,.int .i64 a2] []
def begin (a0:List Int) (a1 a2:Int):Tr Empty A:=
 .ite (decide ((List.length a0:Int)=(0:Int)))
  (.ret ((0:Int)))
  (.call (aE.told a1 (0:Int) (3:Int)) fun t1=> .ite (!t1)
   (.ret ((0:Int)))
   (.ite (decide (a2<(0:Int)))
    (.ret ((0:Int)))
    (.aC ((List.length a0:Int)≠0) (.aC ((0:Int)≤(Int.tmod a2 (List.length a0:Int))∧(Int.tmod a2 (List.length a0:Int))<(List.length a0:Int)) (.call (dk.told (dz a0 (Int.tmod a2 (List.length a0:Int))) (wr ((100:Int)*a1))) fun t2=> .ret t2)))))
def f (a0:List Int) (a1 a2:Int):Option A:=(begin a0 a1 a2).run (lp aF)
def told (a0:List Int) (a1 a2:Int):aa.Told A:=⟨f a0 a1 a2,fun r=>ae Pg C 256 (S a0 a1 a2) 0 (v r) (o r),fun r h=>aG (Q:=PL) v o Tryz.func256 rfl (of_decide_eq_true (by kernel_rfl)) (by rfl) (fun _=>rfl) (fun J K=>by kernel_rfl) h⟩
end bH
namespace eB
def S (a0:Int) (a1 a2 a3 a4 a5:List Int) (a6:Int) (a7:Bool) (a8:List aO) (a9 a10:List Int) (a11 a12:Int):List (PV U):=aa.start C 53 [.ptr 53 0,.int .i64 a0] [.box [.own true 3 a1,.own true 3 a2,.own true 3 a3,.own true 3 a4,.sl 3 a5,.int .i64 a6,.bool a7,.own true 179 a8,.own true 3 a9,.own true 3 a10,.int .i64 a11,.int .i64 a12]]
inductive X where
 | c7 (x0:Int) (x1 x2 x3 x4 x5:List Int) (x6:Int) (x7:Bool) (x8:List aO) (x9 x10:List Int) (x11 x12:Int)
def id:X→Nat
 | .c7 .. =>7
def st:X→List (PV U)
 | .c7 x0 x1 x2 x3 x4 x5 x6 x7 x8 x9 x10 x11 x12=>eA 54 [(0,.ptr 53 0),(6,.int .i64 x0),(53,.box [.own true 3 x1,.own true 3 x2,.own true 3 x3,.own true 3 x4,.sl 3 x5,.int .i64 x6,.bool x7,.own true 179 x8,.own true 3 x9,.own true 3 x10,.int .i64 x11,.int .i64 x12])]
def begin (a0:Int) (a1 a2 a3 a4 a5:List Int) (a6:Int) (a7:Bool) (a8:List aO) (a9 a10:List Int) (a11 a12:Int):Tr X A:=
 .ite a7
  (.last (.call (bH.told a5 a0 (wr (a6+(List.length a3:Int)))) fun t1=> .jump (.c7 t1 a1 a2 a3 a4 a5 a6 a7 a8 a9 a10 a11 a12)))
  (.ite (decide ((List.length a3:Int)<(List.length a4:Int)))
   (.aC ((0:Int)≤(List.length a3:Int)∧(List.length a3:Int)<(List.length a4:Int)) (.jump (.c7 (dz a4 (List.length a3:Int)) a1 a2 a3 a4 a5 a6 a7 a8 a9 a10 a11 a12)))
   (.jump (.c7 (0:Int) a1 a2 a3 a4 a5 a6 a7 a8 a9 a10 a11 a12)))
def tree:X→Tr X A
 | .c7 x0 x1 x2 x3 x4 x5 x6 x7 x8 x9 x10 x11 x12=>
 .aC (((List.length x3:Int)+(List.length ([x0]):Int))*(8:Nat)≤room) (.ret (x0,x1,x2,(x3++[x0]),x4,x5,x6,x7,x8,x9,x10,x11,x12))
def f (a0:Int) (a1 a2 a3 a4 a5:List Int) (a6:Int) (a7:Bool) (a8:List aO) (a9 a10:List Int) (a11 a12:Int):Option A:=(begin a0 a1 a2 a3 a4 a5 a6 a7 a8 a9 a10 a11 a12).run (lp tree)
def Q:bE C:={PL with fM:=[(7,[0,6,53])],iH:=[(4,[],(.take 0 [] (.take 1 [] (.take 2 [] (.take 4 [] (.take 5 [] (.take 6 [] (.take 7 [] (.take 9 [] (.take 3 [0,1,2,4,5,6,7,8,9,10] (.take 8 [0,1,2,3,4,5,6,7,9] (.take 10 [] (.alt 11 (.take 12 [] .done) .nil)))))))))))))]}
theorem e:df Pg C Q Tryz.f234 1 id st v o tree:=fun J K x=>by cases x<;>kernel_rfl
def told (a0:Int) (a1 a2 a3 a4 a5:List Int) (a6:Int) (a7:Bool) (a8:List aO) (a9 a10:List Int) (a11 a12:Int):aa.Told A:=⟨f a0 a1 a2 a3 a4 a5 a6 a7 a8 a9 a10 a11 a12,fun r=>ae Pg C 234 (S a0 a1 a2 a3 a4 a5 a6 a7 a8 a9 a10 a11 a12) 1 (v r) (o r),fun r h=>dy v o Tryz.func234 rfl (of_decide_eq_true (by kernel_rfl)) (by rfl) (fun _=>rfl) e (fun J K=>by kernel_rfl) h⟩
end eB
end
end Go.Proofs.YtmapddgocpkgeaaGreat.Ev
