/- Functions as trees, with their contracts. No conditions. -/
import Derived.Test.YtmapddgocpkgeaaGreatNEvF19
namespace Go.Proofs.YtmapddgocpkgeaaGreat.Ev
open Go.Proofs.YtmapddgocpkgeaaGreat.aa Go.RowKit
set_option linter.unusedVariables false
set_option maxRecDepth 100000
noncomputable section
namespace bn
def S (a0:List Int):List (PV U):=aa.start C 57 [.sl 3 a0] []
inductive X where
 | c8 (x0:List Int) (x1 x2:Int) (x3:List fY) (x4:Int)
def id:X→Nat
 | .c8 .. =>8
def st:X→List (PV U)
 | .c8 x0 x1 x2 x3 x4=>eA 57 [(0,.sl 3 x0),(3,.int .i64 x1),(5,.int .i64 x2),(6,.own true 173 x3),(7,.int .i64 x4)]
def begin (a0:List Int):Tr X A:=
 .ite (!decide ((List.length a0:Int)=(49:Int)))
  (.ret (([]:List fY)))
  (.aC ((0:Int)≤(8:Int)∧(8:Int)<(List.length a0:Int)) (.call (bm.told (dz a0 (8:Int))) fun t1=> .ite (decide (t1.2.1<(1:Int)))
   (.ret (([]:List fY)))
   (.jump (.c8 a0 t1.1 t1.2.2 ([]:List fY) (wr (t1.2.1-(1:Int)))))))
def tree:X→Tr X A
 | .c8 x0 x1 x2 x3 x4=>
 .ite (decide (x4≥(0:Int)))
  (.aC ((0:Int)≤(wr ((9:Int)+(wr ((2:Int)*x4))))∧(wr ((9:Int)+(wr ((2:Int)*x4))))<(List.length x0:Int)) (.call (eF.told (dz x0 (wr ((9:Int)+(wr ((2:Int)*x4)))))) fun t1=> .ite (!t1)
   (.ret (([]:List fY)))
   (.aC ((0:Int)≤(wr ((wr ((9:Int)+(wr ((2:Int)*x4))))+(1:Int)))∧(wr ((wr ((9:Int)+(wr ((2:Int)*x4))))+(1:Int)))<(List.length x0:Int)) (.val ([(⟨(dz x0 (wr ((9:Int)+(wr ((2:Int)*x4))))),(dz x0 (wr ((wr ((9:Int)+(wr ((2:Int)*x4))))+(1:Int))))⟩:fY)]:List fY) fun v2=> .aC (((List.length x3:Int)+(List.length v2:Int))*(16:Nat)≤room) (.jump (.c8 x0 x1 x2 (x3++v2) (wr (x4-(1:Int)))))))))
  (.call (bq.told x1 (0:Int) x2) fun t1=> .aC (((List.length x3:Int)+(List.length ([(⟨(8:Int),t1⟩:fY)]):Int))*(16:Nat)≤room) (.ret ((x3++[(⟨(8:Int),t1⟩:fY)]))))
def f (a0:List Int):Option A:=(begin a0).run (lp tree)
def Q:bE C:={PL with fM:=[(8,[0,3,5,6,7])]}
theorem e:df Pg C Q Tryz.f143 0 id st v o tree:=fun J K x=>by cases x<;>kernel_rfl
def told (a0:List Int):aa.Told A:=⟨f a0,fun r=>ae Pg C 143 (S a0) 0 (v r) (o r),fun r h=>dy v o Tryz.func143 rfl (of_decide_eq_true (by kernel_rfl)) (by rfl) (fun _=>rfl) e (fun J K=>by kernel_rfl) h⟩
end bn
namespace aW
def S (a0:Int) (a1:List Int) (a2:Int) (a3:List (List Int)) (a4:Int):List (PV U):=aa.start C 19 [.ptr 19 0,.int .i64 a0] [.box [.own true 3 a1,.int .i64 a2,.own true 27 a3,.int .i64 a4]]
def begin (a0:Int) (a1:List Int) (a2:Int) (a3:List (List Int)) (a4:Int):Tr Empty A:=
 .ite (decide (a4<a0))
  (.ret (false,a1,a2,a3,a4))
  (.ret (true,a1,a2,a3,(wr (a4-a0))))
def f (a0:Int) (a1:List Int) (a2:Int) (a3:List (List Int)) (a4:Int):Option A:=(begin a0 a1 a2 a3 a4).run (lp aF)
def told (a0:Int) (a1:List Int) (a2:Int) (a3:List (List Int)) (a4:Int):aa.Told A:=⟨f a0 a1 a2 a3 a4,fun r=>ae Pg C 144 (S a0 a1 a2 a3 a4) 1 (v r) (o r),fun r h=>aG (Q:=PL) v o Tryz.func144 rfl (of_decide_eq_true (by kernel_rfl)) (by rfl) (fun _=>rfl) (fun J K=>by kernel_rfl) h⟩
end aW
namespace aP
def S (a0:List Int) (a1:Int) (a2:List (List Int)) (a3:Int):List (PV U):=aa.start C 28 [.ptr 28 0] [.box [.own true 3 a0,.int .i64 a1,.own true 27 a2,.int .i64 a3]]
inductive X where
 | c2 (x0:List fY) (x1 x2:Int) (x3:List Int) (x4:Int) (x5:List (List Int)) (x6:Int)
def id:X→Nat
 | .c2 .. =>2
def st:X→List (PV U)
 | .c2 x0 x1 x2 x3 x4 x5 x6=>eA 29 [(0,.ptr 28 0),(9,.own true 173 x0),(10,.int .i64 x1),(11,.int .i64 x2),(28,.box [.own true 3 x3,.int .i64 x4,.own true 27 x5,.int .i64 x6])]
def begin (a0:List Int) (a1:Int) (a2:List (List Int)) (a3:Int):Tr X A:=
 .call (bn.told a0) fun t1=> .jump (.c2 t1 (List.length t1:Int) (0:Int) a0 a1 a2 a3)
def tree:X→Tr X A
 | .c2 x0 x1 x2 x3 x4 x5 x6=>
 .ite (decide (x2<x1))
  (.aC ((0:Int)≤x2∧x2<(List.length x0:Int)) (.call (aW.told (3:Int) x3 x4 x5 x6) fun t1=> .ite (!t1.1)
   (.ret (false,t1.2.1,t1.2.2.1,t1.2.2.2.1,t1.2.2.2.2))
   (.aC ((0:Int)≤(nw x0 x2).f0∧(nw x0 x2).f0<(List.length t1.2.1:Int)) (.last (.jump (.c2 x0 x1 (wr (x2+(1:Int))) (List.set t1.2.1 (Int.toNat ((nw x0 x2).f0)) ((nw x0 x2).f1)) t1.2.2.1 t1.2.2.2.1 t1.2.2.2.2))))))
  (.ret (true,x3,x4,x5,x6))
def f (a0:List Int) (a1:Int) (a2:List (List Int)) (a3:Int):Option A:=(begin a0 a1 a2 a3).run (lp tree)
def Q:bE C:={PL with fM:=[(2,[0,9,10,11,28])],iH:=[(6,[9],(.take 0 [] (.take 1 [] (.take 2 [] (.take 4 [] (.take 6 [] (.take 3 [0,1,2,4,5,6,7] (.take 5 [0,1,2,3,4,6,7] (.take 7 [0,1,2,3,4,5,6] (.take 8 [] (.alt 9 .done .nil)))))))))))]}
theorem e:df Pg C Q Tryz.f99 1 id st v o tree:=fun J K x=>by cases x<;>kernel_rfl
def told (a0:List Int) (a1:Int) (a2:List (List Int)) (a3:Int):aa.Told A:=⟨f a0 a1 a2 a3,fun r=>ae Pg C 99 (S a0 a1 a2 a3) 1 (v r) (o r),fun r h=>dy v o Tryz.func99 rfl (of_decide_eq_true (by kernel_rfl)) (by rfl) (fun _=>rfl) e (fun J K=>by kernel_rfl) h⟩
end aP
namespace fh
def S (a0:List Int):List (PV U):=aa.start C 9 [.sl 3 a0] []
def begin (a0:List Int):Tr Empty A:=
 .ite (!decide ((List.length a0:Int)=(49:Int)))
  (.ret (([]:List Int)))
  (.aC ((0:Int)≤(0:Int)∧(0:Int)≤(8:Int)∧(8:Int)≤(List.length a0:Int)) (.call (aL.told (List.take (Int.toNat (8:Int)) a0)) fun t1=> .ret t1))
def f (a0:List Int):Option A:=(begin a0).run (lp aF)
def told (a0:List Int):aa.Told A:=⟨f a0,fun r=>ae Pg C 176 (S a0) 0 (v r) (o r),fun r h=>aG (Q:=PL) v o Tryz.func176 rfl (of_decide_eq_true (by kernel_rfl)) (by rfl) (fun _=>rfl) (fun J K=>by kernel_rfl) h⟩
end fh
namespace slices_Sort_int
def S (a0:List Int):List (PV U):=aa.start C 1 [.iV (1,[])] [.own true 3 a0]
noncomputable def f (a0:List Int):Option A:=if(a0.length:Int)<4611686018427387904 then some (a0.mergeSort fun x y=>decide (x≤y))else none
def told (a0:List Int):aa.Told A:=⟨f a0,fun r=>ae Pg C 259 (S a0) 1 (v r) (o r),fun r h=>by
 unfold f at h;split at h
 ·rename_i hl;cases h;exact Az (C:=C) (e:=3) ⟨_,Tryz.func259,rfl,rfl⟩ (fun x:Int=>x) (fun _=>rfl) (fun blk off cap zs w=>Go.Proofs.Tryz.A9 blk off cap zs w) (fun p cap w=>Go.Proofs.Tryz.Bu p cap w) (show List.length (α:=Int) a0<4611686018427387904 from by omega) (show List.map (fun x:Int=>x) (List.mergeSort (α:=Int) a0 fun x y=>decide (x≤y))=List.mergeSort (α:=Int) (List.map (fun x:Int=>x) a0) fun x y=>decide (x≤y)from by simp)
 ·cases h⟩
end slices_Sort_int
namespace slices_Compact_int
def S (a0:List Int):List (PV U):=aa.start C 1 [.own true 3 a0] []
def f (a0:List Int):Option A:=some (Lib.compact a0)
def told (a0:List Int):aa.Told A:=⟨f a0,fun r=>ae Pg C 260 (S a0) 0 (v r) (o r),fun r h=>by
 cases h;exact vS (C:=C) (e:=3) ⟨_,Tryz.func260,rfl,rfl⟩ (fun x:Int=>x) (fun _=>rfl) (fun blk off cap zs w=>Go.Proofs.Tryz.yf blk off cap zs w) (fun p cap w=>Go.Proofs.Tryz.xF p cap w) (show List.map (fun x:Int=>x) (Lib.compact (α:=Int) a0)=Lib.compact (α:=Int) (List.map (fun x:Int=>x) a0)from by simp)⟩
end slices_Compact_int
namespace de
def S (a0 a1 a2:Int):List (PV U):=aa.start C 32 [.agg [.int .i64 a0,.int .i64 a1,.int .i64 a2]] []
inductive X where
 | c5 (x0 x1:List Int) (x2 x3:Int)
def id:X→Nat
 | .c5 .. =>5
def st:X→List (PV U)
 | .c5 x0 x1 x2 x3=>eA 32 [(3,.own true 3 x0),(14,.own true 3 x1),(15,.int .i64 x2),(16,.int .i64 x3)]
def begin (a0 a1 a2:Int):Tr X A:=
 .call (da.told a0 a1 a2) fun t1=> .ite (!t1)
  (.ret (([]:List Int)))
  (.jump (.c5 ([]:List Int) ([a1,a2]) (List.length ([a1,a2]):Int) (0:Int)))
def tree:X→Tr X A
 | .c5 x0 x1 x2 x3=>
 .ite (decide (x3<x2))
  (.aC ((0:Int)≤x3∧x3<(List.length x1:Int)) (.ite (decide ((dz x1 x3)<(0:Int)))
   (.aC (((List.length x0:Int)+(List.length ([(wr ((-1:Int)-(dz x1 x3)))]):Int))*(8:Nat)≤room) (.jump (.c5 (x0++[(wr ((-1:Int)-(dz x1 x3)))]) x1 x2 (wr (x3+(1:Int))))))
   (.jump (.c5 x0 x1 x2 (wr (x3+(1:Int)))))))
  (.call (slices_Sort_int.told x0) fun t1=> .call (slices_Compact_int.told t1) fun t2=> .ret t2)
def f (a0 a1 a2:Int):Option A:=(begin a0 a1 a2).run (lp tree)
def Q:bE C:={PL with fM:=[(5,[3,14,15,16])]}
theorem e:df Pg C Q Tryz.f258 0 id st v o tree:=fun J K x=>by cases x<;>kernel_rfl
def told (a0 a1 a2:Int):aa.Told A:=⟨f a0 a1 a2,fun r=>ae Pg C 258 (S a0 a1 a2) 0 (v r) (o r),fun r h=>dy v o Tryz.func258 rfl (of_decide_eq_true (by kernel_rfl)) (by rfl) (fun _=>rfl) e (fun J K=>by kernel_rfl) h⟩
end de
end
end Go.Proofs.YtmapddgocpkgeaaGreat.Ev
