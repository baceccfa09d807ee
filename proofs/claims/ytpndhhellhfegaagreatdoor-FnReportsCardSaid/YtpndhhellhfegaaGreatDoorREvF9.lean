/- Functions as trees, with their contracts. No conditions. -/
import Derived.Test.YtpndhhellhfegaaGreatDoorREvF8
namespace Go.Proofs.YtpndhhellhfegaaGreatDoor.Ev
open Go.Proofs.YtpndhhellhfegaaGreatDoor.aa Go.RowKit
set_option linter.unusedVariables false
set_option maxRecDepth 100000
noncomputable section
namespace cU
def S (a0:List aw) (a1 a2 a3:Int):List (PV U):=aa.start C 50 [.agg [.sl 122 a0,.int .i64 a1,.int .i64 a2,.int .i64 a3]] []
inductive X where
 | c8 (x0 x1 x2 x3:List Int) (x4:Int)
def id:X→Nat
 | .c8 .. =>8
def st:X→List (PV U)
 | .c8 x0 x1 x2 x3 x4=>gf 50 [(3,.own true 3 x0),(4,.own true 3 x1),(5,.own true 3 x2),(6,.own true 3 x3),(7,.int .i64 x4)]
def begin (a0:List aw) (a1 a2 a3:Int):Tr X A:=
 .call (gj.told a0 a1 a2 a3) fun t1=> .ite (!t1)
  (.ret (([]:List Int)))
  (.call (cN.told a0) fun t2=> .call (cd.told a0) fun t3=> .call (cz.told a0 a1 a2 a3) fun t4=> .jump (.c8 ([]:List Int) t2 t3 t4 (0:Int)))
def tree:X→Tr X A
 | .c8 x0 x1 x2 x3 x4=>
 .ite (decide (x4<(List.length x1:Int)))
  (.ax ((0:Int)≤x4∧x4<(List.length x1:Int)) (.call (cm.told x3 (cT x1 x4)) fun t1=> .ite t1
   (.ax ((0:Int)≤x4∧x4<(List.length x1:Int)) (.ax (((List.length x0:Int)+(List.length ([(cT x1 x4)]):Int))*(8:Nat)≤room) (.jump (.c8 (x0++[(cT x1 x4)]) x1 x2 x3 (wr (x4+(1:Int)))))))
   (.ax ((0:Int)≤x4∧x4<(List.length x1:Int)) (.call (cm.told x2 (cT x1 x4)) fun t2=> .ite (!t2)
    (.ax ((0:Int)≤x4∧x4<(List.length x1:Int)) (.ax (((List.length x0:Int)+(List.length ([(cT x1 x4)]):Int))*(8:Nat)≤room) (.jump (.c8 (x0++[(cT x1 x4)]) x1 x2 x3 (wr (x4+(1:Int)))))))
    (.jump (.c8 x0 x1 x2 x3 (wr (x4+(1:Int)))))))))
  (.ret x0)
def f (a0:List aw) (a1 a2 a3:Int):Option A:=(begin a0 a1 a2 a3).run (lp tree)
def Q:ck C:={PL with gT:=[(8,[3,4,5,6,7])]}
theorem e:fr Pg C Q Tryz.f160 0 id st v o tree:=fun J K x=>by cases x<;>kernel_rfl
def told (a0:List aw) (a1 a2 a3:Int):aa.Told A:=⟨f a0 a1 a2 a3,fun r=>ah Pg C 160 (S a0 a1 a2 a3) 0 (v r) (o r),fun r h=>fI v o Tryz.func160 rfl (of_decide_eq_true (by kernel_rfl)) (by rfl) (fun _=>rfl) e (fun J K=>by kernel_rfl) h⟩
end cU
namespace eE
def S (a0:List Int):List (PV U):=aa.start C 11 [.sl 3 a0] []
def begin (a0:List Int):Tr Empty A:=
 .ite (!decide ((List.length a0:Int)=(49:Int)))
  (.ret (([]:List Int)))
  (.ax ((0:Int)≤(0:Int)∧(0:Int)≤(8:Int)∧(8:Int)≤(List.length a0:Int)) (.ax (((List.length ([]:List Int):Int)+(List.length (List.take (Int.toNat (8:Int)) a0):Int))*(8:Nat)≤room) (.ret ((([]:List Int)++(List.take (Int.toNat (8:Int)) a0))))))
def f (a0:List Int):Option A:=(begin a0).run (lp aB)
def told (a0:List Int):aa.Told A:=⟨f a0,fun r=>ah Pg C 161 (S a0) 0 (v r) (o r),fun r h=>aY (Q:=PL) v o Tryz.func161 rfl (of_decide_eq_true (by kernel_rfl)) (by rfl) (fun _=>rfl) (fun J K=>by kernel_rfl) h⟩
end eE
namespace eA
def S (a0 a1 a2 a3 a4 a5:Int):List (PV U):=aa.start C 14 [.agg [.int .i64 a0,.int .i64 a1,.int .i64 a2,.int .i64 a3,.int .i64 a4,.int .i64 a5]] []
def begin (a0 a1 a2 a3 a4 a5:Int):Tr Empty A:=
 .ite (decide (a0=(1:Int)))
  (.ret ((2:Int)))
  (.ite (decide (a0=(2:Int)))
   (.ret ((5:Int)))
   (.ite (decide (a0=(3:Int)))
    (.ret ((4:Int)))
    (.ite (decide (a0=(4:Int)))
     (.ite (decide (a0=(4:Int)))
      (.ret ((1:Int)))
      (.ret ((0:Int))))
     (.ite (decide (a0=(5:Int)))
      (.ret ((1:Int)))
      (.ret ((0:Int)))))))
def f (a0 a1 a2 a3 a4 a5:Int):Option A:=(begin a0 a1 a2 a3 a4 a5).run (lp aB)
def told (a0 a1 a2 a3 a4 a5:Int):aa.Told A:=⟨f a0 a1 a2 a3 a4 a5,fun r=>ah Pg C 176 (S a0 a1 a2 a3 a4 a5) 0 (v r) (o r),fun r h=>aY (Q:=PL) v o Tryz.func176 rfl (of_decide_eq_true (by kernel_rfl)) (by rfl) (fun _=>rfl) (fun J K=>by kernel_rfl) h⟩
end eA
namespace dA
def S (a0:Int) (a1 a2 a3 a4 a5:List Int) (a6:Int) (a7:Bool) (a8:List aL) (a9 a10:List Int) (a11 a12:Int):List (PV U):=aa.start C 15 [.ptr 15 0,.int .i64 a0] [.box [.own true 3 a1,.own true 3 a2,.own true 3 a3,.own true 3 a4,.sl 3 a5,.int .i64 a6,.bool a7,.own true 189 a8,.own true 3 a9,.own true 3 a10,.int .i64 a11,.int .i64 a12]]
def begin (a0:Int) (a1 a2 a3 a4 a5:List Int) (a6:Int) (a7:Bool) (a8:List aL) (a9 a10:List Int) (a11 a12:Int):Tr Empty A:=
 .ax (((List.length a8:Int)+(List.length ([(⟨a0,(-1:Int),(0:Int)⟩:aL)]):Int))*(24:Nat)≤room) (.ret (a1,a2,a3,a4,a5,a6,a7,(a8++[(⟨a0,(-1:Int),(0:Int)⟩:aL)]),a9,a10,a11,a12))
def f (a0:Int) (a1 a2 a3 a4 a5:List Int) (a6:Int) (a7:Bool) (a8:List aL) (a9 a10:List Int) (a11 a12:Int):Option A:=(begin a0 a1 a2 a3 a4 a5 a6 a7 a8 a9 a10 a11 a12).run (lp aB)
def told (a0:Int) (a1 a2 a3 a4 a5:List Int) (a6:Int) (a7:Bool) (a8:List aL) (a9 a10:List Int) (a11 a12:Int):aa.Told A:=⟨f a0 a1 a2 a3 a4 a5 a6 a7 a8 a9 a10 a11 a12,fun r=>ah Pg C 163 (S a0 a1 a2 a3 a4 a5 a6 a7 a8 a9 a10 a11 a12) 1 (v r) (o r),fun r h=>aY (Q:=PL) v o Tryz.func163 rfl (of_decide_eq_true (by kernel_rfl)) (by rfl) (fun _=>rfl) (fun J K=>by kernel_rfl) h⟩
end dA
namespace dC
def S (a0:List Int) (a1:Int):List (PV U):=aa.start C 13 [.sl 3 a0,.int .i64 a1] []
def begin (a0:List Int) (a1:Int):Tr Empty A:=
 .ite (decide (a1<(0:Int)))
  (.ax ((0:Int)≤(wr ((-1:Int)-a1))∧(wr ((-1:Int)-a1))<(List.length a0:Int)) (.ret ((cT a0 (wr ((-1:Int)-a1))))))
  (.ret a1)
def f (a0:List Int) (a1:Int):Option A:=(begin a0 a1).run (lp aB)
def told (a0:List Int) (a1:Int):aa.Told A:=⟨f a0 a1,fun r=>ah Pg C 186 (S a0 a1) 0 (v r) (o r),fun r h=>aY (Q:=PL) v o Tryz.func186 rfl (of_decide_eq_true (by kernel_rfl)) (by rfl) (fun _=>rfl) (fun J K=>by kernel_rfl) h⟩
end dC
namespace bL
def S (a0:Int):List (PV U):=aa.start C 5 [.int .i64 a0] []
def begin (a0:Int):Tr Empty A:=
 .call (dd.told a0 (-1000000:Int) (1000000:Int)) fun t1=> .ret t1
def f (a0:Int):Option A:=(begin a0).run (lp aB)
def told (a0:Int):aa.Told A:=⟨f a0,fun r=>ah Pg C 193 (S a0) 0 (v r) (o r),fun r h=>aY (Q:=PL) v o Tryz.func193 rfl (of_decide_eq_true (by kernel_rfl)) (by rfl) (fun _=>rfl) (fun J K=>by kernel_rfl) h⟩
end bL
namespace cR
def S (a0 a1:Int):List (PV U):=aa.start C 11 [.int .i64 a0,.int .i64 a1] []
def begin (a0 a1:Int):Tr Empty A:=
 .call (bL.told a0) fun t1=> .call (bL.told a1) fun t2=> .call (bL.told (wr (t1+t2))) fun t3=> .ret t3
def f (a0 a1:Int):Option A:=(begin a0 a1).run (lp aB)
def told (a0 a1:Int):aa.Told A:=⟨f a0 a1,fun r=>ah Pg C 187 (S a0 a1) 0 (v r) (o r),fun r h=>aY (Q:=PL) v o Tryz.func187 rfl (of_decide_eq_true (by kernel_rfl)) (by rfl) (fun _=>rfl) (fun J K=>by kernel_rfl) h⟩
end cR
namespace du
def S (a0 a1:Int):List (PV U):=aa.start C 11 [.int .i64 a0,.int .i64 a1] []
def begin (a0 a1:Int):Tr Empty A:=
 .call (bL.told a0) fun t1=> .call (bL.told a1) fun t2=> .call (bL.told (wr (t1-t2))) fun t3=> .ret t3
def f (a0 a1:Int):Option A:=(begin a0 a1).run (lp aB)
def told (a0 a1:Int):aa.Told A:=⟨f a0 a1,fun r=>ah Pg C 188 (S a0 a1) 0 (v r) (o r),fun r h=>aY (Q:=PL) v o Tryz.func188 rfl (of_decide_eq_true (by kernel_rfl)) (by rfl) (fun _=>rfl) (fun J K=>by kernel_rfl) h⟩
end du
namespace dv
def S (a0 a1:Int):List (PV U):=aa.start C 11 [.int .i64 a0,.int .i64 a1] []
def begin (a0 a1:Int):Tr Empty A:=
 .call (bL.told a0) fun t1=> .call (bL.told a1) fun t2=> .call (bL.told (wr (t1*t2))) fun t3=> .ret t3
def f (a0 a1:Int):Option A:=(begin a0 a1).run (lp aB)
def told (a0 a1:Int):aa.Told A:=⟨f a0 a1,fun r=>ah Pg C 189 (S a0 a1) 0 (v r) (o r),fun r h=>aY (Q:=PL) v o Tryz.func189 rfl (of_decide_eq_true (by kernel_rfl)) (by rfl) (fun _=>rfl) (fun J K=>by kernel_rfl) h⟩
end dv
namespace fg
def S (a0:Bool):List (PV U):=aa.start C 4 [.bool a0] []
def begin (a0:Bool):Tr Empty A:=
 .ite a0
  (.ret ((1:Int)))
  (.ret ((0:Int)))
def f (a0:Bool):Option A:=(begin a0).run (lp aB)
def told (a0:Bool):aa.Told A:=⟨f a0,fun r=>ah Pg C 181 (S a0) 0 (v r) (o r),fun r h=>aY (Q:=PL) v o Tryz.func181 rfl (of_decide_eq_true (by kernel_rfl)) (by rfl) (fun _=>rfl) (fun J K=>by kernel_rfl) h⟩
end fg
namespace cf
def S (a0:List Int) (a1 a2 a3:Int):List (PV U):=aa.start C 52 [.sl 3 a0,.agg [.int .i64 a1,.int .i64 a2,.int .i64 a3]] []
def begin (a0:List Int) (a1 a2 a3:Int):Tr Empty A:=
 .call (dC.told a0 a2) fun t1=> .call (dC.told a0 a3) fun t2=> .ite (decide (a1=(1:Int)))
  (.call (cR.told t1 t2) fun t3=> .ret t3)
  (.ite (decide (a1=(2:Int)))
   (.call (du.told t1 t2) fun t3=> .ret t3)
   (.ite (decide (a1=(3:Int)))
    (.call (dv.told t1 t2) fun t3=> .ret t3)
    (.ite (decide (a1=(4:Int)))
     (.ret ((if t2<t1 then t2 else t1)))
     (.ite (decide (a1=(5:Int)))
      (.ret ((if t2>t1 then t2 else t1)))
      (.ite (decide (a1=(6:Int)))
       (.call (fg.told (decide (t1<t2))) fun t3=> .ret t3)
       (.call (fg.told (decide (t1=t2))) fun t3=> .ret t3))))))
def f (a0:List Int) (a1 a2 a3:Int):Option A:=(begin a0 a1 a2 a3).run (lp aB)
def told (a0:List Int) (a1 a2 a3:Int):aa.Told A:=⟨f a0 a1 a2 a3,fun r=>ah Pg C 178 (S a0 a1 a2 a3) 0 (v r) (o r),fun r h=>aY (Q:=PL) v o Tryz.func178 rfl (of_decide_eq_true (by kernel_rfl)) (by rfl) (fun _=>rfl) (fun J K=>by kernel_rfl) h⟩
end cf
end
end Go.Proofs.YtpndhhellhfegaaGreatDoor.Ev
