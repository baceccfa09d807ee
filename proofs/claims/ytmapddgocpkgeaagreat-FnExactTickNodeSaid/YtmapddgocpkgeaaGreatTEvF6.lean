/- Functions as trees, with their contracts. No conditions. -/
import Derived.Test.YtmapddgocpkgeaaGreatTEvF5
namespace Go.Proofs.YtmapddgocpkgeaaGreat.Ev
open Go.Proofs.YtmapddgocpkgeaaGreat.aa Go.RowKit
set_option linter.unusedVariables false
set_option maxRecDepth 100000
noncomputable section
namespace fw
def S (a0:List az) (a1 a2:List Int) (a3 a4:Int):List (PV U):=aa.start C 30 [.agg [.sl 164 a0],.sl 3 a1,.sl 3 a2,.int .i64 a3,.int .i64 a4] []
inductive X where
 | c4 (x0:List Int) (x1:List az) (x2:List Int) (x3:Int) (x4:List (List Int)) (x5:Int) (x6:List Int) (x7:Int) (x8:List (List Int)) (x9:Int)
def id:X→Nat
 | .c4 .. =>4
def st:X→List (PV U)
 | .c4 x0 x1 x2 x3 x4 x5 x6 x7 x8 x9=>eH 30 [(2,.sl 3 x0),(5,.box [.sl 164 x1]),(10,.box [.own true 3 x2,.int .i64 x3,.own true 27 x4,.int .i64 x5]),(11,.box [.own true 3 x6,.int .i64 x7,.own true 27 x8,.int .i64 x9])]
def begin (a0:List az) (a1 a2:List Int) (a3 a4:Int):Tr X A:=
 .call (bc.told a1) fun t1=> .call (aO.told t1 a3 ([]:List (List Int)) a4) fun t2=> .ite (!t2.1)
  (.ret (t2.2.1,t2.2.2.1,t2.2.2.2.1,t2.2.2.2.2))
  (.jump (.c4 a2 a0 ([]:List Int) (0:Int) ([]:List (List Int)) (0:Int) t2.2.1 t2.2.2.1 t2.2.2.2.1 t2.2.2.2.2))
def tree:X→Tr X A
 | .c4 x0 x1 x2 x3 x4 x5 x6 x7 x8 x9=>
 .ite (decide ((List.length x8:Int)<(10:Int)))
  (.call (ba.told x1 x0 x6 x7 x8 x9) fun t1=> .ite t1.1
   (.jump (.c4 x0 x1 x2 x3 x4 x5 t1.2.1 t1.2.2.1 t1.2.2.2.1 t1.2.2.2.2))
   (.ret (t1.2.1,t1.2.2.1,t1.2.2.2.1,t1.2.2.2.2)))
  (.ret (x6,x7,x8,x9))
def f (a0:List az) (a1 a2:List Int) (a3 a4:Int):Option A:=(begin a0 a1 a2 a3 a4).run (lp tree)
def Q:aE C:={PL with aU:=[(4,[2,5,10,11])],aT:=[],aQ:=[]}
theorem e:ay Pg C Q Tryz.f45 0 id st v o tree:=fun J K x=>by cases x<;>kernel_rfl
theorem b (a0:List az) (a1 a2:List Int) (a3 a4:Int):ax Pg C Q Tryz.f45 0 id st v o (S a0 a1 a2 a3 a4) (begin a0 a1 a2 a3 a4):=fun J K=>by kernel_rfl
def told (a0:List az) (a1 a2:List Int) (a3 a4:Int):aa.Told A:=⟨f a0 a1 a2 a3 a4,fun r=>af Pg C 45 (S a0 a1 a2 a3 a4) 0 (v r) (o r),fun r h=>ae G mixed Q Tryz.func45 rfl (of_decide_eq_true (by kernel_rfl)) (by rfl) id st v o (fun _=>rfl) tree e (begin a0 a1 a2 a3 a4) (b a0 a1 a2 a3 a4) h⟩
end fw
namespace bM
def S (a0:List az) (a1 a2:List Int) (a3 a4 a5 a6 a7 a8 a9 a10:Int) (a11:List Int) (a12 a13:Int):List (PV U):=aa.start C 66 [.agg [.sl 164 a0,.sl 3 a1,.sl 3 a2,.int .i64 a3,.int .i64 a4,.int .i64 a5,.int .i64 a6,.int .i64 a7,.int .i64 a8,.int .i64 a9,.int .i64 a10,.sl 3 a11,.int .i64 a12],.int .i64 a13] []
inductive X where
 | c9 (x0:List az) (x1 x2:List Int) (x3 x4 x5 x6 x7 x8 x9 x10:Int) (x11:List Int) (x12:Int) (x13:List az) (x14 x15:List Int) (x16 x17 x18 x19 x20 x21 x22 x23:Int) (x24:List Int) (x25:Int) (x26:List az) (x27 x28:List Int) (x29 x30 x31 x32 x33 x34 x35 x36:Int) (x37:List Int) (x38:Int)
def id:X→Nat
 | .c9 .. =>9
def st:X→List (PV U)
 | .c9 x0 x1 x2 x3 x4 x5 x6 x7 x8 x9 x10 x11 x12 x13 x14 x15 x16 x17 x18 x19 x20 x21 x22 x23 x24 x25 x26 x27 x28 x29 x30 x31 x32 x33 x34 x35 x36 x37 x38=>eH 66 [(2,.box [.sl 164 x0,.sl 3 x1,.sl 3 x2,.int .i64 x3,.int .i64 x4,.int .i64 x5,.int .i64 x6,.int .i64 x7,.int .i64 x8,.int .i64 x9,.int .i64 x10,.sl 3 x11,.int .i64 x12]),(4,.box [.own true 164 x13,.own true 3 x14,.own true 3 x15,.int .i64 x16,.int .i64 x17,.int .i64 x18,.int .i64 x19,.int .i64 x20,.int .i64 x21,.int .i64 x22,.int .i64 x23,.own true 3 x24,.int .i64 x25]),(6,.box [.own true 164 x26,.own true 3 x27,.own true 3 x28,.int .i64 x29,.int .i64 x30,.int .i64 x31,.int .i64 x32,.int .i64 x33,.int .i64 x34,.int .i64 x35,.int .i64 x36,.own true 3 x37,.int .i64 x38])]
def begin (a0:List az) (a1 a2:List Int) (a3 a4 a5 a6 a7 a8 a9 a10:Int) (a11:List Int) (a12 a13:Int):Tr X A:=
 .call (cE.told a0 a1 a2 a3 a4 a5 a6 a7 a8 a9 a10 a11 a12) fun t1=> .call (dS.told a0 a1 a2 a3 a4 a5 a6 a7 a8 a9 a10 a11 a12) fun t2=> .ite (!t2)
  (.ret (t1.1,t1.2.1,t1.2.2.1,t1.2.2.2.1,t1.2.2.2.2.1,t1.2.2.2.2.2.1,t1.2.2.2.2.2.2.1,t1.2.2.2.2.2.2.2.1,t1.2.2.2.2.2.2.2.2.1,t1.2.2.2.2.2.2.2.2.2.1,t1.2.2.2.2.2.2.2.2.2.2.1,t1.2.2.2.2.2.2.2.2.2.2.2.1,t1.2.2.2.2.2.2.2.2.2.2.2.2,false))
  (.call (cl.told a13) fun t3=> .ite (!t3)
   (.ret (t1.1,t1.2.1,t1.2.2.1,t1.2.2.2.1,t1.2.2.2.2.1,t1.2.2.2.2.2.1,t1.2.2.2.2.2.2.1,t1.2.2.2.2.2.2.2.1,t1.2.2.2.2.2.2.2.2.1,t1.2.2.2.2.2.2.2.2.2.1,t1.2.2.2.2.2.2.2.2.2.2.1,t1.2.2.2.2.2.2.2.2.2.2.2.1,t1.2.2.2.2.2.2.2.2.2.2.2.2,false))
   (.call (cX.told a13 t1.1 t1.2.1 t1.2.2.1 t1.2.2.2.1 t1.2.2.2.2.1 t1.2.2.2.2.2.1 t1.2.2.2.2.2.2.1 t1.2.2.2.2.2.2.2.1 t1.2.2.2.2.2.2.2.2.1 t1.2.2.2.2.2.2.2.2.2.1 t1.2.2.2.2.2.2.2.2.2.2.1 t1.2.2.2.2.2.2.2.2.2.2.2.1 t1.2.2.2.2.2.2.2.2.2.2.2.2) fun t4=> .call (fz.told a8 a9 (1:Int)) fun t5=> .ite (decide (t4.2.2.2.2.1≥t4.2.2.2.2.2.2.1))
    (.call (fw.told a0 a1 a2 a3 t4.2.2.2.2.1) fun t6=>let u6_0:Tr X A:=(.last (.last (.last (.jump (.c9 a0 a1 a2 a3 a4 a5 a6 a7 a8 a9 a10 a11 a12 ([]:List az) ([]:List Int) ([]:List Int) (0:Int) (0:Int) (0:Int) (0:Int) (0:Int) (0:Int) (0:Int) (0:Int) ([]:List Int) (0:Int) t4.1 t6.1 t4.2.2.1 t6.2.1 (0:Int) t4.2.2.2.2.2.1 t4.2.2.2.2.2.2.1 t4.2.2.2.2.2.2.2.1 t5.1 t5.2 t4.2.2.2.2.2.2.2.2.2.2.1 t4.2.2.2.2.2.2.2.2.2.2.2.1 (wr (a12+(List.length t6.2.2.1:Int))))))));let u6_1:Tr X A:=(.last (u6_0));let u6_2:Tr X A:=(.both (u6_0) (u6_0));let u6_3:Tr X A:=(.last (u6_2));let u6_4:Tr X A:=(.both (u6_1) (u6_3));let u6_5:Tr X A:=(.last (.both (u6_2) (.both (u6_2) (u6_0))));let u6_6:Tr X A:=(.both (u6_4) (.both (.both (u6_1) (u6_1)) (u6_3))); .both (.both (u6_4)
      (.both (u6_4)
       (u6_5)))
     (.both (u6_6)
      (.both (u6_6)
       (u6_5))))
    (.jump (.c9 a0 a1 a2 a3 a4 a5 a6 a7 a8 a9 a10 a11 a12 ([]:List az) ([]:List Int) ([]:List Int) (0:Int) (0:Int) (0:Int) (0:Int) (0:Int) (0:Int) (0:Int) (0:Int) ([]:List Int) (0:Int) t4.1 t4.2.1 t4.2.2.1 t4.2.2.2.1 t4.2.2.2.2.1 t4.2.2.2.2.2.1 t4.2.2.2.2.2.2.1 t4.2.2.2.2.2.2.2.1 t5.1 t5.2 t4.2.2.2.2.2.2.2.2.2.2.1 t4.2.2.2.2.2.2.2.2.2.2.2.1 t4.2.2.2.2.2.2.2.2.2.2.2.2))))
def tree:X→Tr X A
 | .c9 x0 x1 x2 x3 x4 x5 x6 x7 x8 x9 x10 x11 x12 x13 x14 x15 x16 x17 x18 x19 x20 x21 x22 x23 x24 x25 x26 x27 x28 x29 x30 x31 x32 x33 x34 x35 x36 x37 x38=>
 .call (dS.told x26 x27 x28 x29 x30 x31 x32 x33 x34 x35 x36 x37 x38) fun t1=> .ite (!t1)
  (.call (cE.told x0 x1 x2 x3 x4 x5 x6 x7 x8 x9 x10 x11 x12) fun t2=> .ret (t2.1,t2.2.1,t2.2.2.1,t2.2.2.2.1,t2.2.2.2.2.1,t2.2.2.2.2.2.1,t2.2.2.2.2.2.2.1,t2.2.2.2.2.2.2.2.1,t2.2.2.2.2.2.2.2.2.1,t2.2.2.2.2.2.2.2.2.2.1,t2.2.2.2.2.2.2.2.2.2.2.1,t2.2.2.2.2.2.2.2.2.2.2.2.1,t2.2.2.2.2.2.2.2.2.2.2.2.2,false))
  (.ret (x26,x27,x28,x29,x30,x31,x32,x33,x34,x35,x36,x37,x38,true))
def f (a0:List az) (a1 a2:List Int) (a3 a4 a5 a6 a7 a8 a9 a10:Int) (a11:List Int) (a12 a13:Int):Option A:=(begin a0 a1 a2 a3 a4 a5 a6 a7 a8 a9 a10 a11 a12 a13).run (lp tree)
def Q:aE C:={PL with aU:=[(9,[2,4,6])],aT:=[(8,[11,13,15,18],(.take 0 [] (.take 2 [] (.take 4 [] (.take 6 [] (.take 1 [0,2,3,4,5,6,7,8,9] (.take 10 [] (.alt 3 (.alt 5 (.alt 7 (.take 8 [] (.take 9 [] (.alt 11 (.take 12 [] (.alt 13 (.take 14 [] (.alt 15 (.take 16 [] (.take 17 [] (.alt 18 .done .nil))) .nil)) .nil)) .nil))) (.alt 11 (.take 12 [] (.alt 7 (.take 8 [] (.take 9 [] (.alt 13 (.take 14 [] (.alt 15 (.take 16 [] (.take 17 [] (.alt 18 .done .nil))) .nil)) .nil))) (.alt 13 (.take 7 [0,1,2,3,4,5,6,10,11,12,13] (.take 8 [] (.take 9 [] (.take 14 [] (.alt 15 (.take 16 [] (.take 17 [] (.alt 18 .done .nil))) .nil))))) .nil))) .nil)) (.alt 7 (.take 8 [] (.alt 5 (.take 9 [] (.alt 11 (.take 12 [] (.alt 13 (.take 14 [] (.alt 15 (.take 16 [] (.take 17 [] (.alt 18 .done .nil))) .nil)) .nil)) .nil)) (.alt 11 (.take 12 [] (.alt 5 (.take 9 [] (.alt 13 (.take 14 [] (.alt 15 (.take 16 [] (.take 17 [] (.alt 18 .done .nil))) .nil)) .nil)) (.alt 13 (.take 5 [0,1,2,3,4,6,7,8,10,11,12,13] (.take 9 [] (.take 14 [] (.alt 15 (.take 16 [] (.take 17 [] (.alt 18 .done .nil))) .nil)))) .nil))) .nil))) (.alt 11 (.take 12 [] (.alt 5 (.alt 7 (.take 8 [] (.take 9 [] (.alt 13 (.take 14 [] (.alt 15 (.take 16 [] (.take 17 [] (.alt 18 .done .nil))) .nil)) .nil))) (.alt 13 (.take 7 [0,1,2,3,4,5,6,10,11,12,13] (.take 8 [] (.take 9 [] (.take 14 [] (.alt 15 (.take 16 [] (.take 17 [] (.alt 18 .done .nil))) .nil))))) .nil)) (.alt 7 (.take 8 [] (.alt 5 (.take 9 [] (.alt 13 (.take 14 [] (.alt 15 (.take 16 [] (.take 17 [] (.alt 18 .done .nil))) .nil)) .nil)) (.alt 13 (.take 5 [0,1,2,3,4,6,7,8,10,11,12,13] (.take 9 [] (.take 14 [] (.alt 15 (.take 16 [] (.take 17 [] (.alt 18 .done .nil))) .nil)))) .nil))) (.alt 13 (.take 5 [0,1,2,3,4,6,7,8,10,11,12,13] (.take 7 [0,1,2,3,4,5,6,10,11,12,13] (.take 8 [] (.take 9 [] (.take 14 [] (.alt 15 (.take 16 [] (.take 17 [] (.alt 18 .done .nil))) .nil)))))) .nil)))) .nil))) (.alt 5 (.alt 3 (.alt 7 (.take 8 [] (.take 9 [] (.alt 11 (.take 12 [] (.alt 13 (.take 14 [] (.alt 15 (.take 16 [] (.take 17 [] (.alt 18 .done .nil))) .nil)) .nil)) .nil))) (.alt 11 (.take 12 [] (.alt 7 (.take 8 [] (.take 9 [] (.alt 13 (.take 14 [] (.alt 15 (.take 16 [] (.take 17 [] (.alt 18 .done .nil))) .nil)) .nil))) (.alt 13 (.take 7 [0,1,2,3,4,5,6,10,11,12,13] (.take 8 [] (.take 9 [] (.take 14 [] (.alt 15 (.take 16 [] (.take 17 [] (.alt 18 .done .nil))) .nil))))) .nil))) .nil)) (.alt 7 (.take 8 [] (.take 9 [] (.alt 3 (.alt 11 (.take 12 [] (.alt 13 (.take 14 [] (.alt 15 (.take 16 [] (.take 17 [] (.alt 18 .done .nil))) .nil)) .nil)) .nil) (.alt 11 (.take 3 [0,1,2,4,5,6,7,8,9,10,11] (.take 12 [] (.alt 13 (.take 14 [] (.alt 15 (.take 16 [] (.take 17 [] (.alt 18 .done .nil))) .nil)) .nil))) .nil)))) (.alt 11 (.take 3 [0,1,2,4,5,6,7,8,9,10,11] (.take 12 [] (.alt 7 (.take 8 [] (.take 9 [] (.alt 13 (.take 14 [] (.alt 15 (.take 16 [] (.take 17 [] (.alt 18 .done .nil))) .nil)) .nil))) (.alt 13 (.take 7 [0,1,2,3,4,5,6,10,11,12,13] (.take 8 [] (.take 9 [] (.take 14 [] (.alt 15 (.take 16 [] (.take 17 [] (.alt 18 .done .nil))) .nil))))) .nil)))) .nil))) (.alt 7 (.take 8 [] (.alt 3 (.alt 5 (.take 9 [] (.alt 11 (.take 12 [] (.alt 13 (.take 14 [] (.alt 15 (.take 16 [] (.take 17 [] (.alt 18 .done .nil))) .nil)) .nil)) .nil)) (.alt 11 (.take 12 [] (.alt 5 (.take 9 [] (.alt 13 (.take 14 [] (.alt 15 (.take 16 [] (.take 17 [] (.alt 18 .done .nil))) .nil)) .nil)) (.alt 13 (.take 5 [0,1,2,3,4,6,7,8,10,11,12,13] (.take 9 [] (.take 14 [] (.alt 15 (.take 16 [] (.take 17 [] (.alt 18 .done .nil))) .nil)))) .nil))) .nil)) (.alt 5 (.take 9 [] (.alt 3 (.alt 11 (.take 12 [] (.alt 13 (.take 14 [] (.alt 15 (.take 16 [] (.take 17 [] (.alt 18 .done .nil))) .nil)) .nil)) .nil) (.alt 11 (.take 3 [0,1,2,4,5,6,7,8,9,10,11] (.take 12 [] (.alt 13 (.take 14 [] (.alt 15 (.take 16 [] (.take 17 [] (.alt 18 .done .nil))) .nil)) .nil))) .nil))) (.alt 11 (.take 3 [0,1,2,4,5,6,7,8,9,10,11] (.take 12 [] (.alt 5 (.take 9 [] (.alt 13 (.take 14 [] (.alt 15 (.take 16 [] (.take 17 [] (.alt 18 .done .nil))) .nil)) .nil)) (.alt 13 (.take 5 [0,1,2,3,4,6,7,8,10,11,12,13] (.take 9 [] (.take 14 [] (.alt 15 (.take 16 [] (.take 17 [] (.alt 18 .done .nil))) .nil)))) .nil)))) .nil)))) (.alt 11 (.take 3 [0,1,2,4,5,6,7,8,9,10,11] (.take 12 [] (.alt 5 (.alt 7 (.take 8 [] (.take 9 [] (.alt 13 (.take 14 [] (.alt 15 (.take 16 [] (.take 17 [] (.alt 18 .done .nil))) .nil)) .nil))) (.alt 13 (.take 7 [0,1,2,3,4,5,6,10,11,12,13] (.take 8 [] (.take 9 [] (.take 14 [] (.alt 15 (.take 16 [] (.take 17 [] (.alt 18 .done .nil))) .nil))))) .nil)) (.alt 7 (.take 8 [] (.alt 5 (.take 9 [] (.alt 13 (.take 14 [] (.alt 15 (.take 16 [] (.take 17 [] (.alt 18 .done .nil))) .nil)) .nil)) (.alt 13 (.take 5 [0,1,2,3,4,6,7,8,10,11,12,13] (.take 9 [] (.take 14 [] (.alt 15 (.take 16 [] (.take 17 [] (.alt 18 .done .nil))) .nil)))) .nil))) (.alt 13 (.take 5 [0,1,2,3,4,6,7,8,10,11,12,13] (.take 7 [0,1,2,3,4,5,6,10,11,12,13] (.take 8 [] (.take 9 [] (.take 14 [] (.alt 15 (.take 16 [] (.take 17 [] (.alt 18 .done .nil))) .nil)))))) .nil))))) .nil)))))))))))],aQ:=[]}
theorem e:ay Pg C Q Tryz.f11 0 id st v o tree:=fun J K x=>by cases x<;>kernel_rfl
theorem b (a0:List az) (a1 a2:List Int) (a3 a4 a5 a6 a7 a8 a9 a10:Int) (a11:List Int) (a12 a13:Int):ax Pg C Q Tryz.f11 0 id st v o (S a0 a1 a2 a3 a4 a5 a6 a7 a8 a9 a10 a11 a12 a13) (begin a0 a1 a2 a3 a4 a5 a6 a7 a8 a9 a10 a11 a12 a13):=fun J K=>by kernel_rfl
def told (a0:List az) (a1 a2:List Int) (a3 a4 a5 a6 a7 a8 a9 a10:Int) (a11:List Int) (a12 a13:Int):aa.Told A:=⟨f a0 a1 a2 a3 a4 a5 a6 a7 a8 a9 a10 a11 a12 a13,fun r=>af Pg C 11 (S a0 a1 a2 a3 a4 a5 a6 a7 a8 a9 a10 a11 a12 a13) 0 (v r) (o r),fun r h=>ae G mixed Q Tryz.func11 rfl (of_decide_eq_true (by kernel_rfl)) (by rfl) id st v o (fun _=>rfl) tree e (begin a0 a1 a2 a3 a4 a5 a6 a7 a8 a9 a10 a11 a12 a13) (b a0 a1 a2 a3 a4 a5 a6 a7 a8 a9 a10 a11 a12 a13) h⟩
end bM
namespace fg
def S (a0 a1 a2 a3 a4 a5:Int):List (PV U):=aa.start C 20 [.agg [.int .i64 a0,.int .i64 a1,.int .i64 a2],.agg [.int .i64 a3,.int .i64 a4,.int .i64 a5]] []
abbrev X:=Empty
def id:X→Nat:=fun _=>0
def st:X→List (PV U):=fun _=>[]
def begin (a0 a1 a2 a3 a4 a5:Int):Tr X A:=
 .ite (!decide (a0=a3))
  (.ret false)
  (.ite (!decide (a1=a4))
   (.ret false)
   (.ite (!decide (a2=a5))
    (.ret false)
    (.ret true)))
def tree:X→Tr X A:=fun _=> .fail
def f (a0 a1 a2 a3 a4 a5:Int):Option A:=(begin a0 a1 a2 a3 a4 a5).run (lp tree)
def Q:aE C:={PL with aU:=[],aT:=[],aQ:=[]}
theorem e:ay Pg C Q Tryz.f202 0 id st v o tree:=fun J K x=>by cases x
theorem b (a0 a1 a2 a3 a4 a5:Int):ax Pg C Q Tryz.f202 0 id st v o (S a0 a1 a2 a3 a4 a5) (begin a0 a1 a2 a3 a4 a5):=fun J K=>by kernel_rfl
def told (a0 a1 a2 a3 a4 a5:Int):aa.Told A:=⟨f a0 a1 a2 a3 a4 a5,fun r=>af Pg C 202 (S a0 a1 a2 a3 a4 a5) 0 (v r) (o r),fun r h=>ae G mixed Q Tryz.func202 rfl (of_decide_eq_true (by kernel_rfl)) (by rfl) id st v o (fun _=>rfl) tree e (begin a0 a1 a2 a3 a4 a5) (b a0 a1 a2 a3 a4 a5) h⟩
end fg
namespace fP
def S (a0 a1 a2 a3 a4 a5 a6 a7 a8 a9 a10 a11:Int):List (PV U):=aa.start C 26 [.agg [.int .i64 a0,.int .i64 a1,.int .i64 a2,.int .i64 a3,.int .i64 a4,.int .i64 a5],.agg [.int .i64 a6,.int .i64 a7,.int .i64 a8,.int .i64 a9,.int .i64 a10,.int .i64 a11]] []
abbrev X:=Empty
def id:X→Nat:=fun _=>0
def st:X→List (PV U):=fun _=>[]
def begin (a0 a1 a2 a3 a4 a5 a6 a7 a8 a9 a10 a11:Int):Tr X A:=
 .ite (!decide (a0=a6))
  (.ret false)
  (.ite (!decide (a1=a7))
   (.ret false)
   (.ite (!decide (a2=a8))
    (.ret false)
    (.call (fg.told a3 a4 a5 a9 a10 a11) fun t1=> .ite (!t1)
     (.ret false)
     (.ret true))))
def tree:X→Tr X A:=fun _=> .fail
def f (a0 a1 a2 a3 a4 a5 a6 a7 a8 a9 a10 a11:Int):Option A:=(begin a0 a1 a2 a3 a4 a5 a6 a7 a8 a9 a10 a11).run (lp tree)
def Q:aE C:={PL with aU:=[],aT:=[],aQ:=[]}
theorem e:ay Pg C Q Tryz.f237 0 id st v o tree:=fun J K x=>by cases x
theorem b (a0 a1 a2 a3 a4 a5 a6 a7 a8 a9 a10 a11:Int):ax Pg C Q Tryz.f237 0 id st v o (S a0 a1 a2 a3 a4 a5 a6 a7 a8 a9 a10 a11) (begin a0 a1 a2 a3 a4 a5 a6 a7 a8 a9 a10 a11):=fun J K=>by kernel_rfl
def told (a0 a1 a2 a3 a4 a5 a6 a7 a8 a9 a10 a11:Int):aa.Told A:=⟨f a0 a1 a2 a3 a4 a5 a6 a7 a8 a9 a10 a11,fun r=>af Pg C 237 (S a0 a1 a2 a3 a4 a5 a6 a7 a8 a9 a10 a11) 0 (v r) (o r),fun r h=>ae G mixed Q Tryz.func237 rfl (of_decide_eq_true (by kernel_rfl)) (by rfl) id st v o (fun _=>rfl) tree e (begin a0 a1 a2 a3 a4 a5 a6 a7 a8 a9 a10 a11) (b a0 a1 a2 a3 a4 a5 a6 a7 a8 a9 a10 a11) h⟩
end fP
namespace dR
def S (a0 a1:List aq):List (PV U):=aa.start C 27 [.sl 204 a0,.sl 204 a1] []
inductive X where
 | c4 (x0 x1:List aq) (x2:Int)
def id:X→Nat
 | .c4 .. =>4
def st:X→List (PV U)
 | .c4 x0 x1 x2=>eH 27 [(0,.sl 204 x0),(1,.sl 204 x1),(5,.int .i64 x2)]
def begin (a0 a1:List aq):Tr X A:=
 .ite (!decide ((List.length a0:Int)=(List.length a1:Int)))
  (.ret false)
  (.jump (.c4 a0 a1 (0:Int)))
def tree:X→Tr X A
 | .c4 x0 x1 x2=>
 .ite (decide (x2<(List.length x0:Int)))
  (.aG ((0:Int)≤x2∧x2<(List.length x0:Int)) (.aG ((0:Int)≤x2∧x2<(List.length x1:Int)) (.last (.call (fP.told ((ah x0 x2).f0) ((ah x0 x2).f1) ((ah x0 x2).f2) ((ah x0 x2).f3.f0) ((ah x0 x2).f3.f1) ((ah x0 x2).f3.f2) ((ah x1 x2).f0) ((ah x1 x2).f1) ((ah x1 x2).f2) ((ah x1 x2).f3.f0) ((ah x1 x2).f3.f1) ((ah x1 x2).f3.f2)) fun t1=> .ite (!t1)
   (.ret false)
   (.jump (.c4 x0 x1 (wr (x2+(1:Int)))))))))
  (.ret true)
def f (a0 a1:List aq):Option A:=(begin a0 a1).run (lp tree)
def Q:aE C:={PL with aU:=[(4,[0,1,5])],aT:=[(6,[],(.take 0 [] (.take 1 [] (.take 2 [] (.take 4 [] (.take 5 [] (.take 6 [] (.take 3 [0,1,2,4,5,6,7] (.take 7 [0,1,2,3,4,5,6] (.alt 8 (.take 9 [] .done) .nil))))))))))],aQ:=[]}
theorem e:ay Pg C Q Tryz.f201 0 id st v o tree:=fun J K x=>by cases x<;>kernel_rfl
theorem b (a0 a1:List aq):ax Pg C Q Tryz.f201 0 id st v o (S a0 a1) (begin a0 a1):=fun J K=>by kernel_rfl
def told (a0 a1:List aq):aa.Told A:=⟨f a0 a1,fun r=>af Pg C 201 (S a0 a1) 0 (v r) (o r),fun r h=>ae G mixed Q Tryz.func201 rfl (of_decide_eq_true (by kernel_rfl)) (by rfl) id st v o (fun _=>rfl) tree e (begin a0 a1) (b a0 a1) h⟩
end dR
namespace fT
def S (a0:List aq) (a1 a2 a3:Int) (a4:List aq) (a5 a6 a7:Int):List (PV U):=aa.start C 17 [.agg [.sl 204 a0,.int .i64 a1,.int .i64 a2,.int .i64 a3],.agg [.sl 204 a4,.int .i64 a5,.int .i64 a6,.int .i64 a7]] []
abbrev X:=Empty
def id:X→Nat:=fun _=>0
def st:X→List (PV U):=fun _=>[]
def begin (a0:List aq) (a1 a2 a3:Int) (a4:List aq) (a5 a6 a7:Int):Tr X A:=
 .call (dR.told a0 a4) fun t1=> .ite (!t1)
  (.ret false)
  (.call (fg.told a1 a2 a3 a5 a6 a7) fun t2=> .ite (!t2)
   (.ret false)
   (.ret true))
def tree:X→Tr X A:=fun _=> .fail
def f (a0:List aq) (a1 a2 a3:Int) (a4:List aq) (a5 a6 a7:Int):Option A:=(begin a0 a1 a2 a3 a4 a5 a6 a7).run (lp tree)
def Q:aE C:={PL with aU:=[],aT:=[],aQ:=[]}
theorem e:ay Pg C Q Tryz.f164 0 id st v o tree:=fun J K x=>by cases x
theorem b (a0:List aq) (a1 a2 a3:Int) (a4:List aq) (a5 a6 a7:Int):ax Pg C Q Tryz.f164 0 id st v o (S a0 a1 a2 a3 a4 a5 a6 a7) (begin a0 a1 a2 a3 a4 a5 a6 a7):=fun J K=>by kernel_rfl
def told (a0:List aq) (a1 a2 a3:Int) (a4:List aq) (a5 a6 a7:Int):aa.Told A:=⟨f a0 a1 a2 a3 a4 a5 a6 a7,fun r=>af Pg C 164 (S a0 a1 a2 a3 a4 a5 a6 a7) 0 (v r) (o r),fun r h=>ae G mixed Q Tryz.func164 rfl (of_decide_eq_true (by kernel_rfl)) (by rfl) id st v o (fun _=>rfl) tree e (begin a0 a1 a2 a3 a4 a5 a6 a7) (b a0 a1 a2 a3 a4 a5 a6 a7) h⟩
end fT
namespace dP
def S (a0 a1:List az):List (PV U):=aa.start C 27 [.sl 164 a0,.sl 164 a1] []
inductive X where
 | c4 (x0 x1:List az) (x2:Int)
def id:X→Nat
 | .c4 .. =>4
def st:X→List (PV U)
 | .c4 x0 x1 x2=>eH 27 [(0,.sl 164 x0),(1,.sl 164 x1),(5,.int .i64 x2)]
def begin (a0 a1:List az):Tr X A:=
 .ite (!decide ((List.length a0:Int)=(List.length a1:Int)))
  (.ret false)
  (.jump (.c4 a0 a1 (0:Int)))
def tree:X→Tr X A
 | .c4 x0 x1 x2=>
 .ite (decide (x2<(List.length x0:Int)))
  (.aG ((0:Int)≤x2∧x2<(List.length x0:Int)) (.aG ((0:Int)≤x2∧x2<(List.length x1:Int)) (.last (.call (fT.told ((aV x0 x2).f0) ((aV x0 x2).f1.f0) ((aV x0 x2).f1.f1) ((aV x0 x2).f1.f2) ((aV x1 x2).f0) ((aV x1 x2).f1.f0) ((aV x1 x2).f1.f1) ((aV x1 x2).f1.f2)) fun t1=> .ite (!t1)
   (.ret false)
   (.jump (.c4 x0 x1 (wr (x2+(1:Int)))))))))
  (.ret true)
def f (a0 a1:List az):Option A:=(begin a0 a1).run (lp tree)
def Q:aE C:={PL with aU:=[(4,[0,1,5])],aT:=[(6,[],(.take 0 [] (.take 1 [] (.take 2 [] (.take 4 [] (.take 5 [] (.take 6 [] (.take 3 [0,1,2,4,5,6,7] (.take 7 [0,1,2,3,4,5,6] (.alt 8 (.take 9 [] .done) .nil))))))))))],aQ:=[]}
theorem e:ay Pg C Q Tryz.f123 0 id st v o tree:=fun J K x=>by cases x<;>kernel_rfl
theorem b (a0 a1:List az):ax Pg C Q Tryz.f123 0 id st v o (S a0 a1) (begin a0 a1):=fun J K=>by kernel_rfl
def told (a0 a1:List az):aa.Told A:=⟨f a0 a1,fun r=>af Pg C 123 (S a0 a1) 0 (v r) (o r),fun r h=>ae G mixed Q Tryz.func123 rfl (of_decide_eq_true (by kernel_rfl)) (by rfl) id st v o (fun _=>rfl) tree e (begin a0 a1) (b a0 a1) h⟩
end dP
namespace dG
def S (a0 a1:List az):List (PV U):=aa.start C 11 [.agg [.sl 164 a0],.agg [.sl 164 a1]] []
abbrev X:=Empty
def id:X→Nat:=fun _=>0
def st:X→List (PV U):=fun _=>[]
def begin (a0 a1:List az):Tr X A:=
 .call (dP.told a0 a1) fun t1=> .ite (!t1)
  (.ret false)
  (.ret true)
def tree:X→Tr X A:=fun _=> .fail
def f (a0 a1:List az):Option A:=(begin a0 a1).run (lp tree)
def Q:aE C:={PL with aU:=[],aT:=[],aQ:=[]}
theorem e:ay Pg C Q Tryz.f67 0 id st v o tree:=fun J K x=>by cases x
theorem b (a0 a1:List az):ax Pg C Q Tryz.f67 0 id st v o (S a0 a1) (begin a0 a1):=fun J K=>by kernel_rfl
def told (a0 a1:List az):aa.Told A:=⟨f a0 a1,fun r=>af Pg C 67 (S a0 a1) 0 (v r) (o r),fun r h=>ae G mixed Q Tryz.func67 rfl (of_decide_eq_true (by kernel_rfl)) (by rfl) id st v o (fun _=>rfl) tree e (begin a0 a1) (b a0 a1) h⟩
end dG
namespace dw
def S (a0 a1:List Int):List (PV U):=aa.start C 26 [.sl 3 a0,.sl 3 a1] []
inductive X where
 | c4 (x0 x1:List Int) (x2:Int)
def id:X→Nat
 | .c4 .. =>4
def st:X→List (PV U)
 | .c4 x0 x1 x2=>eH 26 [(0,.sl 3 x0),(1,.sl 3 x1),(5,.int .i64 x2)]
def begin (a0 a1:List Int):Tr X A:=
 .ite (!decide ((List.length a0:Int)=(List.length a1:Int)))
  (.ret false)
  (.jump (.c4 a0 a1 (0:Int)))
def tree:X→Tr X A
 | .c4 x0 x1 x2=>
 .ite (decide (x2<(List.length x0:Int)))
  (.aG ((0:Int)≤x2∧x2<(List.length x0:Int)) (.aG ((0:Int)≤x2∧x2<(List.length x1:Int)) (.ite (!decide ((eG x0 x2)=(eG x1 x2)))
   (.ret false)
   (.jump (.c4 x0 x1 (wr (x2+(1:Int))))))))
  (.ret true)
def f (a0 a1:List Int):Option A:=(begin a0 a1).run (lp tree)
def Q:aE C:={PL with aU:=[(4,[0,1,5])],aT:=[(6,[],(.take 0 [] (.take 1 [] (.take 2 [] (.take 4 [] (.take 5 [] (.take 6 [] (.take 3 [0,1,2,4,5,6,7] (.take 7 [0,1,2,3,4,5,6] (.take 8 [] .done))))))))))],aQ:=[]}
theorem e:ay Pg C Q Tryz.f30 0 id st v o tree:=fun J K x=>by cases x<;>kernel_rfl
theorem b (a0 a1:List Int):ax Pg C Q Tryz.f30 0 id st v o (S a0 a1) (begin a0 a1):=fun J K=>by kernel_rfl
def told (a0 a1:List Int):aa.Told A:=⟨f a0 a1,fun r=>af Pg C 30 (S a0 a1) 0 (v r) (o r),fun r h=>ae G mixed Q Tryz.func30 rfl (of_decide_eq_true (by kernel_rfl)) (by rfl) id st v o (fun _=>rfl) tree e (begin a0 a1) (b a0 a1) h⟩
end dw
namespace fr
def S (a0 a1 a2 a3 a4 a5 a6 a7:Int):List (PV U):=aa.start C 25 [.agg [.int .i64 a0,.int .i64 a1,.int .i64 a2,.int .i64 a3],.agg [.int .i64 a4,.int .i64 a5,.int .i64 a6,.int .i64 a7]] []
abbrev X:=Empty
def id:X→Nat:=fun _=>0
def st:X→List (PV U):=fun _=>[]
def begin (a0 a1 a2 a3 a4 a5 a6 a7:Int):Tr X A:=
 .ite (!decide (a0=a4))
  (.ret false)
  (.ite (!decide (a1=a5))
   (.ret false)
   (.ite (!decide (a2=a6))
    (.ret false)
    (.ite (!decide (a3=a7))
     (.ret false)
     (.ret true))))
def tree:X→Tr X A:=fun _=> .fail
def f (a0 a1 a2 a3 a4 a5 a6 a7:Int):Option A:=(begin a0 a1 a2 a3 a4 a5 a6 a7).run (lp tree)
def Q:aE C:={PL with aU:=[],aT:=[],aQ:=[]}
theorem e:ay Pg C Q Tryz.f68 0 id st v o tree:=fun J K x=>by cases x
theorem b (a0 a1 a2 a3 a4 a5 a6 a7:Int):ax Pg C Q Tryz.f68 0 id st v o (S a0 a1 a2 a3 a4 a5 a6 a7) (begin a0 a1 a2 a3 a4 a5 a6 a7):=fun J K=>by kernel_rfl
def told (a0 a1 a2 a3 a4 a5 a6 a7:Int):aa.Told A:=⟨f a0 a1 a2 a3 a4 a5 a6 a7,fun r=>af Pg C 68 (S a0 a1 a2 a3 a4 a5 a6 a7) 0 (v r) (o r),fun r h=>ae G mixed Q Tryz.func68 rfl (of_decide_eq_true (by kernel_rfl)) (by rfl) id st v o (fun _=>rfl) tree e (begin a0 a1 a2 a3 a4 a5 a6 a7) (b a0 a1 a2 a3 a4 a5 a6 a7) h⟩
end fr
namespace fX
def S (a0 a1 a2 a3:Int):List (PV U):=aa.start C 15 [.agg [.int .i64 a0,.int .i64 a1],.agg [.int .i64 a2,.int .i64 a3]] []
abbrev X:=Empty
def id:X→Nat:=fun _=>0
def st:X→List (PV U):=fun _=>[]
def begin (a0 a1 a2 a3:Int):Tr X A:=
 .ite (!decide (a0=a2))
  (.ret false)
  (.ite (!decide (a1=a3))
   (.ret false)
   (.ret true))
def tree:X→Tr X A:=fun _=> .fail
def f (a0 a1 a2 a3:Int):Option A:=(begin a0 a1 a2 a3).run (lp tree)
def Q:aE C:={PL with aU:=[],aT:=[],aQ:=[]}
theorem e:ay Pg C Q Tryz.f69 0 id st v o tree:=fun J K x=>by cases x
theorem b (a0 a1 a2 a3:Int):ax Pg C Q Tryz.f69 0 id st v o (S a0 a1 a2 a3) (begin a0 a1 a2 a3):=fun J K=>by kernel_rfl
def told (a0 a1 a2 a3:Int):aa.Told A:=⟨f a0 a1 a2 a3,fun r=>af Pg C 69 (S a0 a1 a2 a3) 0 (v r) (o r),fun r h=>ae G mixed Q Tryz.func69 rfl (of_decide_eq_true (by kernel_rfl)) (by rfl) id st v o (fun _=>rfl) tree e (begin a0 a1 a2 a3) (b a0 a1 a2 a3) h⟩
end fX
namespace dI
def S (a0 a1:List Int):List (PV U):=aa.start C 11 [.agg [.sl 3 a0],.agg [.sl 3 a1]] []
abbrev X:=Empty
def id:X→Nat:=fun _=>0
def st:X→List (PV U):=fun _=>[]
def begin (a0 a1:List Int):Tr X A:=
 .call (dw.told a0 a1) fun t1=> .ite (!t1)
  (.ret false)
  (.ret true)
def tree:X→Tr X A:=fun _=> .fail
def f (a0 a1:List Int):Option A:=(begin a0 a1).run (lp tree)
def Q:aE C:={PL with aU:=[],aT:=[],aQ:=[]}
theorem e:ay Pg C Q Tryz.f124 0 id st v o tree:=fun J K x=>by cases x
theorem b (a0 a1:List Int):ax Pg C Q Tryz.f124 0 id st v o (S a0 a1) (begin a0 a1):=fun J K=>by kernel_rfl
def told (a0 a1:List Int):aa.Told A:=⟨f a0 a1,fun r=>af Pg C 124 (S a0 a1) 0 (v r) (o r),fun r h=>ae G mixed Q Tryz.func124 rfl (of_decide_eq_true (by kernel_rfl)) (by rfl) id st v o (fun _=>rfl) tree e (begin a0 a1) (b a0 a1) h⟩
end dI
namespace fR
def S (a0:Int) (a1:List Int) (a2:Int) (a3:List Int):List (PV U):=aa.start C 16 [.agg [.int .i64 a0,.sl 3 a1],.agg [.int .i64 a2,.sl 3 a3]] []
abbrev X:=Empty
def id:X→Nat:=fun _=>0
def st:X→List (PV U):=fun _=>[]
def begin (a0:Int) (a1:List Int) (a2:Int) (a3:List Int):Tr X A:=
 .ite (!decide (a0=a2))
  (.ret false)
  (.call (dI.told a1 a3) fun t1=> .ite (!t1)
   (.ret false)
   (.ret true))
def tree:X→Tr X A:=fun _=> .fail
def f (a0:Int) (a1:List Int) (a2:Int) (a3:List Int):Option A:=(begin a0 a1 a2 a3).run (lp tree)
def Q:aE C:={PL with aU:=[],aT:=[],aQ:=[]}
theorem e:ay Pg C Q Tryz.f70 0 id st v o tree:=fun J K x=>by cases x
theorem b (a0:Int) (a1:List Int) (a2:Int) (a3:List Int):ax Pg C Q Tryz.f70 0 id st v o (S a0 a1 a2 a3) (begin a0 a1 a2 a3):=fun J K=>by kernel_rfl
def told (a0:Int) (a1:List Int) (a2:Int) (a3:List Int):aa.Told A:=⟨f a0 a1 a2 a3,fun r=>af Pg C 70 (S a0 a1 a2 a3) 0 (v r) (o r),fun r h=>ae G mixed Q Tryz.func70 rfl (of_decide_eq_true (by kernel_rfl)) (by rfl) id st v o (fun _=>rfl) tree e (begin a0 a1 a2 a3) (b a0 a1 a2 a3) h⟩
end fR
namespace eO
def S (a0:List az) (a1 a2:List Int) (a3 a4 a5 a6 a7 a8 a9 a10:Int) (a11:List Int) (a12:Int) (a13:List az) (a14 a15:List Int) (a16 a17 a18 a19 a20 a21 a22 a23:Int) (a24:List Int) (a25:Int):List (PV U):=aa.start C 51 [.agg [.sl 164 a0,.sl 3 a1,.sl 3 a2,.int .i64 a3,.int .i64 a4,.int .i64 a5,.int .i64 a6,.int .i64 a7,.int .i64 a8,.int .i64 a9,.int .i64 a10,.sl 3 a11,.int .i64 a12],.agg [.sl 164 a13,.sl 3 a14,.sl 3 a15,.int .i64 a16,.int .i64 a17,.int .i64 a18,.int .i64 a19,.int .i64 a20,.int .i64 a21,.int .i64 a22,.int .i64 a23,.sl 3 a24,.int .i64 a25]] []
abbrev X:=Empty
def id:X→Nat:=fun _=>0
def st:X→List (PV U):=fun _=>[]
def begin (a0:List az) (a1 a2:List Int) (a3 a4 a5 a6 a7 a8 a9 a10:Int) (a11:List Int) (a12:Int) (a13:List az) (a14 a15:List Int) (a16 a17 a18 a19 a20 a21 a22 a23:Int) (a24:List Int) (a25:Int):Tr X A:=
 .call (dG.told a0 a13) fun t1=> .ite (!t1)
  (.ret false)
  (.call (dw.told a1 a14) fun t2=> .ite (!t2)
   (.ret false)
   (.call (dw.told a2 a15) fun t3=> .ite (!t3)
    (.ret false)
    (.ite (!decide (a3=a16))
     (.ret false)
     (.call (fr.told a4 a5 a6 a7 a17 a18 a19 a20) fun t4=> .ite (!t4)
      (.ret false)
      (.call (fX.told a8 a9 a21 a22) fun t5=> .ite (!t5)
       (.ret false)
       (.call (fR.told a10 a11 a23 a24) fun t6=> .ite (!t6)
        (.ret false)
        (.ite (!decide (a12=a25))
         (.ret false)
         (.ret true))))))))
def tree:X→Tr X A:=fun _=> .fail
def f (a0:List az) (a1 a2:List Int) (a3 a4 a5 a6 a7 a8 a9 a10:Int) (a11:List Int) (a12:Int) (a13:List az) (a14 a15:List Int) (a16 a17 a18 a19 a20 a21 a22 a23:Int) (a24:List Int) (a25:Int):Option A:=(begin a0 a1 a2 a3 a4 a5 a6 a7 a8 a9 a10 a11 a12 a13 a14 a15 a16 a17 a18 a19 a20 a21 a22 a23 a24 a25).run (lp tree)
def Q:aE C:={PL with aU:=[],aT:=[],aQ:=[]}
theorem e:ay Pg C Q Tryz.f20 0 id st v o tree:=fun J K x=>by cases x
theorem b (a0:List az) (a1 a2:List Int) (a3 a4 a5 a6 a7 a8 a9 a10:Int) (a11:List Int) (a12:Int) (a13:List az) (a14 a15:List Int) (a16 a17 a18 a19 a20 a21 a22 a23:Int) (a24:List Int) (a25:Int):ax Pg C Q Tryz.f20 0 id st v o (S a0 a1 a2 a3 a4 a5 a6 a7 a8 a9 a10 a11 a12 a13 a14 a15 a16 a17 a18 a19 a20 a21 a22 a23 a24 a25) (begin a0 a1 a2 a3 a4 a5 a6 a7 a8 a9 a10 a11 a12 a13 a14 a15 a16 a17 a18 a19 a20 a21 a22 a23 a24 a25):=fun J K=>by kernel_rfl
def told (a0:List az) (a1 a2:List Int) (a3 a4 a5 a6 a7 a8 a9 a10:Int) (a11:List Int) (a12:Int) (a13:List az) (a14 a15:List Int) (a16 a17 a18 a19 a20 a21 a22 a23:Int) (a24:List Int) (a25:Int):aa.Told A:=⟨f a0 a1 a2 a3 a4 a5 a6 a7 a8 a9 a10 a11 a12 a13 a14 a15 a16 a17 a18 a19 a20 a21 a22 a23 a24 a25,fun r=>af Pg C 20 (S a0 a1 a2 a3 a4 a5 a6 a7 a8 a9 a10 a11 a12 a13 a14 a15 a16 a17 a18 a19 a20 a21 a22 a23 a24 a25) 0 (v r) (o r),fun r h=>ae G mixed Q Tryz.func20 rfl (of_decide_eq_true (by kernel_rfl)) (by rfl) id st v o (fun _=>rfl) tree e (begin a0 a1 a2 a3 a4 a5 a6 a7 a8 a9 a10 a11 a12 a13 a14 a15 a16 a17 a18 a19 a20 a21 a22 a23 a24 a25) (b a0 a1 a2 a3 a4 a5 a6 a7 a8 a9 a10 a11 a12 a13 a14 a15 a16 a17 a18 a19 a20 a21 a22 a23 a24 a25) h⟩
end eO
namespace cK
def S (a0:Int) (a1:List aq):List (PV U):=aa.start C 58 [.iL (58,[]),.int .i64 a0] [.own true 204 a1]
inductive X where
 | c2 (x0 x1:Int) (x2:List aq)
def id:X→Nat
 | .c2 .. =>2
def st:X→List (PV U)
 | .c2 x0 x1 x2=>eH 59 [(0,.iL (58,[])),(1,.int .i64 x0),(5,.int .i64 x1),(58,.own true 204 x2)]
def begin (a0:Int) (a1:List aq):Tr X A:=
 .jump (.c2 a0 (0:Int) a1)
def tree:X→Tr X A
 | .c2 x0 x1 x2=>
 .ite (decide (x1<(List.length x2:Int)))
  (.aG ((0:Int)≤x1∧x1<(List.length x2:Int)) (.val ((List.set x2 (Int.toNat x1) (⟨x0,(ah x2 x1).f1,(ah x2 x1).f2,(⟨(ah x2 x1).f3.f0,(ah x2 x1).f3.f1,(ah x2 x1).f3.f2⟩:iQ)⟩:aq)):List aq) fun v1=> .aG ((0:Int)≤x1∧x1<(List.length v1:Int)) (.val ((List.set v1 (Int.toNat x1) (⟨(ah v1 x1).f0,(wr (x0+(1:Int))),(ah v1 x1).f2,(⟨(ah v1 x1).f3.f0,(ah v1 x1).f3.f1,(ah v1 x1).f3.f2⟩:iQ)⟩:aq)):List aq) fun v2=> .aG ((0:Int)≤x1∧x1<(List.length v2:Int)) (.val ((List.set v2 (Int.toNat x1) (⟨(ah v2 x1).f0,(ah v2 x1).f1,(wr ((wr (x0+(1:Int)))+(1:Int))),(⟨(ah v2 x1).f3.f0,(ah v2 x1).f3.f1,(ah v2 x1).f3.f2⟩:iQ)⟩:aq)):List aq) fun v3=> .aG ((0:Int)≤x1∧x1<(List.length v3:Int)) (.val ((List.set v3 (Int.toNat x1) (⟨(ah v3 x1).f0,(ah v3 x1).f1,(ah v3 x1).f2,(⟨(wr ((wr ((wr (x0+(1:Int)))+(1:Int)))+(1:Int))),(ah v3 x1).f3.f1,(ah v3 x1).f3.f2⟩:iQ)⟩:aq)):List aq) fun v4=> .aG ((0:Int)≤x1∧x1<(List.length v4:Int)) (.val ((List.set v4 (Int.toNat x1) (⟨(ah v4 x1).f0,(ah v4 x1).f1,(ah v4 x1).f2,(⟨(ah v4 x1).f3.f0,(wr ((wr ((wr ((wr (x0+(1:Int)))+(1:Int)))+(1:Int)))+(1:Int))),(ah v4 x1).f3.f2⟩:iQ)⟩:aq)):List aq) fun v5=> .val ((wr ((wr ((wr ((wr ((wr (x0+(1:Int)))+(1:Int)))+(1:Int)))+(1:Int)))+(1:Int))):Int) fun v6=> .aG ((0:Int)≤x1∧x1<(List.length v5:Int)) (.val ((List.set v5 (Int.toNat x1) (⟨(ah v5 x1).f0,(ah v5 x1).f1,(ah v5 x1).f2,(⟨(ah v5 x1).f3.f0,(ah v5 x1).f3.f1,v6⟩:iQ)⟩:aq)):List aq) fun v7=> .jump (.c2 (wr (v6+(1:Int))) (wr (x1+(1:Int))) v7))))))))
  (.ret (x0,x2))
def f (a0:Int) (a1:List aq):Option A:=(begin a0 a1).run (lp tree)
def Q:aE C:={PL with aU:=[(2,[0,1,5,58])],aT:=[],aQ:=[]}
theorem e:ay Pg C Q Tryz.f165 1 id st v o tree:=fun J K x=>by cases x<;>kernel_rfl
theorem b (a0:Int) (a1:List aq):ax Pg C Q Tryz.f165 1 id st v o (S a0 a1) (begin a0 a1):=fun J K=>by kernel_rfl
def told (a0:Int) (a1:List aq):aa.Told A:=⟨f a0 a1,fun r=>af Pg C 165 (S a0 a1) 1 (v r) (o r),fun r h=>ae G mixed Q Tryz.func165 rfl (of_decide_eq_true (by kernel_rfl)) (by rfl) id st v o (fun _=>rfl) tree e (begin a0 a1) (b a0 a1) h⟩
end cK
namespace cJ
def S (a0:Int) (a1:List az):List (PV U):=aa.start C 44 [.iL (44,[]),.int .i64 a0] [.own true 164 a1]
inductive X where
 | c2 (x0 x1:Int) (x2:List az)
def id:X→Nat
 | .c2 .. =>2
def st:X→List (PV U)
 | .c2 x0 x1 x2=>eH 45 [(0,.iL (44,[])),(1,.int .i64 x0),(5,.int .i64 x1),(44,.own true 164 x2)]
def begin (a0:Int) (a1:List az):Tr X A:=
 .jump (.c2 a0 (0:Int) a1)
def tree:X→Tr X A
 | .c2 x0 x1 x2=>
 .ite (decide (x1<(List.length x2:Int)))
  (.aG ((0:Int)≤x1∧x1<(List.length x2:Int)) (.call (cK.told x0 ((aV x2 x1).f0)) fun t1=> .aG ((0:Int)≤x1∧x1<(List.length (List.set x2 (Int.toNat x1) (⟨t1.2,(⟨(aV x2 x1).f1.f0,(aV x2 x1).f1.f1,(aV x2 x1).f1.f2⟩:iQ)⟩:az)):Int)) (.val ((List.set (List.set x2 (Int.toNat x1) (⟨t1.2,(⟨(aV x2 x1).f1.f0,(aV x2 x1).f1.f1,(aV x2 x1).f1.f2⟩:iQ)⟩:az)) (Int.toNat x1) (⟨(aV (List.set x2 (Int.toNat x1) (⟨t1.2,(⟨(aV x2 x1).f1.f0,(aV x2 x1).f1.f1,(aV x2 x1).f1.f2⟩:iQ)⟩:az)) x1).f0,(⟨t1.1,(aV (List.set x2 (Int.toNat x1) (⟨t1.2,(⟨(aV x2 x1).f1.f0,(aV x2 x1).f1.f1,(aV x2 x1).f1.f2⟩:iQ)⟩:az)) x1).f1.f1,(aV (List.set x2 (Int.toNat x1) (⟨t1.2,(⟨(aV x2 x1).f1.f0,(aV x2 x1).f1.f1,(aV x2 x1).f1.f2⟩:iQ)⟩:az)) x1).f1.f2⟩:iQ)⟩:az)):List az) fun v2=> .aG ((0:Int)≤x1∧x1<(List.length v2:Int)) (.val ((List.set v2 (Int.toNat x1) (⟨(aV v2 x1).f0,(⟨(aV v2 x1).f1.f0,(wr (t1.1+(1:Int))),(aV v2 x1).f1.f2⟩:iQ)⟩:az)):List az) fun v3=> .aG ((0:Int)≤x1∧x1<(List.length v3:Int)) (.val ((List.set v3 (Int.toNat x1) (⟨(aV v3 x1).f0,(⟨(aV v3 x1).f1.f0,(aV v3 x1).f1.f1,(wr ((wr (t1.1+(1:Int)))+(1:Int)))⟩:iQ)⟩:az)):List az) fun v4=> .jump (.c2 (wr ((wr ((wr (t1.1+(1:Int)))+(1:Int)))+(1:Int))) (wr (x1+(1:Int))) v4))))))
  (.ret (x0,x2))
def f (a0:Int) (a1:List az):Option A:=(begin a0 a1).run (lp tree)
def Q:aE C:={PL with aU:=[(2,[0,1,5,44])],aT:=[],aQ:=[]}
theorem e:ay Pg C Q Tryz.f125 1 id st v o tree:=fun J K x=>by cases x<;>kernel_rfl
theorem b (a0:Int) (a1:List az):ax Pg C Q Tryz.f125 1 id st v o (S a0 a1) (begin a0 a1):=fun J K=>by kernel_rfl
def told (a0:Int) (a1:List az):aa.Told A:=⟨f a0 a1,fun r=>af Pg C 125 (S a0 a1) 1 (v r) (o r),fun r h=>ae G mixed Q Tryz.func125 rfl (of_decide_eq_true (by kernel_rfl)) (by rfl) id st v o (fun _=>rfl) tree e (begin a0 a1) (b a0 a1) h⟩
end cJ
namespace dh
def S (a0:Int) (a1:List az):List (PV U):=aa.start C 10 [.agg [.iL (10,[])],.int .i64 a0] [.own true 164 a1]
abbrev X:=Empty
def id:X→Nat:=fun _=>0
def st:X→List (PV U):=fun _=>[]
def begin (a0:Int) (a1:List az):Tr X A:=
 .call (cJ.told a0 a1) fun t1=> .ret (t1.1,t1.2)
def tree:X→Tr X A:=fun _=> .fail
def f (a0:Int) (a1:List az):Option A:=(begin a0 a1).run (lp tree)
def Q:aE C:={PL with aU:=[],aT:=[],aQ:=[]}
theorem e:ay Pg C Q Tryz.f71 1 id st v o tree:=fun J K x=>by cases x
theorem b (a0:Int) (a1:List az):ax Pg C Q Tryz.f71 1 id st v o (S a0 a1) (begin a0 a1):=fun J K=>by kernel_rfl
def told (a0:Int) (a1:List az):aa.Told A:=⟨f a0 a1,fun r=>af Pg C 71 (S a0 a1) 1 (v r) (o r),fun r h=>ae G mixed Q Tryz.func71 rfl (of_decide_eq_true (by kernel_rfl)) (by rfl) id st v o (fun _=>rfl) tree e (begin a0 a1) (b a0 a1) h⟩
end dh
namespace cH
def S (a0:Int) (a1:List Int):List (PV U):=aa.start C 19 [.iL (19,[]),.int .i64 a0] [.own true 3 a1]
inductive X where
 | c2 (x0 x1:Int) (x2:List Int)
def id:X→Nat
 | .c2 .. =>2
def st:X→List (PV U)
 | .c2 x0 x1 x2=>eH 20 [(0,.iL (19,[])),(1,.int .i64 x0),(5,.int .i64 x1),(19,.own true 3 x2)]
def begin (a0:Int) (a1:List Int):Tr X A:=
 .jump (.c2 a0 (0:Int) a1)
def tree:X→Tr X A
 | .c2 x0 x1 x2=>
 .ite (decide (x1<(List.length x2:Int)))
  (.aG ((0:Int)≤x1∧x1<(List.length x2:Int)) (.jump (.c2 (wr (x0+(1:Int))) (wr (x1+(1:Int))) (List.set x2 (Int.toNat x1) x0))))
  (.ret (x0,x2))
def f (a0:Int) (a1:List Int):Option A:=(begin a0 a1).run (lp tree)
def Q:aE C:={PL with aU:=[(2,[0,1,5,19])],aT:=[],aQ:=[]}
theorem e:ay Pg C Q Tryz.f33 1 id st v o tree:=fun J K x=>by cases x<;>kernel_rfl
theorem b (a0:Int) (a1:List Int):ax Pg C Q Tryz.f33 1 id st v o (S a0 a1) (begin a0 a1):=fun J K=>by kernel_rfl
def told (a0:Int) (a1:List Int):aa.Told A:=⟨f a0 a1,fun r=>af Pg C 33 (S a0 a1) 1 (v r) (o r),fun r h=>ae G mixed Q Tryz.func33 rfl (of_decide_eq_true (by kernel_rfl)) (by rfl) id st v o (fun _=>rfl) tree e (begin a0 a1) (b a0 a1) h⟩
end cH
namespace dk
def S (a0:Int) (a1:List Int):List (PV U):=aa.start C 10 [.agg [.iL (10,[])],.int .i64 a0] [.own true 3 a1]
abbrev X:=Empty
def id:X→Nat:=fun _=>0
def st:X→List (PV U):=fun _=>[]
def begin (a0:Int) (a1:List Int):Tr X A:=
 .call (cH.told a0 a1) fun t1=> .ret (t1.1,t1.2)
def tree:X→Tr X A:=fun _=> .fail
def f (a0:Int) (a1:List Int):Option A:=(begin a0 a1).run (lp tree)
def Q:aE C:={PL with aU:=[],aT:=[],aQ:=[]}
theorem e:ay Pg C Q Tryz.f126 1 id st v o tree:=fun J K x=>by cases x
theorem b (a0:Int) (a1:List Int):ax Pg C Q Tryz.f126 1 id st v o (S a0 a1) (begin a0 a1):=fun J K=>by kernel_rfl
def told (a0:Int) (a1:List Int):aa.Told A:=⟨f a0 a1,fun r=>af Pg C 126 (S a0 a1) 1 (v r) (o r),fun r h=>ae G mixed Q Tryz.func126 rfl (of_decide_eq_true (by kernel_rfl)) (by rfl) id st v o (fun _=>rfl) tree e (begin a0 a1) (b a0 a1) h⟩
end dk
namespace fb
def S (a0 a1:Int) (a2:List Int):List (PV U):=aa.start C 10 [.agg [.int .i64 a0,.iL (10,[])],.int .i64 a1] [.own true 3 a2]
abbrev X:=Empty
def id:X→Nat:=fun _=>0
def st:X→List (PV U):=fun _=>[]
def begin (a0 a1:Int) (a2:List Int):Tr X A:=
 .call (dk.told a1 a2) fun t1=> .ret (t1.1,t1.2)
def tree:X→Tr X A:=fun _=> .fail
def f (a0 a1:Int) (a2:List Int):Option A:=(begin a0 a1 a2).run (lp tree)
def Q:aE C:={PL with aU:=[],aT:=[],aQ:=[]}
theorem e:ay Pg C Q Tryz.f72 1 id st v o tree:=fun J K x=>by cases x
theorem b (a0 a1:Int) (a2:List Int):ax Pg C Q Tryz.f72 1 id st v o (S a0 a1 a2) (begin a0 a1 a2):=fun J K=>by kernel_rfl
def told (a0 a1:Int) (a2:List Int):aa.Told A:=⟨f a0 a1 a2,fun r=>af Pg C 72 (S a0 a1 a2) 1 (v r) (o r),fun r h=>ae G mixed Q Tryz.func72 rfl (of_decide_eq_true (by kernel_rfl)) (by rfl) id st v o (fun _=>rfl) tree e (begin a0 a1 a2) (b a0 a1 a2) h⟩
end fb
namespace ef
def S (a0 a1 a2 a3 a4 a5 a6 a7 a8 a9:Int) (a10:List az) (a11 a12 a13:List Int):List (PV U):=aa.start C 22 [.agg [.iL (22,[]),.iL (23,[]),.iL (24,[]),.int .i64 a0,.int .i64 a1,.int .i64 a2,.int .i64 a3,.int .i64 a4,.int .i64 a5,.int .i64 a6,.int .i64 a7,.iL (25,[]),.int .i64 a8],.int .i64 a9] [.own true 164 a10,.own true 3 a11,.own true 3 a12,.own true 3 a13]
abbrev X:=Empty
def id:X→Nat:=fun _=>0
def st:X→List (PV U):=fun _=>[]
def begin (a0 a1 a2 a3 a4 a5 a6 a7 a8 a9:Int) (a10:List az) (a11 a12 a13:List Int):Tr X A:=
 .call (dh.told a9 a10) fun t1=> .call (cH.told t1.1 a11) fun t2=> .call (cH.told t2.1 a12) fun t3=> .call (fb.told a7 t3.1 a13) fun t4=> .ret (t4.1,t1.2,t2.2,t3.2,t4.2)
def tree:X→Tr X A:=fun _=> .fail
def f (a0 a1 a2 a3 a4 a5 a6 a7 a8 a9:Int) (a10:List az) (a11 a12 a13:List Int):Option A:=(begin a0 a1 a2 a3 a4 a5 a6 a7 a8 a9 a10 a11 a12 a13).run (lp tree)
def Q:aE C:={PL with aU:=[],aT:=[],aQ:=[]}
theorem e:ay Pg C Q Tryz.f21 4 id st v o tree:=fun J K x=>by cases x
theorem b (a0 a1 a2 a3 a4 a5 a6 a7 a8 a9:Int) (a10:List az) (a11 a12 a13:List Int):ax Pg C Q Tryz.f21 4 id st v o (S a0 a1 a2 a3 a4 a5 a6 a7 a8 a9 a10 a11 a12 a13) (begin a0 a1 a2 a3 a4 a5 a6 a7 a8 a9 a10 a11 a12 a13):=fun J K=>by kernel_rfl
def told (a0 a1 a2 a3 a4 a5 a6 a7 a8 a9:Int) (a10:List az) (a11 a12 a13:List Int):aa.Told A:=⟨f a0 a1 a2 a3 a4 a5 a6 a7 a8 a9 a10 a11 a12 a13,fun r=>af Pg C 21 (S a0 a1 a2 a3 a4 a5 a6 a7 a8 a9 a10 a11 a12 a13) 4 (v r) (o r),fun r h=>ae G mixed Q Tryz.func21 rfl (of_decide_eq_true (by kernel_rfl)) (by rfl) id st v o (fun _=>rfl) tree e (begin a0 a1 a2 a3 a4 a5 a6 a7 a8 a9 a10 a11 a12 a13) (b a0 a1 a2 a3 a4 a5 a6 a7 a8 a9 a10 a11 a12 a13) h⟩
end ef
namespace cL
def S (a0:List aq) (a1:Int):List (PV U):=aa.start C 70 [.sl 204 a0,.int .i64 a1] []
inductive X where
 | c2 (x0:List aq) (x1 x2:Int)
def id:X→Nat
 | .c2 .. =>2
def st:X→List (PV U)
 | .c2 x0 x1 x2=>eH 70 [(0,.sl 204 x0),(1,.int .i64 x1),(5,.int .i64 x2)]
def begin (a0:List aq) (a1:Int):Tr X A:=
 .jump (.c2 a0 a1 (0:Int))
def tree:X→Tr X A
 | .c2 x0 x1 x2=>
 .ite (decide (x2<(List.length x0:Int)))
  (.aG ((0:Int)≤x2∧x2<(List.length x0:Int)) (.ite (!decide ((ah x0 x2).f0=x1))
   (.ret ((-1:Int)))
   (.aG ((0:Int)≤x2∧x2<(List.length x0:Int)) (.ite (!decide ((ah x0 x2).f1=(wr (x1+(1:Int)))))
    (.ret ((-1:Int)))
    (.aG ((0:Int)≤x2∧x2<(List.length x0:Int)) (.ite (!decide ((ah x0 x2).f2=(wr ((wr (x1+(1:Int)))+(1:Int)))))
     (.ret ((-1:Int)))
     (.aG ((0:Int)≤x2∧x2<(List.length x0:Int)) (.val ((!decide ((ah x0 x2).f3.f0=(wr ((wr ((wr (x1+(1:Int)))+(1:Int)))+(1:Int))))):Bool) fun v1=> .ite v1
      (.ret ((-1:Int)))
      (.aG ((0:Int)≤x2∧x2<(List.length x0:Int)) (.val ((!decide ((ah x0 x2).f3.f1=(wr ((wr ((wr ((wr (x1+(1:Int)))+(1:Int)))+(1:Int)))+(1:Int))))):Bool) fun v2=> .ite v2
       (.ret ((-1:Int)))
       (.val ((wr ((wr ((wr ((wr ((wr (x1+(1:Int)))+(1:Int)))+(1:Int)))+(1:Int)))+(1:Int))):Int) fun v3=> .aG ((0:Int)≤x2∧x2<(List.length x0:Int)) (.ite (!decide ((ah x0 x2).f3.f2=v3))
        (.ret ((-1:Int)))
        (.jump (.c2 x0 (wr (v3+(1:Int))) (wr (x2+(1:Int)))))))))))))))))
  (.ret x1)
def f (a0:List aq) (a1:Int):Option A:=(begin a0 a1).run (lp tree)
def Q:aE C:={PL with aU:=[(2,[0,1,5])],aT:=[],aQ:=[]}
theorem e:ay Pg C Q Tryz.f166 0 id st v o tree:=fun J K x=>by cases x<;>kernel_rfl
theorem b (a0:List aq) (a1:Int):ax Pg C Q Tryz.f166 0 id st v o (S a0 a1) (begin a0 a1):=fun J K=>by kernel_rfl
def told (a0:List aq) (a1:Int):aa.Told A:=⟨f a0 a1,fun r=>af Pg C 166 (S a0 a1) 0 (v r) (o r),fun r h=>ae G mixed Q Tryz.func166 rfl (of_decide_eq_true (by kernel_rfl)) (by rfl) id st v o (fun _=>rfl) tree e (begin a0 a1) (b a0 a1) h⟩
end cL
namespace cQ
def S (a0:List az) (a1:Int):List (PV U):=aa.start C 52 [.sl 164 a0,.int .i64 a1] []
inductive X where
 | c2 (x0:List az) (x1 x2:Int)
def id:X→Nat
 | .c2 .. =>2
def st:X→List (PV U)
 | .c2 x0 x1 x2=>eH 52 [(0,.sl 164 x0),(1,.int .i64 x1),(5,.int .i64 x2)]
def begin (a0:List az) (a1:Int):Tr X A:=
 .jump (.c2 a0 a1 (0:Int))
def tree:X→Tr X A
 | .c2 x0 x1 x2=>
 .ite (decide (x2<(List.length x0:Int)))
  (.aG ((0:Int)≤x2∧x2<(List.length x0:Int)) (.call (cL.told ((aV x0 x2).f0) x1) fun t1=> .ite (decide (t1<(0:Int)))
   (.ret ((-1:Int)))
   (.aG ((0:Int)≤x2∧x2<(List.length x0:Int)) (.ite (!decide ((aV x0 x2).f1.f0=t1))
    (.ret ((-1:Int)))
    (.aG ((0:Int)≤x2∧x2<(List.length x0:Int)) (.ite (!decide ((aV x0 x2).f1.f1=(wr (t1+(1:Int)))))
     (.ret ((-1:Int)))
     (.aG ((0:Int)≤x2∧x2<(List.length x0:Int)) (.ite (!decide ((aV x0 x2).f1.f2=(wr ((wr (t1+(1:Int)))+(1:Int)))))
      (.ret ((-1:Int)))
      (.jump (.c2 x0 (wr ((wr ((wr (t1+(1:Int)))+(1:Int)))+(1:Int))) (wr (x2+(1:Int)))))))))))))
  (.ret x1)
def f (a0:List az) (a1:Int):Option A:=(begin a0 a1).run (lp tree)
def Q:aE C:={PL with aU:=[(2,[0,1,5])],aT:=[],aQ:=[]}
theorem e:ay Pg C Q Tryz.f127 0 id st v o tree:=fun J K x=>by cases x<;>kernel_rfl
theorem b (a0:List az) (a1:Int):ax Pg C Q Tryz.f127 0 id st v o (S a0 a1) (begin a0 a1):=fun J K=>by kernel_rfl
def told (a0:List az) (a1:Int):aa.Told A:=⟨f a0 a1,fun r=>af Pg C 127 (S a0 a1) 0 (v r) (o r),fun r h=>ae G mixed Q Tryz.func127 rfl (of_decide_eq_true (by kernel_rfl)) (by rfl) id st v o (fun _=>rfl) tree e (begin a0 a1) (b a0 a1) h⟩
end cQ
namespace di
def S (a0:List az) (a1:Int):List (PV U):=aa.start C 12 [.agg [.sl 164 a0],.int .i64 a1] []
abbrev X:=Empty
def id:X→Nat:=fun _=>0
def st:X→List (PV U):=fun _=>[]
def begin (a0:List az) (a1:Int):Tr X A:=
 .call (cQ.told a0 a1) fun t1=> .ite (decide (t1<(0:Int)))
  (.ret ((-1:Int)))
  (.ret t1)
def tree:X→Tr X A:=fun _=> .fail
def f (a0:List az) (a1:Int):Option A:=(begin a0 a1).run (lp tree)
def Q:aE C:={PL with aU:=[],aT:=[],aQ:=[]}
theorem e:ay Pg C Q Tryz.f73 0 id st v o tree:=fun J K x=>by cases x
theorem b (a0:List az) (a1:Int):ax Pg C Q Tryz.f73 0 id st v o (S a0 a1) (begin a0 a1):=fun J K=>by kernel_rfl
def told (a0:List az) (a1:Int):aa.Told A:=⟨f a0 a1,fun r=>af Pg C 73 (S a0 a1) 0 (v r) (o r),fun r h=>ae G mixed Q Tryz.func73 rfl (of_decide_eq_true (by kernel_rfl)) (by rfl) id st v o (fun _=>rfl) tree e (begin a0 a1) (b a0 a1) h⟩
end di
namespace cF
def S (a0:List Int) (a1:Int):List (PV U):=aa.start C 21 [.sl 3 a0,.int .i64 a1] []
inductive X where
 | c2 (x0:List Int) (x1 x2:Int)
def id:X→Nat
 | .c2 .. =>2
def st:X→List (PV U)
 | .c2 x0 x1 x2=>eH 21 [(0,.sl 3 x0),(1,.int .i64 x1),(5,.int .i64 x2)]
def begin (a0:List Int) (a1:Int):Tr X A:=
 .jump (.c2 a0 a1 (0:Int))
def tree:X→Tr X A
 | .c2 x0 x1 x2=>
 .ite (decide (x2<(List.length x0:Int)))
  (.aG ((0:Int)≤x2∧x2<(List.length x0:Int)) (.ite (!decide ((eG x0 x2)=x1))
   (.ret ((-1:Int)))
   (.jump (.c2 x0 (wr (x1+(1:Int))) (wr (x2+(1:Int)))))))
  (.ret x1)
def f (a0:List Int) (a1:Int):Option A:=(begin a0 a1).run (lp tree)
def Q:aE C:={PL with aU:=[(2,[0,1,5])],aT:=[],aQ:=[]}
theorem e:ay Pg C Q Tryz.f34 0 id st v o tree:=fun J K x=>by cases x<;>kernel_rfl
theorem b (a0:List Int) (a1:Int):ax Pg C Q Tryz.f34 0 id st v o (S a0 a1) (begin a0 a1):=fun J K=>by kernel_rfl
def told (a0:List Int) (a1:Int):aa.Told A:=⟨f a0 a1,fun r=>af Pg C 34 (S a0 a1) 0 (v r) (o r),fun r h=>ae G mixed Q Tryz.func34 rfl (of_decide_eq_true (by kernel_rfl)) (by rfl) id st v o (fun _=>rfl) tree e (begin a0 a1) (b a0 a1) h⟩
end cF
namespace dg
def S (a0:List Int) (a1:Int):List (PV U):=aa.start C 12 [.agg [.sl 3 a0],.int .i64 a1] []
abbrev X:=Empty
def id:X→Nat:=fun _=>0
def st:X→List (PV U):=fun _=>[]
def begin (a0:List Int) (a1:Int):Tr X A:=
 .call (cF.told a0 a1) fun t1=> .ite (decide (t1<(0:Int)))
  (.ret ((-1:Int)))
  (.ret t1)
def tree:X→Tr X A:=fun _=> .fail
def f (a0:List Int) (a1:Int):Option A:=(begin a0 a1).run (lp tree)
def Q:aE C:={PL with aU:=[],aT:=[],aQ:=[]}
theorem e:ay Pg C Q Tryz.f128 0 id st v o tree:=fun J K x=>by cases x
theorem b (a0:List Int) (a1:Int):ax Pg C Q Tryz.f128 0 id st v o (S a0 a1) (begin a0 a1):=fun J K=>by kernel_rfl
def told (a0:List Int) (a1:Int):aa.Told A:=⟨f a0 a1,fun r=>af Pg C 128 (S a0 a1) 0 (v r) (o r),fun r h=>ae G mixed Q Tryz.func128 rfl (of_decide_eq_true (by kernel_rfl)) (by rfl) id st v o (fun _=>rfl) tree e (begin a0 a1) (b a0 a1) h⟩
end dg
namespace fe
def S (a0:Int) (a1:List Int) (a2:Int):List (PV U):=aa.start C 12 [.agg [.int .i64 a0,.sl 3 a1],.int .i64 a2] []
abbrev X:=Empty
def id:X→Nat:=fun _=>0
def st:X→List (PV U):=fun _=>[]
def begin (a0:Int) (a1:List Int) (a2:Int):Tr X A:=
 .call (dg.told a1 a2) fun t1=> .ite (decide (t1<(0:Int)))
  (.ret ((-1:Int)))
  (.ret t1)
def tree:X→Tr X A:=fun _=> .fail
def f (a0:Int) (a1:List Int) (a2:Int):Option A:=(begin a0 a1 a2).run (lp tree)
def Q:aE C:={PL with aU:=[],aT:=[],aQ:=[]}
theorem e:ay Pg C Q Tryz.f74 0 id st v o tree:=fun J K x=>by cases x
theorem b (a0:Int) (a1:List Int) (a2:Int):ax Pg C Q Tryz.f74 0 id st v o (S a0 a1 a2) (begin a0 a1 a2):=fun J K=>by kernel_rfl
def told (a0:Int) (a1:List Int) (a2:Int):aa.Told A:=⟨f a0 a1 a2,fun r=>af Pg C 74 (S a0 a1 a2) 0 (v r) (o r),fun r h=>ae G mixed Q Tryz.func74 rfl (of_decide_eq_true (by kernel_rfl)) (by rfl) id st v o (fun _=>rfl) tree e (begin a0 a1 a2) (b a0 a1 a2) h⟩
end fe
namespace ek
def S (a0:List az) (a1 a2:List Int) (a3 a4 a5 a6 a7 a8 a9 a10:Int) (a11:List Int) (a12 a13:Int):List (PV U):=aa.start C 30 [.agg [.sl 164 a0,.sl 3 a1,.sl 3 a2,.int .i64 a3,.int .i64 a4,.int .i64 a5,.int .i64 a6,.int .i64 a7,.int .i64 a8,.int .i64 a9,.int .i64 a10,.sl 3 a11,.int .i64 a12],.int .i64 a13] []
abbrev X:=Empty
def id:X→Nat:=fun _=>0
def st:X→List (PV U):=fun _=>[]
def begin (a0:List az) (a1 a2:List Int) (a3 a4 a5 a6 a7 a8 a9 a10:Int) (a11:List Int) (a12 a13:Int):Tr X A:=
 .call (di.told a0 a13) fun t1=> .ite (decide (t1<(0:Int)))
  (.ret ((-1:Int)))
  (.call (cF.told a1 t1) fun t2=> .ite (decide (t2<(0:Int)))
   (.ret ((-1:Int)))
   (.call (cF.told a2 t2) fun t3=> .ite (decide (t3<(0:Int)))
    (.ret ((-1:Int)))
    (.call (fe.told a10 a11 t3) fun t4=> .ite (decide (t4<(0:Int)))
     (.ret ((-1:Int)))
     (.ret t4))))
def tree:X→Tr X A:=fun _=> .fail
def f (a0:List az) (a1 a2:List Int) (a3 a4 a5 a6 a7 a8 a9 a10:Int) (a11:List Int) (a12 a13:Int):Option A:=(begin a0 a1 a2 a3 a4 a5 a6 a7 a8 a9 a10 a11 a12 a13).run (lp tree)
def Q:aE C:={PL with aU:=[],aT:=[],aQ:=[]}
theorem e:ay Pg C Q Tryz.f22 0 id st v o tree:=fun J K x=>by cases x
theorem b (a0:List az) (a1 a2:List Int) (a3 a4 a5 a6 a7 a8 a9 a10:Int) (a11:List Int) (a12 a13:Int):ax Pg C Q Tryz.f22 0 id st v o (S a0 a1 a2 a3 a4 a5 a6 a7 a8 a9 a10 a11 a12 a13) (begin a0 a1 a2 a3 a4 a5 a6 a7 a8 a9 a10 a11 a12 a13):=fun J K=>by kernel_rfl
def told (a0:List az) (a1 a2:List Int) (a3 a4 a5 a6 a7 a8 a9 a10:Int) (a11:List Int) (a12 a13:Int):aa.Told A:=⟨f a0 a1 a2 a3 a4 a5 a6 a7 a8 a9 a10 a11 a12 a13,fun r=>af Pg C 22 (S a0 a1 a2 a3 a4 a5 a6 a7 a8 a9 a10 a11 a12 a13) 0 (v r) (o r),fun r h=>ae G mixed Q Tryz.func22 rfl (of_decide_eq_true (by kernel_rfl)) (by rfl) id st v o (fun _=>rfl) tree e (begin a0 a1 a2 a3 a4 a5 a6 a7 a8 a9 a10 a11 a12 a13) (b a0 a1 a2 a3 a4 a5 a6 a7 a8 a9 a10 a11 a12 a13) h⟩
end ek
end
end Go.Proofs.YtmapddgocpkgeaaGreat.Ev
