/- Functions as trees, with their contracts. No conditions. -/
import Derived.Test.YtobfemcobakeoaaGreatREvF0
namespace Go.Proofs.YtobfemcobakeoaaGreat.Ev
open Go.Proofs.YtobfemcobakeoaaGreatEv Go.RowKit
set_option linter.unusedVariables false
set_option maxRecDepth 100000
noncomputable section
/-! #### loop.example/g00983/impl.traceOf$1 (233) -/
namespace impl_traceOf_1
def S (a0 a1 a2 a3 a4 a5 : Int) (a6 a7 : List Int) (a8 : Int) (a9 : List S227) (a10 : List Int) (a11 a12 a13 : Int) (a14 : List Int) (a15 a16 a17 a18 a19 a20 a21 a22 : Bool) (a23 : List Int) : List (PV U) := YtobfemcobakeoaaGreatEv.start C 81 [.agg [.int .i64 a0, .int .i64 a1, .int .i64 a2, .int .i64 a3, .int .i64 a4, .int .i64 a5], .ptr 81 0, .ptr 82 0, .ptr 83 0, .ptr 84 0] [.box [.ptr 85 0], .box [.sl 3 a6], .box [.sl 3 a7], .box [.int .i64 a8], .box [.own true 228 a9, .own true 3 a10, .int .i64 a11, .int .i64 a12, .int .i64 a13, .own true 3 a14, .bool a15, .bool a16, .bool a17, .bool a18, .bool a19, .bool a20, .bool a21, .bool a22, .own true 3 a23]]
inductive X where
 | c13 (x0 x1 : List Int) (x2 : Int) (x3 : List S227) (x4 : List Int) (x5 x6 x7 : Int) (x8 : List Int) (x9 x10 x11 x12 x13 x14 x15 x16 : Bool) (x17 : List Int)
 | c8 (x0 x1 x2 x3 x4 x5 x6 : Int) (x7 x8 : List Int) (x9 : Int) (x10 : List S227) (x11 : List Int) (x12 x13 x14 : Int) (x15 : List Int) (x16 x17 x18 x19 x20 x21 x22 x23 : Bool) (x24 : List Int)
def id : X → Nat
 | .c13 .. => 13
 | .c8 .. => 8
def st : X → List (PV U)
 | .c13 x0 x1 x2 x3 x4 x5 x6 x7 x8 x9 x10 x11 x12 x13 x14 x15 x16 x17 => stOf 86 [(81, .box [.ptr 85 0]), (82, .box [.sl 3 x0]), (83, .box [.sl 3 x1]), (84, .box [.int .i64 x2]), (85, .box [.own true 228 x3, .own true 3 x4, .int .i64 x5, .int .i64 x6, .int .i64 x7, .own true 3 x8, .bool x9, .bool x10, .bool x11, .bool x12, .bool x13, .bool x14, .bool x15, .bool x16, .own true 3 x17])]
 | .c8 x0 x1 x2 x3 x4 x5 x6 x7 x8 x9 x10 x11 x12 x13 x14 x15 x16 x17 x18 x19 x20 x21 x22 x23 x24 => stOf 86 [(1, .ptr 81 0), (2, .ptr 82 0), (5, .box [.int .i64 x0, .int .i64 x1, .int .i64 x2, .int .i64 x3, .int .i64 x4, .int .i64 x5]), (7, .int .i64 x6), (81, .box [.ptr 85 0]), (82, .box [.sl 3 x7]), (83, .box [.sl 3 x8]), (84, .box [.int .i64 x9]), (85, .box [.own true 228 x10, .own true 3 x11, .int .i64 x12, .int .i64 x13, .int .i64 x14, .own true 3 x15, .bool x16, .bool x17, .bool x18, .bool x19, .bool x20, .bool x21, .bool x22, .bool x23, .own true 3 x24])]
def begin (a0 a1 a2 a3 a4 a5 : Int) (a6 a7 : List Int) (a8 : Int) (a9 : List S227) (a10 : List Int) (a11 a12 a13 : Int) (a14 : List Int) (a15 a16 a17 a18 a19 a20 a21 a22 : Bool) (a23 : List Int) : Tr X A :=
 .last (.call (impl_StmtCost.told a0 a1 a2 a3 a4 a5) fun t1 => .last (.call (impl_tracer_work.told t1 a9 a10 a11 a12 a13 a14 a15 a16 a17 a18 a19 a20 a21 a22 a23) fun t2 => .ite (decide (a0 = (1 : Int)))
  (.last (.call (impl_EvalExpr.told t2.2.2.2.2.2.2.2.2.2.2.2.2.2.2 a3 a4 a5) fun t3 => .last (.call (impl_tracer_assign.told a6 a1 t3 t2.1 t2.2.1 t2.2.2.1 t2.2.2.2.1 t2.2.2.2.2.1 t2.2.2.2.2.2.1 t2.2.2.2.2.2.2.1 t2.2.2.2.2.2.2.2.1 t2.2.2.2.2.2.2.2.2.1 t2.2.2.2.2.2.2.2.2.2.1 t2.2.2.2.2.2.2.2.2.2.2.1 t2.2.2.2.2.2.2.2.2.2.2.2.1 t2.2.2.2.2.2.2.2.2.2.2.2.2.1 t2.2.2.2.2.2.2.2.2.2.2.2.2.2.1 t2.2.2.2.2.2.2.2.2.2.2.2.2.2.2) fun t4 => .jump (.c13 a6 a7 a8 t4.1 t4.2.1 t4.2.2.1 t4.2.2.2.1 t4.2.2.2.2.1 t4.2.2.2.2.2.1 t4.2.2.2.2.2.2.1 t4.2.2.2.2.2.2.2.1 t4.2.2.2.2.2.2.2.2.1 t4.2.2.2.2.2.2.2.2.2.1 t4.2.2.2.2.2.2.2.2.2.2.1 t4.2.2.2.2.2.2.2.2.2.2.2.1 t4.2.2.2.2.2.2.2.2.2.2.2.2.1 t4.2.2.2.2.2.2.2.2.2.2.2.2.2.1 t4.2.2.2.2.2.2.2.2.2.2.2.2.2.2))))
  (.ite (decide (a0 = (2 : Int)))
   (.last (.call (impl_ReadSensor.told a7 a2 (wr (a8 + (List.length t2.2.1 : Int)))) fun t3 => let u3_0 : Tr X A := (.last (.need (((List.length t2.2.1 : Int) + (List.length ([t3]) : Int)) * (8 : Nat) ≤ room) (.last (.jump (.c8 a0 a1 a2 a3 a4 a5 t3 a6 a7 a8 t2.1 (t2.2.1 ++ [t3]) t2.2.2.1 t2.2.2.2.1 t2.2.2.2.2.1 t2.2.2.2.2.2.1 t2.2.2.2.2.2.2.1 t2.2.2.2.2.2.2.2.1 t2.2.2.2.2.2.2.2.2.1 t2.2.2.2.2.2.2.2.2.2.1 t2.2.2.2.2.2.2.2.2.2.2.1 t2.2.2.2.2.2.2.2.2.2.2.2.1 t2.2.2.2.2.2.2.2.2.2.2.2.2.1 t2.2.2.2.2.2.2.2.2.2.2.2.2.2.1 t2.2.2.2.2.2.2.2.2.2.2.2.2.2.2))))); let u3_1 : Tr X A := (.last (u3_0)); let u3_2 : Tr X A := (.last (.both (u3_0) (u3_0))); let u3_3 : Tr X A := (.both (u3_1) (u3_1)); .both (.both (u3_3)
     (u3_1))
    (.both (.both (u3_3)
      (.both (.both (u3_1)
        (u3_2))
       (u3_2)))
     (u3_2))))
   (.ite (decide (a0 = (3 : Int)))
    (.last (.call (impl_EvalExpr.told t2.2.2.2.2.2.2.2.2.2.2.2.2.2.2 a3 a4 a5) fun t3 => .last (.call (impl_tracer_send.told t3 t2.1 t2.2.1 t2.2.2.1 t2.2.2.2.1 t2.2.2.2.2.1 t2.2.2.2.2.2.1 t2.2.2.2.2.2.2.1 t2.2.2.2.2.2.2.2.1 t2.2.2.2.2.2.2.2.2.1 t2.2.2.2.2.2.2.2.2.2.1 t2.2.2.2.2.2.2.2.2.2.2.1 t2.2.2.2.2.2.2.2.2.2.2.2.1 t2.2.2.2.2.2.2.2.2.2.2.2.2.1 t2.2.2.2.2.2.2.2.2.2.2.2.2.2.1 t2.2.2.2.2.2.2.2.2.2.2.2.2.2.2) fun t4 => .jump (.c13 a6 a7 a8 t4.1 t4.2.1 t4.2.2.1 t4.2.2.2.1 t4.2.2.2.2.1 t4.2.2.2.2.2.1 t4.2.2.2.2.2.2.1 t4.2.2.2.2.2.2.2.1 t4.2.2.2.2.2.2.2.2.1 t4.2.2.2.2.2.2.2.2.2.1 t4.2.2.2.2.2.2.2.2.2.2.1 t4.2.2.2.2.2.2.2.2.2.2.2.1 t4.2.2.2.2.2.2.2.2.2.2.2.2.1 t4.2.2.2.2.2.2.2.2.2.2.2.2.2.1 t4.2.2.2.2.2.2.2.2.2.2.2.2.2.2))))
    (.ite (decide (a0 = (4 : Int)))
     (.last (.call (impl_EvalExpr.told t2.2.2.2.2.2.2.2.2.2.2.2.2.2.2 a3 a4 a5) fun t3 => .ret ((!decide (t3 = (0 : Int))), a6, a7, a8, t2.1, t2.2.1, t2.2.2.1, t2.2.2.2.1, t2.2.2.2.2.1, t2.2.2.2.2.2.1, t2.2.2.2.2.2.2.1, t2.2.2.2.2.2.2.2.1, t2.2.2.2.2.2.2.2.2.1, t2.2.2.2.2.2.2.2.2.2.1, t2.2.2.2.2.2.2.2.2.2.2.1, t2.2.2.2.2.2.2.2.2.2.2.2.1, t2.2.2.2.2.2.2.2.2.2.2.2.2.1, t2.2.2.2.2.2.2.2.2.2.2.2.2.2.1, t2.2.2.2.2.2.2.2.2.2.2.2.2.2.2)))
     (.jump (.c13 a6 a7 a8 t2.1 t2.2.1 t2.2.2.1 t2.2.2.2.1 t2.2.2.2.2.1 t2.2.2.2.2.2.1 t2.2.2.2.2.2.2.1 t2.2.2.2.2.2.2.2.1 t2.2.2.2.2.2.2.2.2.1 t2.2.2.2.2.2.2.2.2.2.1 t2.2.2.2.2.2.2.2.2.2.2.1 t2.2.2.2.2.2.2.2.2.2.2.2.1 t2.2.2.2.2.2.2.2.2.2.2.2.2.1 t2.2.2.2.2.2.2.2.2.2.2.2.2.2.1 t2.2.2.2.2.2.2.2.2.2.2.2.2.2.2)))))))
def tree : X → Tr X A
 | .c13 x0 x1 x2 x3 x4 x5 x6 x7 x8 x9 x10 x11 x12 x13 x14 x15 x16 x17 =>
 .ret (true, x0, x1, x2, x3, x4, x5, x6, x7, x8, x9, x10, x11, x12, x13, x14, x15, x16, x17)
 | .c8 x0 x1 x2 x3 x4 x5 x6 x7 x8 x9 x10 x11 x12 x13 x14 x15 x16 x17 x18 x19 x20 x21 x22 x23 x24 =>
 .call (impl_tracer_assign.told x7 x1 x6 x10 x11 x12 x13 x14 x15 x16 x17 x18 x19 x20 x21 x22 x23 x24) fun t1 => .jump (.c13 x7 x8 x9 t1.1 t1.2.1 t1.2.2.1 t1.2.2.2.1 t1.2.2.2.2.1 t1.2.2.2.2.2.1 t1.2.2.2.2.2.2.1 t1.2.2.2.2.2.2.2.1 t1.2.2.2.2.2.2.2.2.1 t1.2.2.2.2.2.2.2.2.2.1 t1.2.2.2.2.2.2.2.2.2.2.1 t1.2.2.2.2.2.2.2.2.2.2.2.1 t1.2.2.2.2.2.2.2.2.2.2.2.2.1 t1.2.2.2.2.2.2.2.2.2.2.2.2.2.1 t1.2.2.2.2.2.2.2.2.2.2.2.2.2.2)
def f (a0 a1 a2 a3 a4 a5 : Int) (a6 a7 : List Int) (a8 : Int) (a9 : List S227) (a10 : List Int) (a11 a12 a13 : Int) (a14 : List Int) (a15 a16 a17 a18 a19 a20 a21 a22 : Bool) (a23 : List Int) : Option A := (begin a0 a1 a2 a3 a4 a5 a6 a7 a8 a9 a10 a11 a12 a13 a14 a15 a16 a17 a18 a19 a20 a21 a22 a23).run (lp tree)
def Q : Plan C := { PL with cuts := [(8, [1, 2, 5, 7, 81, 82, 83, 84, 85]), (13, [81, 82, 83, 84, 85])], ords := [(1, [3], (.take 0 [1, 2] (.take 1 [0] (.alt 2 (.alt 3 .done .nil) .nil)))), (4, [11], (.take 2 [] (.take 8 [] (.take 0 [1, 2, 3, 4, 5, 6, 7, 8, 9, 10] (.take 1 [0, 2, 3, 4, 5, 6, 7, 8, 9, 10] (.take 3 [0, 1, 2, 4, 5, 6, 7, 8, 9, 10] (.take 4 [0, 1, 2, 3, 8, 9] (.take 5 [] (.take 6 [] (.take 7 [0, 1, 2, 3, 4, 5, 6, 8, 9] (.take 9 [0, 1, 2, 3, 4, 5, 6, 7, 8] (.alt 10 (.alt 11 .done .nil) .nil)))))))))))), (6, [], (.take 1 [] (.take 0 [1, 2, 3, 4, 5, 6, 7, 8, 9, 10] (.take 2 [0, 1, 3, 4, 5, 6, 7, 8, 9, 10] (.take 3 [0, 1, 2, 4, 5, 6, 7, 8, 9] (.take 4 [0, 1, 2, 3] (.take 5 [] (.take 6 [] (.take 7 [] (.take 8 [0, 1, 2, 3, 4, 5, 6, 7] (.take 9 [] (.take 10 [] (.alt 11 (.take 12 [] .done) .nil))))))))))))), (7, [7, 8, 12], (.take 6 [] (.alt 0 (.alt 1 (.take 2 [] (.take 3 [] (.take 4 [] (.alt 5 (.alt 7 (.alt 8 (.take 9 [] (.take 10 [] (.take 11 [] (.alt 12 .done .nil)))) .nil) .nil) (.alt 7 (.take 5 [0, 1, 2, 3, 4, 6, 7] (.alt 8 (.take 9 [] (.take 10 [] (.take 11 [] (.alt 12 .done .nil)))) .nil)) .nil))))) (.alt 7 (.take 1 [0, 6, 7] (.take 2 [] (.take 3 [] (.take 4 [] (.take 5 [0, 1, 2, 3, 4, 6, 7] (.alt 8 (.take 9 [] (.take 10 [] (.take 11 [] (.alt 12 .done .nil)))) .nil)))))) .nil)) (.alt 1 (.take 2 [] (.take 3 [] (.take 4 [] (.alt 0 (.alt 5 (.alt 7 (.alt 8 (.take 9 [] (.take 10 [] (.take 11 [] (.alt 12 .done .nil)))) .nil) .nil) (.alt 7 (.take 5 [0, 1, 2, 3, 4, 6, 7] (.alt 8 (.take 9 [] (.take 10 [] (.take 11 [] (.alt 12 .done .nil)))) .nil)) .nil)) (.alt 5 (.alt 0 (.alt 7 (.alt 8 (.take 9 [] (.take 10 [] (.take 11 [] (.alt 12 .done .nil)))) .nil) .nil) (.alt 7 (.alt 0 (.alt 8 (.take 9 [] (.take 10 [] (.take 11 [] (.alt 12 .done .nil)))) .nil) (.alt 8 (.take 0 [1, 2, 3, 4, 5, 6, 7, 8] (.take 9 [] (.take 10 [] (.take 11 [] (.alt 12 .done .nil))))) .nil)) .nil)) (.alt 7 (.take 5 [0, 1, 2, 3, 4, 6, 7] (.alt 0 (.alt 8 (.take 9 [] (.take 10 [] (.take 11 [] (.alt 12 .done .nil)))) .nil) (.alt 8 (.take 0 [1, 2, 3, 4, 5, 6, 7, 8] (.take 9 [] (.take 10 [] (.take 11 [] (.alt 12 .done .nil))))) .nil))) .nil)))))) (.alt 7 (.take 1 [0, 6, 7] (.take 2 [] (.take 3 [] (.take 4 [] (.take 5 [0, 1, 2, 3, 4, 6, 7] (.alt 0 (.alt 8 (.take 9 [] (.take 10 [] (.take 11 [] (.alt 12 .done .nil)))) .nil) (.alt 8 (.take 0 [1, 2, 3, 4, 5, 6, 7, 8] (.take 9 [] (.take 10 [] (.take 11 [] (.alt 12 .done .nil))))) .nil))))))) .nil))))), (10, [8], (.take 5 [] (.take 0 [1, 2, 3, 4, 5, 6, 7] (.take 1 [0, 5, 6] (.take 2 [] (.take 3 [] (.take 4 [0, 1, 2, 3, 5, 6] (.take 6 [0, 1, 2, 3, 4, 5] (.alt 7 (.alt 8 .done .nil) .nil))))))))), (12, [], (.take 4 [] (.take 0 [4, 5] (.take 1 [] (.take 2 [] (.take 3 [0, 1, 2, 4, 5] (.take 5 [0, 1, 2, 3, 4] (.alt 6 (.take 7 [] (.take 8 [] .done)) .nil))))))))], weak := [] }
theorem e : CutEq Pg C Q Tryz.f233 5 id st v o tree := fun J K x => by cases x <;> kernel_rfl
theorem b (a0 a1 a2 a3 a4 a5 : Int) (a6 a7 : List Int) (a8 : Int) (a9 : List S227) (a10 : List Int) (a11 a12 a13 : Int) (a14 : List Int) (a15 a16 a17 a18 a19 a20 a21 a22 : Bool) (a23 : List Int) : BegEq Pg C Q Tryz.f233 5 id st v o (S a0 a1 a2 a3 a4 a5 a6 a7 a8 a9 a10 a11 a12 a13 a14 a15 a16 a17 a18 a19 a20 a21 a22 a23) (begin a0 a1 a2 a3 a4 a5 a6 a7 a8 a9 a10 a11 a12 a13 a14 a15 a16 a17 a18 a19 a20 a21 a22 a23) := fun J K => by kernel_rfl
def told (a0 a1 a2 a3 a4 a5 : Int) (a6 a7 : List Int) (a8 : Int) (a9 : List S227) (a10 : List Int) (a11 a12 a13 : Int) (a14 : List Int) (a15 a16 a17 a18 a19 a20 a21 a22 : Bool) (a23 : List Int) : YtobfemcobakeoaaGreatEv.Told A := ⟨f a0 a1 a2 a3 a4 a5 a6 a7 a8 a9 a10 a11 a12 a13 a14 a15 a16 a17 a18 a19 a20 a21 a22 a23, fun r => SoundCall Pg C 233 (S a0 a1 a2 a3 a4 a5 a6 a7 a8 a9 a10 a11 a12 a13 a14 a15 a16 a17 a18 a19 a20 a21 a22 a23) 5 (v r) (o r), fun r h => soundCall_of_tree G mixed Q Tryz.func233 rfl (of_decide_eq_true (by kernel_rfl)) (by rfl) id st v o (fun _ => rfl) tree e (begin a0 a1 a2 a3 a4 a5 a6 a7 a8 a9 a10 a11 a12 a13 a14 a15 a16 a17 a18 a19 a20 a21 a22 a23) (b a0 a1 a2 a3 a4 a5 a6 a7 a8 a9 a10 a11 a12 a13 a14 a15 a16 a17 a18 a19 a20 a21 a22 a23) h⟩
end impl_traceOf_1
/-! #### loop.example/g00983/impl.walk (232) -/
namespace impl_walk
def S (a0 : List S210) (a1 a2 : List Int) (a3 : Int) (a4 : List S227) (a5 : List Int) (a6 a7 a8 : Int) (a9 : List Int) (a10 a11 a12 a13 a14 a15 a16 a17 : Bool) (a18 : List Int) : List (PV U) := YtobfemcobakeoaaGreatEv.start C 51 [.sl 211 a0, .fn 233 [.ptr 51 0, .ptr 52 0, .ptr 53 0, .ptr 54 0]] [.box [.ptr 55 0], .box [.sl 3 a1], .box [.sl 3 a2], .box [.int .i64 a3], .box [.own true 228 a4, .own true 3 a5, .int .i64 a6, .int .i64 a7, .int .i64 a8, .own true 3 a9, .bool a10, .bool a11, .bool a12, .bool a13, .bool a14, .bool a15, .bool a16, .bool a17, .own true 3 a18]]
abbrev I := (List S210) × (List Int) × (List Int) × Int × (List S227) × (List Int) × Int × Int × Int × (List Int) × Bool × Bool × Bool × Bool × Bool × Bool × Bool × Bool × (List Int)
abbrev K : I → A → Prop := fun i_ r => SoundCall Pg C 232 (S i_.1 i_.2.1 i_.2.2.1 i_.2.2.2.1 i_.2.2.2.2.1 i_.2.2.2.2.2.1 i_.2.2.2.2.2.2.1 i_.2.2.2.2.2.2.2.1 i_.2.2.2.2.2.2.2.2.1 i_.2.2.2.2.2.2.2.2.2.1 i_.2.2.2.2.2.2.2.2.2.2.1 i_.2.2.2.2.2.2.2.2.2.2.2.1 i_.2.2.2.2.2.2.2.2.2.2.2.2.1 i_.2.2.2.2.2.2.2.2.2.2.2.2.2.1 i_.2.2.2.2.2.2.2.2.2.2.2.2.2.2.1 i_.2.2.2.2.2.2.2.2.2.2.2.2.2.2.2.1 i_.2.2.2.2.2.2.2.2.2.2.2.2.2.2.2.2.1 i_.2.2.2.2.2.2.2.2.2.2.2.2.2.2.2.2.2.1 i_.2.2.2.2.2.2.2.2.2.2.2.2.2.2.2.2.2.2) 5 (v r) (o r)
inductive X where
 | c1 (x0 : List S210) (x1 : Int) (x2 x3 : List Int) (x4 : Int) (x5 : List S227) (x6 : List Int) (x7 x8 x9 : Int) (x10 : List Int) (x11 x12 x13 x14 x15 x16 x17 x18 : Bool) (x19 : List Int)
 | c12 (x0 : List S210) (x1 x2 x3 x4 : Int) (x5 x6 : List Int) (x7 : Int) (x8 : List S227) (x9 : List Int) (x10 x11 x12 : Int) (x13 : List Int) (x14 x15 x16 x17 x18 x19 x20 x21 : Bool) (x22 : List Int)
def id : X → Nat
 | .c1 .. => 1
 | .c12 .. => 12
def st : X → List (PV U)
 | .c1 x0 x1 x2 x3 x4 x5 x6 x7 x8 x9 x10 x11 x12 x13 x14 x15 x16 x17 x18 x19 => stOf 56 [(0, .sl 211 x0), (1, .fn 233 [.ptr 51 0, .ptr 52 0, .ptr 53 0, .ptr 54 0]), (4, .int .i64 x1), (51, .box [.ptr 55 0]), (52, .box [.sl 3 x2]), (53, .box [.sl 3 x3]), (54, .box [.int .i64 x4]), (55, .box [.own true 228 x5, .own true 3 x6, .int .i64 x7, .int .i64 x8, .int .i64 x9, .own true 3 x10, .bool x11, .bool x12, .bool x13, .bool x14, .bool x15, .bool x16, .bool x17, .bool x18, .own true 3 x19])]
 | .c12 x0 x1 x2 x3 x4 x5 x6 x7 x8 x9 x10 x11 x12 x13 x14 x15 x16 x17 x18 x19 x20 x21 x22 => stOf 56 [(0, .sl 211 x0), (1, .fn 233 [.ptr 51 0, .ptr 52 0, .ptr 53 0, .ptr 54 0]), (4, .int .i64 x1), (7, .int .i64 x2), (39, .int .i64 x3), (40, .int .i64 x4), (51, .box [.ptr 55 0]), (52, .box [.sl 3 x5]), (53, .box [.sl 3 x6]), (54, .box [.int .i64 x7]), (55, .box [.own true 228 x8, .own true 3 x9, .int .i64 x10, .int .i64 x11, .int .i64 x12, .own true 3 x13, .bool x14, .bool x15, .bool x16, .bool x17, .bool x18, .bool x19, .bool x20, .bool x21, .own true 3 x22])]
def begin (self_ : Self I A K) (a0 : List S210) (a1 a2 : List Int) (a3 : Int) (a4 : List S227) (a5 : List Int) (a6 a7 a8 : Int) (a9 : List Int) (a10 a11 a12 a13 a14 a15 a16 a17 : Bool) (a18 : List Int) : Tr X A :=
 .jump (.c1 a0 (0 : Int) a1 a2 a3 a4 a5 a6 a7 a8 a9 a10 a11 a12 a13 a14 a15 a16 a17 a18)
def tree (self_ : Self I A K) : X → Tr X A
 | .c1 x0 x1 x2 x3 x4 x5 x6 x7 x8 x9 x10 x11 x12 x13 x14 x15 x16 x17 x18 x19 =>
 .ite (decide (x1 < (List.length x0 : Int)))
  (.need ((0 : Int) ≤ x1 ∧ x1 < (List.length x0 : Int)) (.ite (decide ((rdS210 x0 x1).f0 = (6 : Int)))
   (.jump (.c1 x0 (wr (x1 + (1 : Int))) x2 x3 x4 x5 x6 x7 x8 x9 x10 x11 x12 x13 x14 x15 x16 x17 x18 x19))
   (.call (impl_traceOf_1.told ((rdS210 x0 x1).f0) ((rdS210 x0 x1).f1) ((rdS210 x0 x1).f2) ((rdS210 x0 x1).f3.f0) ((rdS210 x0 x1).f3.f1) ((rdS210 x0 x1).f3.f2) x2 x3 x4 x5 x6 x7 x8 x9 x10 x11 x12 x13 x14 x15 x16 x17 x18 x19) fun t1 => .call (impl_isOpening.told ((rdS210 x0 x1).f0)) fun t2 => .ite (!t2)
    (.jump (.c1 x0 (wr (x1 + (1 : Int))) t1.2.1 t1.2.2.1 t1.2.2.2.1 t1.2.2.2.2.1 t1.2.2.2.2.2.1 t1.2.2.2.2.2.2.1 t1.2.2.2.2.2.2.2.1 t1.2.2.2.2.2.2.2.2.1 t1.2.2.2.2.2.2.2.2.2.1 t1.2.2.2.2.2.2.2.2.2.2.1 t1.2.2.2.2.2.2.2.2.2.2.2.1 t1.2.2.2.2.2.2.2.2.2.2.2.2.1 t1.2.2.2.2.2.2.2.2.2.2.2.2.2.1 t1.2.2.2.2.2.2.2.2.2.2.2.2.2.2.1 t1.2.2.2.2.2.2.2.2.2.2.2.2.2.2.2.1 t1.2.2.2.2.2.2.2.2.2.2.2.2.2.2.2.2.1 t1.2.2.2.2.2.2.2.2.2.2.2.2.2.2.2.2.2.1 t1.2.2.2.2.2.2.2.2.2.2.2.2.2.2.2.2.2.2))
    (.call (impl_endOf.told x0 x1) fun t3 => .ite (decide ((rdS210 x0 x1).f0 = (4 : Int)))
     (.call (impl_bit.told t1.1) fun t4 => .jump (.c12 x0 x1 t3 t4 (0 : Int) t1.2.1 t1.2.2.1 t1.2.2.2.1 t1.2.2.2.2.1 t1.2.2.2.2.2.1 t1.2.2.2.2.2.2.1 t1.2.2.2.2.2.2.2.1 t1.2.2.2.2.2.2.2.2.1 t1.2.2.2.2.2.2.2.2.2.1 t1.2.2.2.2.2.2.2.2.2.2.1 t1.2.2.2.2.2.2.2.2.2.2.2.1 t1.2.2.2.2.2.2.2.2.2.2.2.2.1 t1.2.2.2.2.2.2.2.2.2.2.2.2.2.1 t1.2.2.2.2.2.2.2.2.2.2.2.2.2.2.1 t1.2.2.2.2.2.2.2.2.2.2.2.2.2.2.2.1 t1.2.2.2.2.2.2.2.2.2.2.2.2.2.2.2.2.1 t1.2.2.2.2.2.2.2.2.2.2.2.2.2.2.2.2.2.1 t1.2.2.2.2.2.2.2.2.2.2.2.2.2.2.2.2.2.2))
     (.jump (.c12 x0 x1 t3 ((rdS210 x0 x1).f2) (0 : Int) t1.2.1 t1.2.2.1 t1.2.2.2.1 t1.2.2.2.2.1 t1.2.2.2.2.2.1 t1.2.2.2.2.2.2.1 t1.2.2.2.2.2.2.2.1 t1.2.2.2.2.2.2.2.2.1 t1.2.2.2.2.2.2.2.2.2.1 t1.2.2.2.2.2.2.2.2.2.2.1 t1.2.2.2.2.2.2.2.2.2.2.2.1 t1.2.2.2.2.2.2.2.2.2.2.2.2.1 t1.2.2.2.2.2.2.2.2.2.2.2.2.2.1 t1.2.2.2.2.2.2.2.2.2.2.2.2.2.2.1 t1.2.2.2.2.2.2.2.2.2.2.2.2.2.2.2.1 t1.2.2.2.2.2.2.2.2.2.2.2.2.2.2.2.2.1 t1.2.2.2.2.2.2.2.2.2.2.2.2.2.2.2.2.2.1 t1.2.2.2.2.2.2.2.2.2.2.2.2.2.2.2.2.2.2))))))
  (.ret (x2, x3, x4, x5, x6, x7, x8, x9, x10, x11, x12, x13, x14, x15, x16, x17, x18, x19))
 | .c12 x0 x1 x2 x3 x4 x5 x6 x7 x8 x9 x10 x11 x12 x13 x14 x15 x16 x17 x18 x19 x20 x21 x22 =>
 .ite (decide (x4 < x3))
  (.need ((0 : Int) ≤ (wr (x1 + (1 : Int))) ∧ (wr (x1 + (1 : Int))) ≤ x2 ∧ x2 ≤ (List.length x0 : Int)) (.call (self_.told ((List.drop (Int.toNat (wr (x1 + (1 : Int)))) (List.take (Int.toNat x2) x0)), x5, x6, x7, x8, x9, x10, x11, x12, x13, x14, x15, x16, x17, x18, x19, x20, x21, x22)) fun t1 => .jump (.c12 x0 x1 x2 x3 (wr (x4 + (1 : Int))) t1.1 t1.2.1 t1.2.2.1 t1.2.2.2.1 t1.2.2.2.2.1 t1.2.2.2.2.2.1 t1.2.2.2.2.2.2.1 t1.2.2.2.2.2.2.2.1 t1.2.2.2.2.2.2.2.2.1 t1.2.2.2.2.2.2.2.2.2.1 t1.2.2.2.2.2.2.2.2.2.2.1 t1.2.2.2.2.2.2.2.2.2.2.2.1 t1.2.2.2.2.2.2.2.2.2.2.2.2.1 t1.2.2.2.2.2.2.2.2.2.2.2.2.2.1 t1.2.2.2.2.2.2.2.2.2.2.2.2.2.2.1 t1.2.2.2.2.2.2.2.2.2.2.2.2.2.2.2.1 t1.2.2.2.2.2.2.2.2.2.2.2.2.2.2.2.2.1 t1.2.2.2.2.2.2.2.2.2.2.2.2.2.2.2.2.2)))
  (.jump (.c1 x0 (wr (x2 + (1 : Int))) x5 x6 x7 x8 x9 x10 x11 x12 x13 x14 x15 x16 x17 x18 x19 x20 x21 x22))
def Q : Plan C := { PL with cuts := [(1, [0, 1, 4, 51, 52, 53, 54, 55]), (12, [0, 1, 4, 7, 39, 40, 51, 52, 53, 54, 55])], ords := [], weak := [] }
theorem e (self_ : Self I A K) : CutEq Pg C Q Tryz.f232 5 id st v o (tree self_) := fun J K x => by cases x <;> kernel_rfl
theorem b (self_ : Self I A K) (a0 : List S210) (a1 a2 : List Int) (a3 : Int) (a4 : List S227) (a5 : List Int) (a6 a7 a8 : Int) (a9 : List Int) (a10 a11 a12 a13 a14 a15 a16 a17 : Bool) (a18 : List Int) : BegEq Pg C Q Tryz.f232 5 id st v o (S a0 a1 a2 a3 a4 a5 a6 a7 a8 a9 a10 a11 a12 a13 a14 a15 a16 a17 a18) (begin self_ a0 a1 a2 a3 a4 a5 a6 a7 a8 a9 a10 a11 a12 a13 a14 a15 a16 a17 a18) := fun J K => by kernel_rfl
def step (self_ : Self I A K) : Self I A K := ⟨fun i_ => (begin self_ i_.1 i_.2.1 i_.2.2.1 i_.2.2.2.1 i_.2.2.2.2.1 i_.2.2.2.2.2.1 i_.2.2.2.2.2.2.1 i_.2.2.2.2.2.2.2.1 i_.2.2.2.2.2.2.2.2.1 i_.2.2.2.2.2.2.2.2.2.1 i_.2.2.2.2.2.2.2.2.2.2.1 i_.2.2.2.2.2.2.2.2.2.2.2.1 i_.2.2.2.2.2.2.2.2.2.2.2.2.1 i_.2.2.2.2.2.2.2.2.2.2.2.2.2.1 i_.2.2.2.2.2.2.2.2.2.2.2.2.2.2.1 i_.2.2.2.2.2.2.2.2.2.2.2.2.2.2.2.1 i_.2.2.2.2.2.2.2.2.2.2.2.2.2.2.2.2.1 i_.2.2.2.2.2.2.2.2.2.2.2.2.2.2.2.2.2.1 i_.2.2.2.2.2.2.2.2.2.2.2.2.2.2.2.2.2.2).run (lp (tree self_)), fun i_ r h => soundCall_of_tree G mixed Q Tryz.func232 rfl (of_decide_eq_true (by kernel_rfl)) (by rfl) id st v o (fun _ => rfl) (tree self_) (e self_) (begin self_ i_.1 i_.2.1 i_.2.2.1 i_.2.2.2.1 i_.2.2.2.2.1 i_.2.2.2.2.2.1 i_.2.2.2.2.2.2.1 i_.2.2.2.2.2.2.2.1 i_.2.2.2.2.2.2.2.2.1 i_.2.2.2.2.2.2.2.2.2.1 i_.2.2.2.2.2.2.2.2.2.2.1 i_.2.2.2.2.2.2.2.2.2.2.2.1 i_.2.2.2.2.2.2.2.2.2.2.2.2.1 i_.2.2.2.2.2.2.2.2.2.2.2.2.2.1 i_.2.2.2.2.2.2.2.2.2.2.2.2.2.2.1 i_.2.2.2.2.2.2.2.2.2.2.2.2.2.2.2.1 i_.2.2.2.2.2.2.2.2.2.2.2.2.2.2.2.2.1 i_.2.2.2.2.2.2.2.2.2.2.2.2.2.2.2.2.2.1 i_.2.2.2.2.2.2.2.2.2.2.2.2.2.2.2.2.2.2) (b self_ i_.1 i_.2.1 i_.2.2.1 i_.2.2.2.1 i_.2.2.2.2.1 i_.2.2.2.2.2.1 i_.2.2.2.2.2.2.1 i_.2.2.2.2.2.2.2.1 i_.2.2.2.2.2.2.2.2.1 i_.2.2.2.2.2.2.2.2.2.1 i_.2.2.2.2.2.2.2.2.2.2.1 i_.2.2.2.2.2.2.2.2.2.2.2.1 i_.2.2.2.2.2.2.2.2.2.2.2.2.1 i_.2.2.2.2.2.2.2.2.2.2.2.2.2.1 i_.2.2.2.2.2.2.2.2.2.2.2.2.2.2.1 i_.2.2.2.2.2.2.2.2.2.2.2.2.2.2.2.1 i_.2.2.2.2.2.2.2.2.2.2.2.2.2.2.2.2.1 i_.2.2.2.2.2.2.2.2.2.2.2.2.2.2.2.2.2.1 i_.2.2.2.2.2.2.2.2.2.2.2.2.2.2.2.2.2.2) h⟩
def f (a0 : List S210) (a1 a2 : List Int) (a3 : Int) (a4 : List S227) (a5 : List Int) (a6 a7 a8 : Int) (a9 : List Int) (a10 a11 a12 a13 a14 a15 a16 a17 : Bool) (a18 : List Int) : Option A := (Self.iter step 8).f (a0, a1, a2, a3, a4, a5, a6, a7, a8, a9, a10, a11, a12, a13, a14, a15, a16, a17, a18)
def told (a0 : List S210) (a1 a2 : List Int) (a3 : Int) (a4 : List S227) (a5 : List Int) (a6 a7 a8 : Int) (a9 : List Int) (a10 a11 a12 a13 a14 a15 a16 a17 : Bool) (a18 : List Int) : YtobfemcobakeoaaGreatEv.Told A := ⟨f a0 a1 a2 a3 a4 a5 a6 a7 a8 a9 a10 a11 a12 a13 a14 a15 a16 a17 a18, fun r => SoundCall Pg C 232 (S a0 a1 a2 a3 a4 a5 a6 a7 a8 a9 a10 a11 a12 a13 a14 a15 a16 a17 a18) 5 (v r) (o r), fun r h => (Self.iter step 8).ok (a0, a1, a2, a3, a4, a5, a6, a7, a8, a9, a10, a11, a12, a13, a14, a15, a16, a17, a18) r h⟩
end impl_walk
/-! #### loop.example/g00983/impl.hasTask (254) -/
namespace impl_hasTask
def S (a0 : List S166) (a1 : Int) : List (PV U) := YtobfemcobakeoaaGreatEv.start C 15 [.agg [.sl 167 a0], .int .i64 a1] []
abbrev X := Empty
def id : X → Nat := fun _ => 0
def st : X → List (PV U) := fun _ => []
def begin (a0 : List S166) (a1 : Int) : Tr X A :=
 .call (impl_ProgramOk.told a0) fun t1 => .ite t1
  (.call (impl_within.told a1 (0 : Int) (wr ((List.length a0 : Int) - (1 : Int)))) fun t2 => .ret t2)
  (.ret false)
def tree : X → Tr X A := fun _ => .fail
def f (a0 : List S166) (a1 : Int) : Option A := (begin a0 a1).run (lp tree)
def Q : Plan C := { PL with cuts := [], ords := [], weak := [] }
theorem e : CutEq Pg C Q Tryz.f254 0 id st v o tree := fun J K x => by cases x
theorem b (a0 : List S166) (a1 : Int) : BegEq Pg C Q Tryz.f254 0 id st v o (S a0 a1) (begin a0 a1) := fun J K => by kernel_rfl
def told (a0 : List S166) (a1 : Int) : YtobfemcobakeoaaGreatEv.Told A := ⟨f a0 a1, fun r => SoundCall Pg C 254 (S a0 a1) 0 (v r) (o r), fun r h => soundCall_of_tree G mixed Q Tryz.func254 rfl (of_decide_eq_true (by kernel_rfl)) (by rfl) id st v o (fun _ => rfl) tree e (begin a0 a1) (b a0 a1) h⟩
end impl_hasTask
/-! #### loop.example/g00983/impl.NextTask (240) -/
namespace impl_NextTask
def S (a0 : List S166) (a1 : List Int) (a2 : Int) : List (PV U) := YtobfemcobakeoaaGreatEv.start C 34 [.agg [.sl 167 a0], .sl 3 a1, .int .i64 a2] []
abbrev X := Empty
def id : X → Nat := fun _ => 0
def st : X → List (PV U) := fun _ => []
def begin (a0 : List S166) (a1 : List Int) (a2 : Int) : Tr X A :=
 .call (impl_hasTask.told a0 a2) fun t1 => .ite (!t1)
  (.ret ((-1 : Int)))
  (.call (impl_VarsOk.told a1) fun t2 => .ite (!t2)
   (.ret ((-1 : Int)))
   (.need ((0 : Int) ≤ a2 ∧ a2 < (List.length a0 : Int)) (.call (impl_EvalExpr.told a1 ((rdS166 a0 a2).f1.f0) ((rdS166 a0 a2).f1.f1) ((rdS166 a0 a2).f1.f2)) fun t3 => .need ((List.length a0 : Int) ≠ 0) (.need ((List.length a0 : Int) ≠ 0) (.val ((Int.tmod (wr ((Int.tmod t3 (List.length a0 : Int)) + (List.length a0 : Int))) (List.length a0 : Int)) : Int) fun v4 => .ret v4)))))
def tree : X → Tr X A := fun _ => .fail
def f (a0 : List S166) (a1 : List Int) (a2 : Int) : Option A := (begin a0 a1 a2).run (lp tree)
def Q : Plan C := { PL with cuts := [], ords := [], weak := [] }
theorem e : CutEq Pg C Q Tryz.f240 0 id st v o tree := fun J K x => by cases x
theorem b (a0 : List S166) (a1 : List Int) (a2 : Int) : BegEq Pg C Q Tryz.f240 0 id st v o (S a0 a1 a2) (begin a0 a1 a2) := fun J K => by kernel_rfl
def told (a0 : List S166) (a1 : List Int) (a2 : Int) : YtobfemcobakeoaaGreatEv.Told A := ⟨f a0 a1 a2, fun r => SoundCall Pg C 240 (S a0 a1 a2) 0 (v r) (o r), fun r h => soundCall_of_tree G mixed Q Tryz.func240 rfl (of_decide_eq_true (by kernel_rfl)) (by rfl) id st v o (fun _ => rfl) tree e (begin a0 a1 a2) (b a0 a1 a2) h⟩
end impl_NextTask
/-! #### loop.example/g00983/impl.traceOf (215) -/
namespace impl_traceOf
def S (a0 : List S166) (a1 a2 : List Int) (a3 : Int) : List (PV U) := YtobfemcobakeoaaGreatEv.start C 63 [.agg [.sl 167 a0], .sl 3 a1, .sl 3 a2, .int .i64 a3] []
inductive X where
 | c8 (x0 : List S227) (x1 : List Int) (x2 : List S227) (x3 : List Int) (x4 x5 x6 : Int) (x7 : List Int) (x8 x9 x10 x11 x12 x13 x14 x15 : Bool) (x16 : List Int)
def id : X → Nat
 | .c8 .. => 8
def st : X → List (PV U)
 | .c8 x0 x1 x2 x3 x4 x5 x6 x7 x8 x9 x10 x11 x12 x13 x14 x15 x16 => stOf 63 [(8, .box [.own true 228 x0, .own true 3 x1]), (12, .box [.ptr 28 0]), (28, .box [.own true 228 x2, .own true 3 x3, .int .i64 x4, .int .i64 x5, .int .i64 x6, .own true 3 x7, .bool x8, .bool x9, .bool x10, .bool x11, .bool x12, .bool x13, .bool x14, .bool x15, .own true 3 x16])]
def begin (a0 : List S166) (a1 a2 : List Int) (a3 : Int) : Tr X A :=
 .need ((0 : Int) ≤ (8 : Int) ∧ (8 : Int) < (List.length a1 : Int)) (.call (impl_UnpackControl.told (rdI a1 (8 : Int))) fun t1 => .call (impl_MemVars.told a1) fun t2 => .need ((0 : Int) ≤ t1.1 ∧ t1.1 < (List.length a0 : Int)) (.call (impl_MustLog.told ((rdS166 a0 t1.1).f0) ((rdS166 a0 t1.1).f1.f0) ((rdS166 a0 t1.1).f1.f1) ((rdS166 a0 t1.1).f1.f2)) fun t3 => .call (impl_walk.told ((rdS166 a0 t1.1).f0) t3 a2 a3 ([] : List S227) ([] : List Int) t1.1 t1.2.2 (0 : Int) ([] : List Int) false false false false false false false false t2) fun t4 => .call (impl_tracer_work.told (1 : Int) t4.2.2.2.1 t4.2.2.2.2.1 t4.2.2.2.2.2.1 t4.2.2.2.2.2.2.1 t4.2.2.2.2.2.2.2.1 t4.2.2.2.2.2.2.2.2.1 t4.2.2.2.2.2.2.2.2.2.1 t4.2.2.2.2.2.2.2.2.2.2.1 t4.2.2.2.2.2.2.2.2.2.2.2.1 t4.2.2.2.2.2.2.2.2.2.2.2.2.1 t4.2.2.2.2.2.2.2.2.2.2.2.2.2.1 t4.2.2.2.2.2.2.2.2.2.2.2.2.2.2.1 t4.2.2.2.2.2.2.2.2.2.2.2.2.2.2.2.1 t4.2.2.2.2.2.2.2.2.2.2.2.2.2.2.2.2.1 t4.2.2.2.2.2.2.2.2.2.2.2.2.2.2.2.2.2) fun t5 => let u5_0 : Tr X A := (.last (.val ((if (wr (t1.2.2 + t5.2.2.2.2.1)) < (24 : Int) then (wr (t1.2.2 + t5.2.2.2.2.1)) else (24 : Int)) : Int) fun v6 => .last (.call (impl_NextTask.told a0 t5.2.2.2.2.2.2.2.2.2.2.2.2.2.2 t1.1) fun t7 => .last (.call (impl_PackControl.told t7 (0 : Int) v6) fun t8 => .last (.call (impl_tracer_write.told (8 : Int) t8 t5.1 t5.2.1 t5.2.2.1 t5.2.2.2.1 t5.2.2.2.2.1 t5.2.2.2.2.2.1 t5.2.2.2.2.2.2.1 t5.2.2.2.2.2.2.2.1 t5.2.2.2.2.2.2.2.2.1 t5.2.2.2.2.2.2.2.2.2.1 t5.2.2.2.2.2.2.2.2.2.2.1 t5.2.2.2.2.2.2.2.2.2.2.2.1 t5.2.2.2.2.2.2.2.2.2.2.2.2.1 t5.2.2.2.2.2.2.2.2.2.2.2.2.2.1 t5.2.2.2.2.2.2.2.2.2.2.2.2.2.2) fun t9 => .jump (.c8 ([] : List S227) ([] : List Int) t9.1 t9.2.1 t9.2.2.1 t9.2.2.2.1 t9.2.2.2.2.1 t9.2.2.2.2.2.1 t9.2.2.2.2.2.2.1 t9.2.2.2.2.2.2.2.1 t9.2.2.2.2.2.2.2.2.1 t9.2.2.2.2.2.2.2.2.2.1 t9.2.2.2.2.2.2.2.2.2.2.1 t9.2.2.2.2.2.2.2.2.2.2.2.1 t9.2.2.2.2.2.2.2.2.2.2.2.2.1 t9.2.2.2.2.2.2.2.2.2.2.2.2.2.1 t9.2.2.2.2.2.2.2.2.2.2.2.2.2.2)))))); let u5_1 : Tr X A := (.both (.call (impl_NextTask.told a0 t5.2.2.2.2.2.2.2.2.2.2.2.2.2.2 t1.1) fun t6 => .last (.val ((if (wr (t1.2.2 + t5.2.2.2.2.1)) < (24 : Int) then (wr (t1.2.2 + t5.2.2.2.2.1)) else (24 : Int)) : Int) fun v7 => .last (.call (impl_PackControl.told t6 (0 : Int) v7) fun t8 => .last (.call (impl_tracer_write.told (8 : Int) t8 t5.1 t5.2.1 t5.2.2.1 t5.2.2.2.1 t5.2.2.2.2.1 t5.2.2.2.2.2.1 t5.2.2.2.2.2.2.1 t5.2.2.2.2.2.2.2.1 t5.2.2.2.2.2.2.2.2.1 t5.2.2.2.2.2.2.2.2.2.1 t5.2.2.2.2.2.2.2.2.2.2.1 t5.2.2.2.2.2.2.2.2.2.2.2.1 t5.2.2.2.2.2.2.2.2.2.2.2.2.1 t5.2.2.2.2.2.2.2.2.2.2.2.2.2.1 t5.2.2.2.2.2.2.2.2.2.2.2.2.2.2) fun t9 => .jump (.c8 ([] : List S227) ([] : List Int) t9.1 t9.2.1 t9.2.2.1 t9.2.2.2.1 t9.2.2.2.2.1 t9.2.2.2.2.2.1 t9.2.2.2.2.2.2.1 t9.2.2.2.2.2.2.2.1 t9.2.2.2.2.2.2.2.2.1 t9.2.2.2.2.2.2.2.2.2.1 t9.2.2.2.2.2.2.2.2.2.2.1 t9.2.2.2.2.2.2.2.2.2.2.2.1 t9.2.2.2.2.2.2.2.2.2.2.2.2.1 t9.2.2.2.2.2.2.2.2.2.2.2.2.2.1 t9.2.2.2.2.2.2.2.2.2.2.2.2.2.2))))) (u5_0)); let u5_2 : Tr X A := (.both (u5_1) (u5_0)); let u5_3 : Tr X A := (.both (u5_2) (u5_0)); let u5_4 : Tr X A := (.both (u5_2) (u5_3)); let u5_5 : Tr X A := (.both (u5_2) (.both (.both (u5_1) (.both (.call (impl_NextTask.told a0 t5.2.2.2.2.2.2.2.2.2.2.2.2.2.2 t1.1) fun t6 => let u6_0 : Tr X A := (.last (.val ((if (wr (t1.2.2 + t5.2.2.2.2.1)) < (24 : Int) then (wr (t1.2.2 + t5.2.2.2.2.1)) else (24 : Int)) : Int) fun v7 => .last (.call (impl_PackControl.told t6 (0 : Int) v7) fun t8 => .last (.call (impl_tracer_write.told (8 : Int) t8 t5.1 t5.2.1 t5.2.2.1 t5.2.2.2.1 t5.2.2.2.2.1 t5.2.2.2.2.2.1 t5.2.2.2.2.2.2.1 t5.2.2.2.2.2.2.2.1 t5.2.2.2.2.2.2.2.2.1 t5.2.2.2.2.2.2.2.2.2.1 t5.2.2.2.2.2.2.2.2.2.2.1 t5.2.2.2.2.2.2.2.2.2.2.2.1 t5.2.2.2.2.2.2.2.2.2.2.2.2.1 t5.2.2.2.2.2.2.2.2.2.2.2.2.2.1 t5.2.2.2.2.2.2.2.2.2.2.2.2.2.2) fun t9 => .jump (.c8 ([] : List S227) ([] : List Int) t9.1 t9.2.1 t9.2.2.1 t9.2.2.2.1 t9.2.2.2.2.1 t9.2.2.2.2.2.1 t9.2.2.2.2.2.2.1 t9.2.2.2.2.2.2.2.1 t9.2.2.2.2.2.2.2.2.1 t9.2.2.2.2.2.2.2.2.2.1 t9.2.2.2.2.2.2.2.2.2.2.1 t9.2.2.2.2.2.2.2.2.2.2.2.1 t9.2.2.2.2.2.2.2.2.2.2.2.2.1 t9.2.2.2.2.2.2.2.2.2.2.2.2.2.1 t9.2.2.2.2.2.2.2.2.2.2.2.2.2.2))))); .both (u6_0) (u6_0)) (u5_0))) (u5_0))); let u5_6 : Tr X A := (.both (u5_5) (u5_0)); .both (.both (u5_3)
   (.both (u5_4)
    (u5_0)))
  (.both (.both (u5_3)
    (u5_6))
   (.both (.both (u5_4)
     (.both (u5_5)
      (u5_6)))
    (u5_0)))))
def tree : X → Tr X A
 | .c8 x0 x1 x2 x3 x4 x5 x6 x7 x8 x9 x10 x11 x12 x13 x14 x15 x16 =>
 .ret (x2, x3)
def f (a0 : List S166) (a1 a2 : List Int) (a3 : Int) : Option A := (begin a0 a1 a2 a3).run (lp tree)
def Q : Plan C := { PL with cuts := [(8, [8, 12, 28])], ords := [(7, [14, 16], (.take 6 [] (.take 8 [] (.take 9 [0, 1, 2, 3, 4, 5, 6, 7, 8] (.take 10 [] (.take 11 [] (.take 12 [0, 1, 2, 3, 4, 5, 6, 7, 8, 9, 10, 11] (.take 13 [] (.alt 0 (.alt 1 (.alt 2 (.take 3 [] (.take 4 [] (.alt 5 (.alt 7 (.alt 14 (.alt 15 (.alt 16 .done .nil) .nil) .nil) (.alt 14 (.alt 7 (.alt 15 (.alt 16 .done .nil) .nil) .nil) .nil)) (.alt 14 (.take 5 [0, 1, 2, 3, 4, 6, 8, 9, 10, 11, 12, 13, 14] (.alt 7 (.alt 15 (.alt 16 .done .nil) .nil) .nil)) .nil)))) (.alt 14 (.take 2 [0, 1, 6, 8, 9, 10, 11, 12, 13, 14] (.take 3 [] (.take 4 [] (.take 5 [0, 1, 2, 3, 4, 6, 8, 9, 10, 11, 12, 13, 14] (.alt 7 (.alt 15 (.alt 16 .done .nil) .nil) .nil))))) .nil)) (.alt 2 (.take 3 [] (.take 4 [] (.alt 1 (.alt 5 (.alt 7 (.alt 14 (.alt 15 (.alt 16 .done .nil) .nil) .nil) (.alt 14 (.alt 7 (.alt 15 (.alt 16 .done .nil) .nil) .nil) .nil)) (.alt 14 (.take 5 [0, 1, 2, 3, 4, 6, 8, 9, 10, 11, 12, 13, 14] (.alt 7 (.alt 15 (.alt 16 .done .nil) .nil) .nil)) .nil)) (.alt 5 (.alt 1 (.alt 7 (.alt 14 (.alt 15 (.alt 16 .done .nil) .nil) .nil) (.alt 14 (.alt 7 (.alt 15 (.alt 16 .done .nil) .nil) .nil) .nil)) (.alt 14 (.take 1 [0, 2, 3, 4, 5, 6, 8, 9, 10, 11, 12, 13, 14] (.alt 7 (.alt 15 (.alt 16 .done .nil) .nil) .nil)) .nil)) (.alt 14 (.take 1 [0, 2, 3, 4, 5, 6, 8, 9, 10, 11, 12, 13, 14] (.take 5 [0, 1, 2, 3, 4, 6, 8, 9, 10, 11, 12, 13, 14] (.alt 7 (.alt 15 (.alt 16 .done .nil) .nil) .nil))) .nil))))) (.alt 14 (.take 1 [0, 2, 3, 4, 5, 6, 8, 9, 10, 11, 12, 13, 14] (.take 2 [0, 1, 6, 8, 9, 10, 11, 12, 13, 14] (.take 3 [] (.take 4 [] (.take 5 [0, 1, 2, 3, 4, 6, 8, 9, 10, 11, 12, 13, 14] (.alt 7 (.alt 15 (.alt 16 .done .nil) .nil) .nil)))))) .nil))) (.alt 1 (.alt 0 (.alt 2 (.take 3 [] (.take 4 [] (.alt 5 (.alt 7 (.alt 14 (.alt 15 (.alt 16 .done .nil) .nil) .nil) (.alt 14 (.alt 7 (.alt 15 (.alt 16 .done .nil) .nil) .nil) .nil)) (.alt 14 (.take 5 [0, 1, 2, 3, 4, 6, 8, 9, 10, 11, 12, 13, 14] (.alt 7 (.alt 15 (.alt 16 .done .nil) .nil) .nil)) .nil)))) (.alt 14 (.take 2 [0, 1, 6, 8, 9, 10, 11, 12, 13, 14] (.take 3 [] (.take 4 [] (.take 5 [0, 1, 2, 3, 4, 6, 8, 9, 10, 11, 12, 13, 14] (.alt 7 (.alt 15 (.alt 16 .done .nil) .nil) .nil))))) .nil)) (.alt 2 (.take 3 [] (.take 4 [] (.alt 0 (.alt 5 (.alt 7 (.alt 14 (.alt 15 (.alt 16 .done .nil) .nil) .nil) (.alt 14 (.alt 7 (.alt 15 (.alt 16 .done .nil) .nil) .nil) .nil)) (.alt 14 (.take 5 [0, 1, 2, 3, 4, 6, 8, 9, 10, 11, 12, 13, 14] (.alt 7 (.alt 15 (.alt 16 .done .nil) .nil) .nil)) .nil)) (.alt 5 (.alt 0 (.alt 7 (.alt 14 (.alt 15 (.alt 16 .done .nil) .nil) .nil) (.alt 14 (.alt 7 (.alt 15 (.alt 16 .done .nil) .nil) .nil) .nil)) (.alt 7 (.alt 0 (.alt 14 (.alt 15 (.alt 16 .done .nil) .nil) .nil) (.alt 14 (.take 0 [1, 2, 3, 4, 5, 6, 7, 8, 9, 10, 11, 12, 13, 14, 15] (.alt 15 (.alt 16 .done .nil) .nil)) .nil)) (.alt 14 (.take 0 [1, 2, 3, 4, 5, 6, 7, 8, 9, 10, 11, 12, 13, 14, 15] (.alt 7 (.alt 15 (.alt 16 .done .nil) .nil) .nil)) .nil))) (.alt 14 (.take 0 [1, 2, 3, 4, 5, 6, 7, 8, 9, 10, 11, 12, 13, 14, 15] (.take 5 [0, 1, 2, 3, 4, 6, 8, 9, 10, 11, 12, 13, 14] (.alt 7 (.alt 15 (.alt 16 .done .nil) .nil) .nil))) .nil))))) (.alt 14 (.take 0 [1, 2, 3, 4, 5, 6, 7, 8, 9, 10, 11, 12, 13, 14, 15] (.take 2 [0, 1, 6, 8, 9, 10, 11, 12, 13, 14] (.take 3 [] (.take 4 [] (.take 5 [0, 1, 2, 3, 4, 6, 8, 9, 10, 11, 12, 13, 14] (.alt 7 (.alt 15 (.alt 16 .done .nil) .nil) .nil)))))) .nil))) (.alt 2 (.take 3 [] (.take 4 [] (.alt 0 (.alt 1 (.alt 5 (.alt 7 (.alt 14 (.alt 15 (.alt 16 .done .nil) .nil) .nil) (.alt 14 (.alt 7 (.alt 15 (.alt 16 .done .nil) .nil) .nil) .nil)) (.alt 14 (.take 5 [0, 1, 2, 3, 4, 6, 8, 9, 10, 11, 12, 13, 14] (.alt 7 (.alt 15 (.alt 16 .done .nil) .nil) .nil)) .nil)) (.alt 5 (.alt 1 (.alt 7 (.alt 14 (.alt 15 (.alt 16 .done .nil) .nil) .nil) (.alt 14 (.alt 7 (.alt 15 (.alt 16 .done .nil) .nil) .nil) .nil)) (.alt 14 (.take 1 [0, 2, 3, 4, 5, 6, 8, 9, 10, 11, 12, 13, 14] (.alt 7 (.alt 15 (.alt 16 .done .nil) .nil) .nil)) .nil)) (.alt 14 (.take 1 [0, 2, 3, 4, 5, 6, 8, 9, 10, 11, 12, 13, 14] (.take 5 [0, 1, 2, 3, 4, 6, 8, 9, 10, 11, 12, 13, 14] (.alt 7 (.alt 15 (.alt 16 .done .nil) .nil) .nil))) .nil))) (.alt 1 (.alt 0 (.alt 5 (.alt 7 (.alt 14 (.alt 15 (.alt 16 .done .nil) .nil) .nil) (.alt 14 (.alt 7 (.alt 15 (.alt 16 .done .nil) .nil) .nil) .nil)) (.alt 14 (.take 5 [0, 1, 2, 3, 4, 6, 8, 9, 10, 11, 12, 13, 14] (.alt 7 (.alt 15 (.alt 16 .done .nil) .nil) .nil)) .nil)) (.alt 5 (.alt 0 (.alt 7 (.alt 14 (.alt 15 (.alt 16 .done .nil) .nil) .nil) (.alt 14 (.alt 7 (.alt 15 (.alt 16 .done .nil) .nil) .nil) .nil)) (.alt 7 (.alt 0 (.alt 14 (.alt 15 (.alt 16 .done .nil) .nil) .nil) (.alt 14 (.take 0 [1, 2, 3, 4, 5, 6, 7, 8, 9, 10, 11, 12, 13, 14, 15] (.alt 15 (.alt 16 .done .nil) .nil)) .nil)) (.alt 14 (.take 0 [1, 2, 3, 4, 5, 6, 7, 8, 9, 10, 11, 12, 13, 14, 15] (.alt 7 (.alt 15 (.alt 16 .done .nil) .nil) .nil)) .nil))) (.alt 14 (.take 0 [1, 2, 3, 4, 5, 6, 7, 8, 9, 10, 11, 12, 13, 14, 15] (.take 5 [0, 1, 2, 3, 4, 6, 8, 9, 10, 11, 12, 13, 14] (.alt 7 (.alt 15 (.alt 16 .done .nil) .nil) .nil))) .nil))) (.alt 5 (.alt 0 (.alt 1 (.alt 7 (.alt 14 (.alt 15 (.alt 16 .done .nil) .nil) .nil) (.alt 14 (.alt 7 (.alt 15 (.alt 16 .done .nil) .nil) .nil) .nil)) (.alt 14 (.take 1 [0, 2, 3, 4, 5, 6, 8, 9, 10, 11, 12, 13, 14] (.alt 7 (.alt 15 (.alt 16 .done .nil) .nil) .nil)) .nil)) (.alt 1 (.alt 0 (.alt 7 (.alt 14 (.alt 15 (.alt 16 .done .nil) .nil) .nil) (.alt 14 (.alt 7 (.alt 15 (.alt 16 .done .nil) .nil) .nil) .nil)) (.alt 7 (.alt 0 (.alt 14 (.alt 15 (.alt 16 .done .nil) .nil) .nil) (.alt 14 (.take 0 [1, 2, 3, 4, 5, 6, 7, 8, 9, 10, 11, 12, 13, 14, 15] (.alt 15 (.alt 16 .done .nil) .nil)) .nil)) (.alt 14 (.take 0 [1, 2, 3, 4, 5, 6, 7, 8, 9, 10, 11, 12, 13, 14, 15] (.alt 7 (.alt 15 (.alt 16 .done .nil) .nil) .nil)) .nil))) (.alt 14 (.take 0 [1, 2, 3, 4, 5, 6, 7, 8, 9, 10, 11, 12, 13, 14, 15] (.take 1 [0, 2, 3, 4, 5, 6, 8, 9, 10, 11, 12, 13, 14] (.alt 7 (.alt 15 (.alt 16 .done .nil) .nil) .nil))) .nil))) (.alt 14 (.take 0 [1, 2, 3, 4, 5, 6, 7, 8, 9, 10, 11, 12, 13, 14, 15] (.take 1 [0, 2, 3, 4, 5, 6, 8, 9, 10, 11, 12, 13, 14] (.take 5 [0, 1, 2, 3, 4, 6, 8, 9, 10, 11, 12, 13, 14] (.alt 7 (.alt 15 (.alt 16 .done .nil) .nil) .nil)))) .nil)))))) (.alt 14 (.take 0 [1, 2, 3, 4, 5, 6, 7, 8, 9, 10, 11, 12, 13, 14, 15] (.take 1 [0, 2, 3, 4, 5, 6, 8, 9, 10, 11, 12, 13, 14] (.take 2 [0, 1, 6, 8, 9, 10, 11, 12, 13, 14] (.take 3 [] (.take 4 [] (.take 5 [0, 1, 2, 3, 4, 6, 8, 9, 10, 11, 12, 13, 14] (.alt 7 (.alt 15 (.alt 16 .done .nil) .nil) .nil))))))) .nil))))))))))))], weak := [] }
theorem e : CutEq Pg C Q Tryz.f215 0 id st v o tree := fun J K x => by cases x <;> kernel_rfl
theorem b (a0 : List S166) (a1 a2 : List Int) (a3 : Int) : BegEq Pg C Q Tryz.f215 0 id st v o (S a0 a1 a2 a3) (begin a0 a1 a2 a3) := fun J K => by kernel_rfl
def told (a0 : List S166) (a1 a2 : List Int) (a3 : Int) : YtobfemcobakeoaaGreatEv.Told A := ⟨f a0 a1 a2 a3, fun r => SoundCall Pg C 215 (S a0 a1 a2 a3) 0 (v r) (o r), fun r h => soundCall_of_tree G mixed Q Tryz.func215 rfl (of_decide_eq_true (by kernel_rfl)) (by rfl) id st v o (fun _ => rfl) tree e (begin a0 a1 a2 a3) (b a0 a1 a2 a3) h⟩
end impl_traceOf
/-! #### loop.example/g00983/impl.isSenseStep (216) -/
namespace impl_isSenseStep
def S (a0 a1 a2 : Int) : List (PV U) := YtobfemcobakeoaaGreatEv.start C 11 [.agg [.int .i64 a0, .int .i64 a1, .int .i64 a2]] []
abbrev X := Empty
def id : X → Nat := fun _ => 0
def st : X → List (PV U) := fun _ => []
def begin (a0 a1 a2 : Int) : Tr X A :=
 .ite (decide (a1 = (-1 : Int)))
  (.ret ((decide (a0 = (5 : Int)))))
  (.ret false)
def tree : X → Tr X A := fun _ => .fail
def f (a0 a1 a2 : Int) : Option A := (begin a0 a1 a2).run (lp tree)
def Q : Plan C := { PL with cuts := [], ords := [], weak := [] }
theorem e : CutEq Pg C Q Tryz.f216 0 id st v o tree := fun J K x => by cases x
theorem b (a0 a1 a2 : Int) : BegEq Pg C Q Tryz.f216 0 id st v o (S a0 a1 a2) (begin a0 a1 a2) := fun J K => by kernel_rfl
def told (a0 a1 a2 : Int) : YtobfemcobakeoaaGreatEv.Told A := ⟨f a0 a1 a2, fun r => SoundCall Pg C 216 (S a0 a1 a2) 0 (v r) (o r), fun r h => soundCall_of_tree G mixed Q Tryz.func216 rfl (of_decide_eq_true (by kernel_rfl)) (by rfl) id st v o (fun _ => rfl) tree e (begin a0 a1 a2) (b a0 a1 a2) h⟩
end impl_isSenseStep
/-! #### (*loop.example/g00983/impl.Boot).task (175) -/
namespace impl_Boot_task
def S (a0 : List S166) (a1 a2 : List Int) (a3 : Int) (a4 : List (List Int)) (a5 : Int) : List (PV U) := YtobfemcobakeoaaGreatEv.start C 66 [.ptr 66 0, .agg [.sl 167 a0], .sl 3 a1] [.box [.own true 3 a2, .int .i64 a3, .own true 25 a4, .int .i64 a5]]
inductive X where
 | c3 (x0 : List S227) (x1 : List Int) (x2 x3 : Int) (x4 : List Int) (x5 : Int) (x6 : List (List Int)) (x7 : Int)
def id : X → Nat
 | .c3 .. => 3
def st : X → List (PV U)
 | .c3 x0 x1 x2 x3 x4 x5 x6 x7 => stOf 67 [(0, .ptr 66 0), (7, .box [.own true 228 x0, .own true 3 x1]), (22, .ali (7, [0])), (23, .int .i64 x2), (24, .int .i64 x3), (66, .box [.own true 3 x4, .int .i64 x5, .own true 25 x6, .int .i64 x7])]
def begin (a0 : List S166) (a1 a2 : List Int) (a3 : Int) (a4 : List (List Int)) (a5 : Int) : Tr X A :=
 .both (.call (impl_traceOf.told a0 a2 a1 a3) fun t1 => .last (.last (.jump (.c3 t1.1 t1.2 (List.length t1.1 : Int) (0 : Int) a2 a3 a4 a5))))
  (.last (.last (.call (impl_traceOf.told a0 a2 a1 a3) fun t1 => .last (.jump (.c3 t1.1 t1.2 (List.length t1.1 : Int) (0 : Int) a2 a3 a4 a5)))))
def tree : X → Tr X A
 | .c3 x0 x1 x2 x3 x4 x5 x6 x7 =>
 let u0_0 : Tr X A := (.last (.last (.need (((List.length x6 : Int) + (List.length ([x1]) : Int)) * (24 : Nat) ≤ room) (.last (.ret (true, x4, x5, (x6 ++ [x1]), x7)))))); .ite (decide (x3 < x2))
  (.need ((0 : Int) ≤ x3 ∧ x3 < (List.length x0 : Int)) (.call (impl_Boot_spend.told ((rdS227 x0 x3).f0) x4 x5 x6 x7) fun t1 => .ite (!t1.1)
   (.ret (false, t1.2.1, t1.2.2.1, t1.2.2.2.1, t1.2.2.2.2))
   (.call (impl_isSenseStep.told ((rdS227 x0 x3).f0) ((rdS227 x0 x3).f1) ((rdS227 x0 x3).f2)) fun t2 => .ite t2
    (.ite (!decide ((rdS227 x0 x3).f1 = (-1 : Int)))
     (.need ((0 : Int) ≤ (rdS227 x0 x3).f1 ∧ (rdS227 x0 x3).f1 < (List.length t1.2.1 : Int)) (.last (.jump (.c3 x0 x1 x2 (wr (x3 + (1 : Int))) (List.set t1.2.1 (Int.toNat ((rdS227 x0 x3).f1)) ((rdS227 x0 x3).f2)) (wr (t1.2.2.1 + (1 : Int))) t1.2.2.2.1 t1.2.2.2.2))))
     (.jump (.c3 x0 x1 x2 (wr (x3 + (1 : Int))) t1.2.1 (wr (t1.2.2.1 + (1 : Int))) t1.2.2.2.1 t1.2.2.2.2)))
    (.ite (!decide ((rdS227 x0 x3).f1 = (-1 : Int)))
     (.need ((0 : Int) ≤ (rdS227 x0 x3).f1 ∧ (rdS227 x0 x3).f1 < (List.length t1.2.1 : Int)) (.last (.jump (.c3 x0 x1 x2 (wr (x3 + (1 : Int))) (List.set t1.2.1 (Int.toNat ((rdS227 x0 x3).f1)) ((rdS227 x0 x3).f2)) t1.2.2.1 t1.2.2.2.1 t1.2.2.2.2))))
     (.jump (.c3 x0 x1 x2 (wr (x3 + (1 : Int))) t1.2.1 t1.2.2.1 t1.2.2.2.1 t1.2.2.2.2))))))
  (.both (u0_0)
   (u0_0))
def f (a0 : List S166) (a1 a2 : List Int) (a3 : Int) (a4 : List (List Int)) (a5 : Int) : Option A := (begin a0 a1 a2 a3 a4 a5).run (lp tree)
def Q : Plan C := { PL with cuts := [(3, [0, 7, 22, 23, 24, 66])], ords := [(1, [12], (.take 1 [] (.take 2 [] (.take 3 [] (.take 5 [] (.take 6 [] (.take 7 [] (.take 8 [] (.take 0 [1, 2, 3, 4, 5, 6, 7, 8, 9, 11] (.take 4 [0, 1, 2, 3, 5, 6, 7, 8, 9, 11] (.take 9 [0, 1, 2, 3, 4, 5, 6, 7, 8, 11] (.alt 10 (.alt 11 (.alt 12 .done .nil) .nil) (.alt 11 (.alt 10 (.alt 12 .done .nil) .nil) .nil))))))))))))), (10, [9], (.take 0 [] (.take 1 [] (.take 2 [] (.take 4 [] (.take 6 [] (.take 3 [0, 1, 2, 4, 5, 6, 7] (.take 5 [0, 1, 2, 3, 4, 6, 7] (.take 7 [0, 1, 2, 3, 4, 5, 6] (.take 8 [] (.alt 9 .done .nil))))))))))), (12, [7, 8, 11], (.take 0 [] (.take 1 [] (.take 2 [] (.take 3 [] (.take 5 [] (.take 6 [0, 1, 2, 3, 4, 5] (.alt 4 (.alt 7 (.alt 8 (.take 9 [] (.take 10 [] (.alt 11 .done .nil))) .nil) .nil) (.alt 7 (.take 4 [0, 1, 2, 3, 5, 6, 7] (.alt 8 (.take 9 [] (.take 10 [] (.alt 11 .done .nil))) .nil)) .nil)))))))))], weak := [] }
theorem e : CutEq Pg C Q Tryz.f175 1 id st v o tree := fun J K x => by cases x <;> kernel_rfl
theorem b (a0 : List S166) (a1 a2 : List Int) (a3 : Int) (a4 : List (List Int)) (a5 : Int) : BegEq Pg C Q Tryz.f175 1 id st v o (S a0 a1 a2 a3 a4 a5) (begin a0 a1 a2 a3 a4 a5) := fun J K => by kernel_rfl
def told (a0 : List S166) (a1 a2 : List Int) (a3 : Int) (a4 : List (List Int)) (a5 : Int) : YtobfemcobakeoaaGreatEv.Told A := ⟨f a0 a1 a2 a3 a4 a5, fun r => SoundCall Pg C 175 (S a0 a1 a2 a3 a4 a5) 1 (v r) (o r), fun r h => soundCall_of_tree G mixed Q Tryz.func175 rfl (of_decide_eq_true (by kernel_rfl)) (by rfl) id st v o (fun _ => rfl) tree e (begin a0 a1 a2 a3 a4 a5) (b a0 a1 a2 a3 a4 a5) h⟩
end impl_Boot_task
/-! #### loop.example/g00983/impl.boot (106) -/
namespace impl_boot
def S (a0 : List S166) (a1 a2 : List Int) (a3 a4 : Int) : List (PV U) := YtobfemcobakeoaaGreatEv.start C 30 [.agg [.sl 167 a0], .sl 3 a1, .sl 3 a2, .int .i64 a3, .int .i64 a4] []
inductive X where
 | c4 (x0 : List Int) (x1 : List S166) (x2 : List Int) (x3 : Int) (x4 : List (List Int)) (x5 : Int) (x6 : List Int) (x7 : Int) (x8 : List (List Int)) (x9 : Int)
def id : X → Nat
 | .c4 .. => 4
def st : X → List (PV U)
 | .c4 x0 x1 x2 x3 x4 x5 x6 x7 x8 x9 => stOf 30 [(2, .sl 3 x0), (5, .box [.sl 167 x1]), (10, .box [.own true 3 x2, .int .i64 x3, .own true 25 x4, .int .i64 x5]), (11, .box [.own true 3 x6, .int .i64 x7, .own true 25 x8, .int .i64 x9])]
def begin (a0 : List S166) (a1 a2 : List Int) (a3 a4 : Int) : Tr X A :=
 .call (slices_Clone_int.told a1) fun t1 => .call (impl_Boot_recover.told t1 a3 ([] : List (List Int)) a4) fun t2 => .ite (!t2.1)
  (.ret (t2.2.1, t2.2.2.1, t2.2.2.2.1, t2.2.2.2.2))
  (.jump (.c4 a2 a0 ([] : List Int) (0 : Int) ([] : List (List Int)) (0 : Int) t2.2.1 t2.2.2.1 t2.2.2.2.1 t2.2.2.2.2))
def tree : X → Tr X A
 | .c4 x0 x1 x2 x3 x4 x5 x6 x7 x8 x9 =>
 .ite (decide ((List.length x8 : Int) < (10 : Int)))
  (.call (impl_Boot_task.told x1 x0 x6 x7 x8 x9) fun t1 => .ite t1.1
   (.jump (.c4 x0 x1 x2 x3 x4 x5 t1.2.1 t1.2.2.1 t1.2.2.2.1 t1.2.2.2.2))
   (.ret (t1.2.1, t1.2.2.1, t1.2.2.2.1, t1.2.2.2.2)))
  (.ret (x6, x7, x8, x9))
def f (a0 : List S166) (a1 a2 : List Int) (a3 a4 : Int) : Option A := (begin a0 a1 a2 a3 a4).run (lp tree)
def Q : Plan C := { PL with cuts := [(4, [2, 5, 10, 11])], ords := [], weak := [] }
theorem e : CutEq Pg C Q Tryz.f106 0 id st v o tree := fun J K x => by cases x <;> kernel_rfl
theorem b (a0 : List S166) (a1 a2 : List Int) (a3 a4 : Int) : BegEq Pg C Q Tryz.f106 0 id st v o (S a0 a1 a2 a3 a4) (begin a0 a1 a2 a3 a4) := fun J K => by kernel_rfl
def told (a0 : List S166) (a1 a2 : List Int) (a3 a4 : Int) : YtobfemcobakeoaaGreatEv.Told A := ⟨f a0 a1 a2 a3 a4, fun r => SoundCall Pg C 106 (S a0 a1 a2 a3 a4) 0 (v r) (o r), fun r h => soundCall_of_tree G mixed Q Tryz.func106 rfl (of_decide_eq_true (by kernel_rfl)) (by rfl) id st v o (fun _ => rfl) tree e (begin a0 a1 a2 a3 a4) (b a0 a1 a2 a3 a4) h⟩
end impl_boot
/-! #### loop.example/g00983/impl.TickNode (49) -/
namespace impl_TickNode
def S (a0 : List S166) (a1 a2 : List Int) (a3 a4 a5 a6 a7 a8 a9 a10 : Int) (a11 : List Int) (a12 a13 : Int) : List (PV U) := YtobfemcobakeoaaGreatEv.start C 66 [.agg [.sl 167 a0, .sl 3 a1, .sl 3 a2, .int .i64 a3, .int .i64 a4, .int .i64 a5, .int .i64 a6, .int .i64 a7, .int .i64 a8, .int .i64 a9, .int .i64 a10, .sl 3 a11, .int .i64 a12], .int .i64 a13] []
inductive X where
 | c9 (x0 : List S166) (x1 x2 : List Int) (x3 x4 x5 x6 x7 x8 x9 x10 : Int) (x11 : List Int) (x12 : Int) (x13 : List S166) (x14 x15 : List Int) (x16 x17 x18 x19 x20 x21 x22 x23 : Int) (x24 : List Int) (x25 : Int) (x26 : List S166) (x27 x28 : List Int) (x29 x30 x31 x32 x33 x34 x35 x36 : Int) (x37 : List Int) (x38 : Int)
def id : X → Nat
 | .c9 .. => 9
def st : X → List (PV U)
 | .c9 x0 x1 x2 x3 x4 x5 x6 x7 x8 x9 x10 x11 x12 x13 x14 x15 x16 x17 x18 x19 x20 x21 x22 x23 x24 x25 x26 x27 x28 x29 x30 x31 x32 x33 x34 x35 x36 x37 x38 => stOf 66 [(2, .box [.sl 167 x0, .sl 3 x1, .sl 3 x2, .int .i64 x3, .int .i64 x4, .int .i64 x5, .int .i64 x6, .int .i64 x7, .int .i64 x8, .int .i64 x9, .int .i64 x10, .sl 3 x11, .int .i64 x12]), (4, .box [.own true 167 x13, .own true 3 x14, .own true 3 x15, .int .i64 x16, .int .i64 x17, .int .i64 x18, .int .i64 x19, .int .i64 x20, .int .i64 x21, .int .i64 x22, .int .i64 x23, .own true 3 x24, .int .i64 x25]), (6, .box [.own true 167 x26, .own true 3 x27, .own true 3 x28, .int .i64 x29, .int .i64 x30, .int .i64 x31, .int .i64 x32, .int .i64 x33, .int .i64 x34, .int .i64 x35, .int .i64 x36, .own true 3 x37, .int .i64 x38])]
def begin (a0 : List S166) (a1 a2 : List Int) (a3 a4 a5 a6 a7 a8 a9 a10 : Int) (a11 : List Int) (a12 a13 : Int) : Tr X A :=
 .call (impl_copyNode.told a0 a1 a2 a3 a4 a5 a6 a7 a8 a9 a10 a11 a12) fun t1 => .call (impl_NodeOk.told a0 a1 a2 a3 a4 a5 a6 a7 a8 a9 a10 a11 a12) fun t2 => .ite (!t2)
  (.ret (t1.1, t1.2.1, t1.2.2.1, t1.2.2.2.1, t1.2.2.2.2.1, t1.2.2.2.2.2.1, t1.2.2.2.2.2.2.1, t1.2.2.2.2.2.2.2.1, t1.2.2.2.2.2.2.2.2.1, t1.2.2.2.2.2.2.2.2.2.1, t1.2.2.2.2.2.2.2.2.2.2.1, t1.2.2.2.2.2.2.2.2.2.2.2.1, t1.2.2.2.2.2.2.2.2.2.2.2.2, false))
  (.call (impl_isHarvest.told a13) fun t3 => .ite (!t3)
   (.ret (t1.1, t1.2.1, t1.2.2.1, t1.2.2.2.1, t1.2.2.2.2.1, t1.2.2.2.2.2.1, t1.2.2.2.2.2.2.1, t1.2.2.2.2.2.2.2.1, t1.2.2.2.2.2.2.2.2.1, t1.2.2.2.2.2.2.2.2.2.1, t1.2.2.2.2.2.2.2.2.2.2.1, t1.2.2.2.2.2.2.2.2.2.2.2.1, t1.2.2.2.2.2.2.2.2.2.2.2.2, false))
   (.call (impl_Store_tick.told a13 t1.1 t1.2.1 t1.2.2.1 t1.2.2.2.1 t1.2.2.2.2.1 t1.2.2.2.2.2.1 t1.2.2.2.2.2.2.1 t1.2.2.2.2.2.2.2.1 t1.2.2.2.2.2.2.2.2.1 t1.2.2.2.2.2.2.2.2.2.1 t1.2.2.2.2.2.2.2.2.2.2.1 t1.2.2.2.2.2.2.2.2.2.2.2.1 t1.2.2.2.2.2.2.2.2.2.2.2.2) fun t4 => .call (impl_PassOn.told a8 a9 (1 : Int)) fun t5 => .ite (decide (t4.2.2.2.2.1 ≥ t4.2.2.2.2.2.2.1))
    (.call (impl_boot.told a0 a1 a2 a3 t4.2.2.2.2.1) fun t6 => let u6_0 : Tr X A := (.last (.last (.last (.jump (.c9 a0 a1 a2 a3 a4 a5 a6 a7 a8 a9 a10 a11 a12 ([] : List S166) ([] : List Int) ([] : List Int) (0 : Int) (0 : Int) (0 : Int) (0 : Int) (0 : Int) (0 : Int) (0 : Int) (0 : Int) ([] : List Int) (0 : Int) t4.1 t6.1 t4.2.2.1 t6.2.1 (0 : Int) t4.2.2.2.2.2.1 t4.2.2.2.2.2.2.1 t4.2.2.2.2.2.2.2.1 t5.1 t5.2 t4.2.2.2.2.2.2.2.2.2.2.1 t4.2.2.2.2.2.2.2.2.2.2.2.1 (wr (a12 + (List.length t6.2.2.1 : Int)))))))); let u6_1 : Tr X A := (.last (u6_0)); let u6_2 : Tr X A := (.both (u6_0) (u6_0)); let u6_3 : Tr X A := (.last (u6_2)); let u6_4 : Tr X A := (.both (u6_1) (u6_3)); let u6_5 : Tr X A := (.last (.both (u6_2) (.both (u6_2) (u6_0)))); let u6_6 : Tr X A := (.both (u6_4) (.both (.both (u6_1) (u6_1)) (u6_3))); .both (.both (u6_4)
      (.both (u6_4)
       (u6_5)))
     (.both (u6_6)
      (.both (u6_6)
       (u6_5))))
    (.jump (.c9 a0 a1 a2 a3 a4 a5 a6 a7 a8 a9 a10 a11 a12 ([] : List S166) ([] : List Int) ([] : List Int) (0 : Int) (0 : Int) (0 : Int) (0 : Int) (0 : Int) (0 : Int) (0 : Int) (0 : Int) ([] : List Int) (0 : Int) t4.1 t4.2.1 t4.2.2.1 t4.2.2.2.1 t4.2.2.2.2.1 t4.2.2.2.2.2.1 t4.2.2.2.2.2.2.1 t4.2.2.2.2.2.2.2.1 t5.1 t5.2 t4.2.2.2.2.2.2.2.2.2.2.1 t4.2.2.2.2.2.2.2.2.2.2.2.1 t4.2.2.2.2.2.2.2.2.2.2.2.2))))
def tree : X → Tr X A
 | .c9 x0 x1 x2 x3 x4 x5 x6 x7 x8 x9 x10 x11 x12 x13 x14 x15 x16 x17 x18 x19 x20 x21 x22 x23 x24 x25 x26 x27 x28 x29 x30 x31 x32 x33 x34 x35 x36 x37 x38 =>
 .call (impl_NodeOk.told x26 x27 x28 x29 x30 x31 x32 x33 x34 x35 x36 x37 x38) fun t1 => .ite (!t1)
  (.call (impl_copyNode.told x0 x1 x2 x3 x4 x5 x6 x7 x8 x9 x10 x11 x12) fun t2 => .ret (t2.1, t2.2.1, t2.2.2.1, t2.2.2.2.1, t2.2.2.2.2.1, t2.2.2.2.2.2.1, t2.2.2.2.2.2.2.1, t2.2.2.2.2.2.2.2.1, t2.2.2.2.2.2.2.2.2.1, t2.2.2.2.2.2.2.2.2.2.1, t2.2.2.2.2.2.2.2.2.2.2.1, t2.2.2.2.2.2.2.2.2.2.2.2.1, t2.2.2.2.2.2.2.2.2.2.2.2.2, false))
  (.ret (x26, x27, x28, x29, x30, x31, x32, x33, x34, x35, x36, x37, x38, true))
def f (a0 : List S166) (a1 a2 : List Int) (a3 a4 a5 a6 a7 a8 a9 a10 : Int) (a11 : List Int) (a12 a13 : Int) : Option A := (begin a0 a1 a2 a3 a4 a5 a6 a7 a8 a9 a10 a11 a12 a13).run (lp tree)
def Q : Plan C := { PL with cuts := [(9, [2, 4, 6])], ords := [(8, [11, 13, 15, 18], (.take 0 [] (.take 2 [] (.take 4 [] (.take 6 [] (.take 1 [0, 2, 3, 4, 5, 6, 7, 8, 9] (.take 10 [] (.alt 3 (.alt 5 (.alt 7 (.take 8 [] (.take 9 [] (.alt 11 (.take 12 [] (.alt 13 (.take 14 [] (.alt 15 (.take 16 [] (.take 17 [] (.alt 18 .done .nil))) .nil)) .nil)) .nil))) (.alt 11 (.take 12 [] (.alt 7 (.take 8 [] (.take 9 [] (.alt 13 (.take 14 [] (.alt 15 (.take 16 [] (.take 17 [] (.alt 18 .done .nil))) .nil)) .nil))) (.alt 13 (.take 7 [0, 1, 2, 3, 4, 5, 6, 10, 11, 12, 13] (.take 8 [] (.take 9 [] (.take 14 [] (.alt 15 (.take 16 [] (.take 17 [] (.alt 18 .done .nil))) .nil))))) .nil))) .nil)) (.alt 7 (.take 8 [] (.alt 5 (.take 9 [] (.alt 11 (.take 12 [] (.alt 13 (.take 14 [] (.alt 15 (.take 16 [] (.take 17 [] (.alt 18 .done .nil))) .nil)) .nil)) .nil)) (.alt 11 (.take 12 [] (.alt 5 (.take 9 [] (.alt 13 (.take 14 [] (.alt 15 (.take 16 [] (.take 17 [] (.alt 18 .done .nil))) .nil)) .nil)) (.alt 13 (.take 5 [0, 1, 2, 3, 4, 6, 7, 8, 10, 11, 12, 13] (.take 9 [] (.take 14 [] (.alt 15 (.take 16 [] (.take 17 [] (.alt 18 .done .nil))) .nil)))) .nil))) .nil))) (.alt 11 (.take 12 [] (.alt 5 (.alt 7 (.take 8 [] (.take 9 [] (.alt 13 (.take 14 [] (.alt 15 (.take 16 [] (.take 17 [] (.alt 18 .done .nil))) .nil)) .nil))) (.alt 13 (.take 7 [0, 1, 2, 3, 4, 5, 6, 10, 11, 12, 13] (.take 8 [] (.take 9 [] (.take 14 [] (.alt 15 (.take 16 [] (.take 17 [] (.alt 18 .done .nil))) .nil))))) .nil)) (.alt 7 (.take 8 [] (.alt 5 (.take 9 [] (.alt 13 (.take 14 [] (.alt 15 (.take 16 [] (.take 17 [] (.alt 18 .done .nil))) .nil)) .nil)) (.alt 13 (.take 5 [0, 1, 2, 3, 4, 6, 7, 8, 10, 11, 12, 13] (.take 9 [] (.take 14 [] (.alt 15 (.take 16 [] (.take 17 [] (.alt 18 .done .nil))) .nil)))) .nil))) (.alt 13 (.take 5 [0, 1, 2, 3, 4, 6, 7, 8, 10, 11, 12, 13] (.take 7 [0, 1, 2, 3, 4, 5, 6, 10, 11, 12, 13] (.take 8 [] (.take 9 [] (.take 14 [] (.alt 15 (.take 16 [] (.take 17 [] (.alt 18 .done .nil))) .nil)))))) .nil)))) .nil))) (.alt 5 (.alt 3 (.alt 7 (.take 8 [] (.take 9 [] (.alt 11 (.take 12 [] (.alt 13 (.take 14 [] (.alt 15 (.take 16 [] (.take 17 [] (.alt 18 .done .nil))) .nil)) .nil)) .nil))) (.alt 11 (.take 12 [] (.alt 7 (.take 8 [] (.take 9 [] (.alt 13 (.take 14 [] (.alt 15 (.take 16 [] (.take 17 [] (.alt 18 .done .nil))) .nil)) .nil))) (.alt 13 (.take 7 [0, 1, 2, 3, 4, 5, 6, 10, 11, 12, 13] (.take 8 [] (.take 9 [] (.take 14 [] (.alt 15 (.take 16 [] (.take 17 [] (.alt 18 .done .nil))) .nil))))) .nil))) .nil)) (.alt 7 (.take 8 [] (.take 9 [] (.alt 3 (.alt 11 (.take 12 [] (.alt 13 (.take 14 [] (.alt 15 (.take 16 [] (.take 17 [] (.alt 18 .done .nil))) .nil)) .nil)) .nil) (.alt 11 (.take 3 [0, 1, 2, 4, 5, 6, 7, 8, 9, 10, 11] (.take 12 [] (.alt 13 (.take 14 [] (.alt 15 (.take 16 [] (.take 17 [] (.alt 18 .done .nil))) .nil)) .nil))) .nil)))) (.alt 11 (.take 3 [0, 1, 2, 4, 5, 6, 7, 8, 9, 10, 11] (.take 12 [] (.alt 7 (.take 8 [] (.take 9 [] (.alt 13 (.take 14 [] (.alt 15 (.take 16 [] (.take 17 [] (.alt 18 .done .nil))) .nil)) .nil))) (.alt 13 (.take 7 [0, 1, 2, 3, 4, 5, 6, 10, 11, 12, 13] (.take 8 [] (.take 9 [] (.take 14 [] (.alt 15 (.take 16 [] (.take 17 [] (.alt 18 .done .nil))) .nil))))) .nil)))) .nil))) (.alt 7 (.take 8 [] (.alt 3 (.alt 5 (.take 9 [] (.alt 11 (.take 12 [] (.alt 13 (.take 14 [] (.alt 15 (.take 16 [] (.take 17 [] (.alt 18 .done .nil))) .nil)) .nil)) .nil)) (.alt 11 (.take 12 [] (.alt 5 (.take 9 [] (.alt 13 (.take 14 [] (.alt 15 (.take 16 [] (.take 17 [] (.alt 18 .done .nil))) .nil)) .nil)) (.alt 13 (.take 5 [0, 1, 2, 3, 4, 6, 7, 8, 10, 11, 12, 13] (.take 9 [] (.take 14 [] (.alt 15 (.take 16 [] (.take 17 [] (.alt 18 .done .nil))) .nil)))) .nil))) .nil)) (.alt 5 (.take 9 [] (.alt 3 (.alt 11 (.take 12 [] (.alt 13 (.take 14 [] (.alt 15 (.take 16 [] (.take 17 [] (.alt 18 .done .nil))) .nil)) .nil)) .nil) (.alt 11 (.take 3 [0, 1, 2, 4, 5, 6, 7, 8, 9, 10, 11] (.take 12 [] (.alt 13 (.take 14 [] (.alt 15 (.take 16 [] (.take 17 [] (.alt 18 .done .nil))) .nil)) .nil))) .nil))) (.alt 11 (.take 3 [0, 1, 2, 4, 5, 6, 7, 8, 9, 10, 11] (.take 12 [] (.alt 5 (.take 9 [] (.alt 13 (.take 14 [] (.alt 15 (.take 16 [] (.take 17 [] (.alt 18 .done .nil))) .nil)) .nil)) (.alt 13 (.take 5 [0, 1, 2, 3, 4, 6, 7, 8, 10, 11, 12, 13] (.take 9 [] (.take 14 [] (.alt 15 (.take 16 [] (.take 17 [] (.alt 18 .done .nil))) .nil)))) .nil)))) .nil)))) (.alt 11 (.take 3 [0, 1, 2, 4, 5, 6, 7, 8, 9, 10, 11] (.take 12 [] (.alt 5 (.alt 7 (.take 8 [] (.take 9 [] (.alt 13 (.take 14 [] (.alt 15 (.take 16 [] (.take 17 [] (.alt 18 .done .nil))) .nil)) .nil))) (.alt 13 (.take 7 [0, 1, 2, 3, 4, 5, 6, 10, 11, 12, 13] (.take 8 [] (.take 9 [] (.take 14 [] (.alt 15 (.take 16 [] (.take 17 [] (.alt 18 .done .nil))) .nil))))) .nil)) (.alt 7 (.take 8 [] (.alt 5 (.take 9 [] (.alt 13 (.take 14 [] (.alt 15 (.take 16 [] (.take 17 [] (.alt 18 .done .nil))) .nil)) .nil)) (.alt 13 (.take 5 [0, 1, 2, 3, 4, 6, 7, 8, 10, 11, 12, 13] (.take 9 [] (.take 14 [] (.alt 15 (.take 16 [] (.take 17 [] (.alt 18 .done .nil))) .nil)))) .nil))) (.alt 13 (.take 5 [0, 1, 2, 3, 4, 6, 7, 8, 10, 11, 12, 13] (.take 7 [0, 1, 2, 3, 4, 5, 6, 10, 11, 12, 13] (.take 8 [] (.take 9 [] (.take 14 [] (.alt 15 (.take 16 [] (.take 17 [] (.alt 18 .done .nil))) .nil)))))) .nil))))) .nil)))))))))))], weak := [] }
theorem e : CutEq Pg C Q Tryz.f49 0 id st v o tree := fun J K x => by cases x <;> kernel_rfl
theorem b (a0 : List S166) (a1 a2 : List Int) (a3 a4 a5 a6 a7 a8 a9 a10 : Int) (a11 : List Int) (a12 a13 : Int) : BegEq Pg C Q Tryz.f49 0 id st v o (S a0 a1 a2 a3 a4 a5 a6 a7 a8 a9 a10 a11 a12 a13) (begin a0 a1 a2 a3 a4 a5 a6 a7 a8 a9 a10 a11 a12 a13) := fun J K => by kernel_rfl
def told (a0 : List S166) (a1 a2 : List Int) (a3 a4 a5 a6 a7 a8 a9 a10 : Int) (a11 : List Int) (a12 a13 : Int) : YtobfemcobakeoaaGreatEv.Told A := ⟨f a0 a1 a2 a3 a4 a5 a6 a7 a8 a9 a10 a11 a12 a13, fun r => SoundCall Pg C 49 (S a0 a1 a2 a3 a4 a5 a6 a7 a8 a9 a10 a11 a12 a13) 0 (v r) (o r), fun r h => soundCall_of_tree G mixed Q Tryz.func49 rfl (of_decide_eq_true (by kernel_rfl)) (by rfl) id st v o (fun _ => rfl) tree e (begin a0 a1 a2 a3 a4 a5 a6 a7 a8 a9 a10 a11 a12 a13) (b a0 a1 a2 a3 a4 a5 a6 a7 a8 a9 a10 a11 a12 a13) h⟩
end impl_TickNode
/-! #### loop.example/g00983/impl.ticks (221) -/
namespace impl_ticks
def S (a0 : List S166) (a1 a2 : List Int) (a3 a4 a5 a6 a7 a8 a9 a10 : Int) (a11 : List Int) (a12 a13 a14 a15 : Int) : List (PV U) := YtobfemcobakeoaaGreatEv.start C 26 [.agg [.sl 167 a0, .sl 3 a1, .sl 3 a2, .int .i64 a3, .int .i64 a4, .int .i64 a5, .int .i64 a6, .int .i64 a7, .int .i64 a8, .int .i64 a9, .int .i64 a10, .sl 3 a11, .int .i64 a12], .agg [.int .i64 a13, .int .i64 a14, .int .i64 a15]] []
inductive X where
 | c2 (x0 : List S166) (x1 x2 : List Int) (x3 x4 x5 x6 x7 x8 x9 x10 : Int) (x11 : List Int) (x12 x13 x14 x15 : Int) (x16 : List S166) (x17 x18 : List Int) (x19 x20 x21 x22 x23 x24 x25 x26 : Int) (x27 : List Int) (x28 x29 x30 : Int)
def id : X → Nat
 | .c2 .. => 2
def st : X → List (PV U)
 | .c2 x0 x1 x2 x3 x4 x5 x6 x7 x8 x9 x10 x11 x12 x13 x14 x15 x16 x17 x18 x19 x20 x21 x22 x23 x24 x25 x26 x27 x28 x29 x30 => stOf 26 [(2, .box [.sl 167 x0, .sl 3 x1, .sl 3 x2, .int .i64 x3, .int .i64 x4, .int .i64 x5, .int .i64 x6, .int .i64 x7, .int .i64 x8, .int .i64 x9, .int .i64 x10, .sl 3 x11, .int .i64 x12]), (3, .box [.int .i64 x13, .int .i64 x14, .int .i64 x15]), (4, .box [.own true 167 x16, .own true 3 x17, .own true 3 x18, .int .i64 x19, .int .i64 x20, .int .i64 x21, .int .i64 x22, .int .i64 x23, .int .i64 x24, .int .i64 x25, .int .i64 x26, .own true 3 x27, .int .i64 x28]), (9, .int .i64 x29), (10, .int .i64 x30)]
def begin (a0 : List S166) (a1 a2 : List Int) (a3 a4 a5 a6 a7 a8 a9 a10 : Int) (a11 : List Int) (a12 a13 a14 a15 : Int) : Tr X A :=
 .jump (.c2 a0 a1 a2 a3 a4 a5 a6 a7 a8 a9 a10 a11 a12 a13 a14 a15 ([] : List S166) ([] : List Int) ([] : List Int) (0 : Int) (0 : Int) (0 : Int) (0 : Int) (0 : Int) (0 : Int) (0 : Int) (0 : Int) ([] : List Int) (0 : Int) a14 (0 : Int))
def tree : X → Tr X A
 | .c2 x0 x1 x2 x3 x4 x5 x6 x7 x8 x9 x10 x11 x12 x13 x14 x15 x16 x17 x18 x19 x20 x21 x22 x23 x24 x25 x26 x27 x28 x29 x30 =>
 let u0_0 : Tr X A := (.last (.ret (x0, x1, x2, x3, x4, x5, x6, x7, x8, x9, x10, x11, x12, x12))); .ite (decide (x30 < x29))
  (.call (impl_TickNode.told x0 x1 x2 x3 x4 x5 x6 x7 x8 x9 x10 x11 x12 x15) fun t1 => let u1_0 : Tr X A := (u0_0); .ite (!t1.2.2.2.2.2.2.2.2.2.2.2.2.2)
   (.both (u1_0)
    (u1_0))
   (.jump (.c2 t1.1 t1.2.1 t1.2.2.1 t1.2.2.2.1 t1.2.2.2.2.1 t1.2.2.2.2.2.1 t1.2.2.2.2.2.2.1 t1.2.2.2.2.2.2.2.1 t1.2.2.2.2.2.2.2.2.1 t1.2.2.2.2.2.2.2.2.2.1 t1.2.2.2.2.2.2.2.2.2.2.1 t1.2.2.2.2.2.2.2.2.2.2.2.1 t1.2.2.2.2.2.2.2.2.2.2.2.2.1 x13 x14 x15 x16 x17 x18 x19 x20 x21 x22 x23 x24 x25 x26 x27 x28 x29 (wr (x30 + (1 : Int))))))
  (.both (u0_0)
   (u0_0))
def f (a0 : List S166) (a1 a2 : List Int) (a3 a4 a5 a6 a7 a8 a9 a10 : Int) (a11 : List Int) (a12 a13 a14 a15 : Int) : Option A := (begin a0 a1 a2 a3 a4 a5 a6 a7 a8 a9 a10 a11 a12 a13 a14 a15).run (lp tree)
def Q : Plan C := { PL with cuts := [(2, [2, 3, 4, 9, 10])], ords := [(7, [3], (.take 1 [] (.take 0 [1, 2] (.alt 2 (.alt 3 (.take 4 [] .done) .nil) (.alt 3 (.take 2 [0, 1, 3] (.take 4 [] .done)) .nil)))))], weak := [(2, [(2, [0]), (2, [1]), (2, [2]), (2, [11])]), (2000002, [])] }
theorem e : CutEq Pg C Q Tryz.f221 0 id st v o tree := fun J K x => by cases x <;> kernel_rfl
theorem b (a0 : List S166) (a1 a2 : List Int) (a3 a4 a5 a6 a7 a8 a9 a10 : Int) (a11 : List Int) (a12 a13 a14 a15 : Int) : BegEq Pg C Q Tryz.f221 0 id st v o (S a0 a1 a2 a3 a4 a5 a6 a7 a8 a9 a10 a11 a12 a13 a14 a15) (begin a0 a1 a2 a3 a4 a5 a6 a7 a8 a9 a10 a11 a12 a13 a14 a15) := fun J K => by kernel_rfl
def told (a0 : List S166) (a1 a2 : List Int) (a3 a4 a5 a6 a7 a8 a9 a10 : Int) (a11 : List Int) (a12 a13 a14 a15 : Int) : YtobfemcobakeoaaGreatEv.Told A := ⟨f a0 a1 a2 a3 a4 a5 a6 a7 a8 a9 a10 a11 a12 a13 a14 a15, fun r => SoundCall Pg C 221 (S a0 a1 a2 a3 a4 a5 a6 a7 a8 a9 a10 a11 a12 a13 a14 a15) 0 (v r) (o r), fun r h => soundCall_of_tree G mixed Q Tryz.func221 rfl (of_decide_eq_true (by kernel_rfl)) (by rfl) id st v o (fun _ => rfl) tree e (begin a0 a1 a2 a3 a4 a5 a6 a7 a8 a9 a10 a11 a12 a13 a14 a15) (b a0 a1 a2 a3 a4 a5 a6 a7 a8 a9 a10 a11 a12 a13 a14 a15) h⟩
end impl_ticks
/-! #### loop.example/g00983/impl.Uncertainty (222) -/
namespace impl_Uncertainty
def S (a0 a1 : Int) : List (PV U) := YtobfemcobakeoaaGreatEv.start C 11 [.agg [.int .i64 a0, .int .i64 a1]] []
abbrev X := Empty
def id : X → Nat := fun _ => 0
def st : X → List (PV U) := fun _ => []
def begin (a0 a1 : Int) : Tr X A :=
 .call (impl_SpanOk.told a0 a1) fun t1 => .ite (!t1)
  (.ret ((-1 : Int)))
  (.ret ((wr (a1 - a0))))
def tree : X → Tr X A := fun _ => .fail
def f (a0 a1 : Int) : Option A := (begin a0 a1).run (lp tree)
def Q : Plan C := { PL with cuts := [], ords := [], weak := [] }
theorem e : CutEq Pg C Q Tryz.f222 0 id st v o tree := fun J K x => by cases x
theorem b (a0 a1 : Int) : BegEq Pg C Q Tryz.f222 0 id st v o (S a0 a1) (begin a0 a1) := fun J K => by kernel_rfl
def told (a0 a1 : Int) : YtobfemcobakeoaaGreatEv.Told A := ⟨f a0 a1, fun r => SoundCall Pg C 222 (S a0 a1) 0 (v r) (o r), fun r h => soundCall_of_tree G mixed Q Tryz.func222 rfl (of_decide_eq_true (by kernel_rfl)) (by rfl) id st v o (fun _ => rfl) tree e (begin a0 a1) (b a0 a1) h⟩
end impl_Uncertainty
/-! #### math/bits.Mul64 (258) -/
namespace bits_Mul64
def S (a0 a1 : Int) : List (PV U) := YtobfemcobakeoaaGreatEv.start C 51 [.int .u64 a0, .int .u64 a1] []
abbrev X := Empty
def id : X → Nat := fun _ => 0
def st : X → List (PV U) := fun _ => []
def begin (a0 a1 : Int) : Tr X A :=
 .need ((0 : Int) ≤ (32 : Int)) (.need ((0 : Int) ≤ (32 : Int)) (.val ((IntKind.wrap .u64 ((bitAnd .u64 a0 (4294967295 : Int)) * (bitAnd .u64 a1 (4294967295 : Int)))) : Int) fun v1 => .need ((0 : Int) ≤ (32 : Int)) (.val ((IntKind.wrap .u64 ((IntKind.wrap .u64 ((shiftDown .u64 a0 (32 : Int)) * (bitAnd .u64 a1 (4294967295 : Int)))) + (shiftDown .u64 v1 (32 : Int)))) : Int) fun v2 => .need ((0 : Int) ≤ (32 : Int)) (.val ((IntKind.wrap .u64 ((bitAnd .u64 v2 (4294967295 : Int)) + (IntKind.wrap .u64 ((bitAnd .u64 a0 (4294967295 : Int)) * (shiftDown .u64 a1 (32 : Int)))))) : Int) fun v3 => .val ((IntKind.wrap .u64 ((IntKind.wrap .u64 ((shiftDown .u64 a0 (32 : Int)) * (shiftDown .u64 a1 (32 : Int)))) + (shiftDown .u64 v2 (32 : Int)))) : Int) fun v4 => .need ((0 : Int) ≤ (32 : Int)) (.ret ((IntKind.wrap .u64 (v4 + (shiftDown .u64 v3 (32 : Int)))), (IntKind.wrap .u64 (a0 * a1))))))))
def tree : X → Tr X A := fun _ => .fail
def f (a0 a1 : Int) : Option A := (begin a0 a1).run (lp tree)
def Q : Plan C := { PL with cuts := [], ords := [], weak := [] }
theorem e : CutEq Pg C Q Tryz.f258 0 id st v o tree := fun J K x => by cases x
theorem b (a0 a1 : Int) : BegEq Pg C Q Tryz.f258 0 id st v o (S a0 a1) (begin a0 a1) := fun J K => by kernel_rfl
def told (a0 a1 : Int) : YtobfemcobakeoaaGreatEv.Told A := ⟨f a0 a1, fun r => SoundCall Pg C 258 (S a0 a1) 0 (v r) (o r), fun r h => soundCall_of_tree G mixed Q Tryz.func258 rfl (of_decide_eq_true (by kernel_rfl)) (by rfl) id st v o (fun _ => rfl) tree e (begin a0 a1) (b a0 a1) h⟩
end bits_Mul64
/-! #### math/bits.Mul (243) -/
namespace bits_Mul
def S (a0 a1 : Int) : List (PV U) := YtobfemcobakeoaaGreatEv.start C 30 [.int .u64 a0, .int .u64 a1] []
abbrev X := Empty
def id : X → Nat := fun _ => 0
def st : X → List (PV U) := fun _ => []
def begin (a0 a1 : Int) : Tr X A :=
 .call (bits_Mul64.told a0 a1) fun t1 => .ret (t1.1, t1.2)
def tree : X → Tr X A := fun _ => .fail
def f (a0 a1 : Int) : Option A := (begin a0 a1).run (lp tree)
def Q : Plan C := { PL with cuts := [], ords := [], weak := [] }
theorem e : CutEq Pg C Q Tryz.f243 0 id st v o tree := fun J K x => by cases x
theorem b (a0 a1 : Int) : BegEq Pg C Q Tryz.f243 0 id st v o (S a0 a1) (begin a0 a1) := fun J K => by kernel_rfl
def told (a0 a1 : Int) : YtobfemcobakeoaaGreatEv.Told A := ⟨f a0 a1, fun r => SoundCall Pg C 243 (S a0 a1) 0 (v r) (o r), fun r h => soundCall_of_tree G mixed Q Tryz.func243 rfl (of_decide_eq_true (by kernel_rfl)) (by rfl) id st v o (fun _ => rfl) tree e (begin a0 a1) (b a0 a1) h⟩
end bits_Mul
/-! #### slices.Repeat[[]bool,bool] (223) -/
namespace slices_Repeat_bool
def S (a0 : List Bool) (a1 : Int) : List (PV U) := YtobfemcobakeoaaGreatEv.start C 48 [.sl 4 a0, .int .i64 a1] []
inductive X where
 | c8 (x0 : List Bool) (x1 : Int)
def id : X → Nat
 | .c8 .. => 8
def st : X → List (PV U)
 | .c8 x0 x1 => stOf 48 [(7, .own true 4 x0), (8, .int .i64 x1)]
def begin (a0 : List Bool) (a1 : Int) : Tr X A :=
 .ite (decide (a1 < (0 : Int)))
  (.fail)
  (.call (bits_Mul.told (IntKind.wrap .u64 (List.length a0 : Int)) (IntKind.wrap .u64 a1)) fun t1 => .ite (decide (t1.1 > (0 : Int)))
   (.fail)
   (.ite (decide (t1.2 > (9223372036854775807 : Int)))
    (.fail)
    (.need ((0 : Int) ≤ (wr t1.2) ∧ (wr t1.2) ≤ (wr t1.2) ∧ (wr t1.2) * (1 : Nat) ≤ room) (.ite (List.isEmpty (List.replicate (Int.toNat (wr t1.2)) false))
     (.jump (.c8 (List.replicate (Int.toNat (wr t1.2)) false) (0 : Int)))
     (.need ((0 : Int) < (List.length (List.replicate (Int.toNat (wr t1.2)) false) : Int) ∧ (0 : Int) < (List.length a0 : Int)) (.val ((List.take (List.length (List.replicate (Int.toNat (wr t1.2)) false)) a0 ++ List.drop (List.length a0) (List.replicate (Int.toNat (wr t1.2)) false)) : List Bool) fun v2 => .val ((if (List.length a0 : Int) < (List.length (List.replicate (Int.toNat (wr t1.2)) false) : Int) then (List.length a0 : Int) else (List.length (List.replicate (Int.toNat (wr t1.2)) false) : Int)) : Int) fun v3 => .jump (.c8 v2 v3)))))))
def tree : X → Tr X A
 | .c8 x0 x1 =>
 let u0_0 : Tr X A := (.last (.val ((List.take (Int.toNat x1) x0 ++ (List.take ((Int.toNat (List.length x0 : Int)) - (Int.toNat x1)) (List.drop (Int.toNat (0 : Int)) (List.take (Int.toNat x1) x0)) ++ List.drop ((Int.toNat x1) + Int.toNat (if x1 - (0 : Int) < (List.length x0 : Int) - x1 then x1 - (0 : Int) else (List.length x0 : Int) - x1)) x0)) : List Bool) fun v1 => .val ((if x1 - (0 : Int) < (List.length x0 : Int) - x1 then x1 - (0 : Int) else (List.length x0 : Int) - x1) : Int) fun v2 => .jump (.c8 v1 (wr (x1 + v2))))); .ite (decide (x1 < (List.length x0 : Int)))
  (.both (.need ((0 : Int) ≤ x1 ∧ x1 < (List.length x0 : Int) ∧ (List.length x0 : Int) ≤ (List.length x0 : Int)) (.last (.need ((0 : Int) ≤ (0 : Int) ∧ (0 : Int) < x1 ∧ x1 ≤ (List.length x0 : Int)) (u0_0))))
   (.last (.need ((0 : Int) ≤ (0 : Int) ∧ (0 : Int) < x1 ∧ x1 ≤ (List.length x0 : Int)) (.last (.need ((0 : Int) ≤ x1 ∧ x1 < (List.length x0 : Int) ∧ (List.length x0 : Int) ≤ (List.length x0 : Int)) (u0_0))))))
  (.ret x0)
def f (a0 : List Bool) (a1 : Int) : Option A := (begin a0 a1).run (lp tree)
def Q : Plan C := { PL with cuts := [(8, [7, 8])], ords := [(9, [3, 6, 7], (.take 0 [] (.take 1 [] (.take 2 [] (.take 4 [] (.take 5 [] (.alt 3 (.alt 6 (.alt 7 (.take 8 [] (.take 9 [] .done)) .nil) .nil) (.alt 6 (.alt 3 (.alt 7 (.take 8 [] (.take 9 [] .done)) .nil) .nil) .nil))))))))], weak := [] }
theorem e : CutEq Pg C Q Tryz.f223 0 id st v o tree := fun J K x => by cases x <;> kernel_rfl
theorem b (a0 : List Bool) (a1 : Int) : BegEq Pg C Q Tryz.f223 0 id st v o (S a0 a1) (begin a0 a1) := fun J K => by kernel_rfl
def told (a0 : List Bool) (a1 : Int) : YtobfemcobakeoaaGreatEv.Told A := ⟨f a0 a1, fun r => SoundCall Pg C 223 (S a0 a1) 0 (v r) (o r), fun r h => soundCall_of_tree G mixed Q Tryz.func223 rfl (of_decide_eq_true (by kernel_rfl)) (by rfl) id st v o (fun _ => rfl) tree e (begin a0 a1) (b a0 a1) h⟩
end slices_Repeat_bool
/-! #### loop.example/g00983/impl.PacketsOf (165) -/
namespace impl_PacketsOf
def S (a0 : List Int) (a1 : Int) : List (PV U) := YtobfemcobakeoaaGreatEv.start C 33 [.sl 3 a0, .int .i64 a1] []
inductive X where
 | c6 (x0 : List Int) (x1 : List S217) (x2 : Int)
def id : X → Nat
 | .c6 .. => 6
def st : X → List (PV U)
 | .c6 x0 x1 x2 => stOf 33 [(5, .own true 3 x0), (6, .own true 218 x1), (7, .int .i64 x2)]
def begin (a0 : List Int) (a1 : Int) : Tr X A :=
 .call (impl_MemSent.told a0) fun t1 => .call (impl_within.told a1 (0 : Int) (List.length t1 : Int)) fun t2 => .ite (!t2)
  (.ret (([] : List S217)))
  (.jump (.c6 t1 ([] : List S217) a1))
def tree : X → Tr X A
 | .c6 x0 x1 x2 =>
 .ite (decide (x2 < (List.length x0 : Int)))
  (.need ((0 : Int) ≤ x2 ∧ x2 < (List.length x0 : Int)) (.need (((List.length x1 : Int) + (List.length ([(⟨x2, (rdI x0 x2)⟩ : S217)]) : Int)) * (16 : Nat) ≤ room) (.jump (.c6 x0 (x1 ++ [(⟨x2, (rdI x0 x2)⟩ : S217)]) (wr (x2 + (1 : Int)))))))
  (.ret x1)
def f (a0 : List Int) (a1 : Int) : Option A := (begin a0 a1).run (lp tree)
def Q : Plan C := { PL with cuts := [(6, [5, 6, 7])], ords := [], weak := [] }
theorem e : CutEq Pg C Q Tryz.f165 0 id st v o tree := fun J K x => by cases x <;> kernel_rfl
theorem b (a0 : List Int) (a1 : Int) : BegEq Pg C Q Tryz.f165 0 id st v o (S a0 a1) (begin a0 a1) := fun J K => by kernel_rfl
def told (a0 : List Int) (a1 : Int) : YtobfemcobakeoaaGreatEv.Told A := ⟨f a0 a1, fun r => SoundCall Pg C 165 (S a0 a1) 0 (v r) (o r), fun r h => soundCall_of_tree G mixed Q Tryz.func165 rfl (of_decide_eq_true (by kernel_rfl)) (by rfl) id st v o (fun _ => rfl) tree e (begin a0 a1) (b a0 a1) h⟩
end impl_PacketsOf
/-! #### loop.example/g00983/impl.Receive (210) -/
namespace impl_Receive
def S (a0 : List Int) (a1 a2 : Int) : List (PV U) := YtobfemcobakeoaaGreatEv.start C 34 [.agg [.sl 3 a0], .agg [.int .i64 a1, .int .i64 a2]] []
abbrev X := Empty
def id : X → Nat := fun _ => 0
def st : X → List (PV U) := fun _ => []
def begin (a0 : List Int) (a1 a2 : Int) : Tr X A :=
 .call (slices_Clone_int.told a0) fun t1 => let u1_0 : Tr X A := (.last (.ret ((t1 ++ [a2]), (List.length (t1 ++ [a2]) : Int)))); let u1_1 : Tr X A := (.both (.last (.ret (t1, (List.length t1 : Int)))) (.last (.ret (t1, (List.length t1 : Int))))); .ite (decide (a1 = (List.length a0 : Int)))
  (.ite (decide ((List.length a0 : Int) < (255 : Int)))
   (.need (((List.length t1 : Int) + (List.length ([a2]) : Int)) * (8 : Nat) ≤ room) (.both (u1_0)
    (u1_0)))
   (u1_1))
  (u1_1)
def tree : X → Tr X A := fun _ => .fail
def f (a0 : List Int) (a1 a2 : Int) : Option A := (begin a0 a1 a2).run (lp tree)
def Q : Plan C := { PL with cuts := [], ords := [(4, [4], (.take 1 [] (.take 0 [1, 2, 3] (.alt 2 (.take 3 [] (.alt 4 (.take 5 [] .done) .nil)) (.alt 4 (.take 2 [0, 1, 4] (.take 3 [] (.take 5 [] .done))) .nil)))))], weak := [] }
theorem e : CutEq Pg C Q Tryz.f210 0 id st v o tree := fun J K x => by cases x
theorem b (a0 : List Int) (a1 a2 : Int) : BegEq Pg C Q Tryz.f210 0 id st v o (S a0 a1 a2) (begin a0 a1 a2) := fun J K => by kernel_rfl
def told (a0 : List Int) (a1 a2 : Int) : YtobfemcobakeoaaGreatEv.Told A := ⟨f a0 a1 a2, fun r => SoundCall Pg C 210 (S a0 a1 a2) 0 (v r) (o r), fun r h => soundCall_of_tree G mixed Q Tryz.func210 rfl (of_decide_eq_true (by kernel_rfl)) (by rfl) id st v o (fun _ => rfl) tree e (begin a0 a1 a2) (b a0 a1 a2) h⟩
end impl_Receive
/-! #### loop.example/g00983/impl.ReceiveAll (164) -/
namespace impl_ReceiveAll
def S (a0 : List Int) (a1 : List S217) (a2 : List Bool) : List (PV U) := YtobfemcobakeoaaGreatEv.start C 43 [.agg [.sl 3 a0], .sl 218 a1, .sl 4 a2] []
inductive X where
 | c3 (x0 : List Bool) (x1 x2 : List Int) (x3 : List S217) (x4 x5 : Int)
def id : X → Nat
 | .c3 .. => 3
def st : X → List (PV U)
 | .c3 x0 x1 x2 x3 x4 x5 => stOf 43 [(2, .sl 4 x0), (6, .box [.own true 3 x1]), (8, .box [.own true 3 x2]), (15, .sl 218 x3), (16, .int .i64 x4), (17, .int .i64 x5)]
def begin (a0 : List Int) (a1 : List S217) (a2 : List Bool) : Tr X A :=
 .call (slices_Clone_int.told a0) fun t1 => .jump (.c3 a2 ([] : List Int) t1 a1 (List.length a1 : Int) (0 : Int))
def tree : X → Tr X A
 | .c3 x0 x1 x2 x3 x4 x5 =>
 let u0_0 : Tr X A := (.jump (.c3 x0 x1 x2 x3 x4 (wr (x5 + (1 : Int))))); .ite (decide (x5 < x4))
  (.need ((0 : Int) ≤ x5 ∧ x5 < (List.length x3 : Int)) (.ite (decide (x5 < (List.length x0 : Int)))
   (.need ((0 : Int) ≤ x5 ∧ x5 < (List.length x0 : Int)) (.ite (rdB x0 x5)
    (.call (impl_Receive.told x2 ((rdS217 x3 x5).f0) ((rdS217 x3 x5).f1)) fun t1 => .jump (.c3 x0 x1 t1.1 x3 x4 (wr (x5 + (1 : Int)))))
    (u0_0)))
   (u0_0)))
  (.both (.last (.ret (x2, (List.length x2 : Int))))
   (.last (.ret (x2, (List.length x2 : Int)))))
def f (a0 : List Int) (a1 : List S217) (a2 : List Bool) : Option A := (begin a0 a1 a2).run (lp tree)
def Q : Plan C := { PL with cuts := [(3, [2, 6, 8, 15, 16, 17])], ords := [(8, [4], (.take 1 [] (.take 0 [1, 2, 3] (.alt 2 (.take 3 [] (.alt 4 (.take 5 [] .done) .nil)) (.alt 4 (.take 2 [0, 1, 4] (.take 3 [] (.take 5 [] .done))) .nil)))))], weak := [] }
theorem e : CutEq Pg C Q Tryz.f164 0 id st v o tree := fun J K x => by cases x <;> kernel_rfl
theorem b (a0 : List Int) (a1 : List S217) (a2 : List Bool) : BegEq Pg C Q Tryz.f164 0 id st v o (S a0 a1 a2) (begin a0 a1 a2) := fun J K => by kernel_rfl
def told (a0 : List Int) (a1 : List S217) (a2 : List Bool) : YtobfemcobakeoaaGreatEv.Told A := ⟨f a0 a1 a2, fun r => SoundCall Pg C 164 (S a0 a1 a2) 0 (v r) (o r), fun r h => soundCall_of_tree G mixed Q Tryz.func164 rfl (of_decide_eq_true (by kernel_rfl)) (by rfl) id st v o (fun _ => rfl) tree e (begin a0 a1 a2) (b a0 a1 a2) h⟩
end impl_ReceiveAll
/-! #### loop.example/g00983/impl.SendRound (92) -/
namespace impl_SendRound
def S (a0 : List Int) (a1 : Int) (a2 : List Int) (a3 : List Bool) (a4 : Bool) : List (PV U) := YtobfemcobakeoaaGreatEv.start C 37 [.sl 3 a0, .agg [.int .i64 a1, .sl 3 a2], .sl 4 a3, .bool a4] []
abbrev X := Empty
def id : X → Nat := fun _ => 0
def st : X → List (PV U) := fun _ => []
def begin (a0 : List Int) (a1 : Int) (a2 : List Int) (a3 : List Bool) (a4 : Bool) : Tr X A :=
 .call (impl_copyLink.told a1 a2) fun t1 => .call (impl_LinkOk.told a0 a1 a2) fun t2 => .ite (!t2)
  (.ret (t1.1, t1.2, false))
  (.both (.call (impl_PacketsOf.told a0 a1) fun t3 => .both (.call (impl_ReceiveAll.told a2 t3 a3) fun t4 => .last (.last (.ite a4
     (.ret (t4.2, t4.1, true))
     (.ret (t1.1, t4.1, true)))))
    (.last (.last (.call (impl_ReceiveAll.told a2 t3 a3) fun t4 => .last (.ite a4
     (.ret (t4.2, t4.1, true))
     (.ret (t1.1, t4.1, true)))))))
   (.last (.last (.call (impl_PacketsOf.told a0 a1) fun t3 => .last (.call (impl_ReceiveAll.told a2 t3 a3) fun t4 => .last (.ite a4
    (.ret (t4.2, t4.1, true))
    (.ret (t1.1, t4.1, true))))))))
def tree : X → Tr X A := fun _ => .fail
def f (a0 : List Int) (a1 : Int) (a2 : List Int) (a3 : List Bool) (a4 : Bool) : Option A := (begin a0 a1 a2 a3 a4).run (lp tree)
def Q : Plan C := { PL with cuts := [], ords := [(4, [12], (.take 0 [] (.take 2 [] (.take 3 [] (.take 6 [] (.take 1 [0, 2, 3, 4, 5, 6, 11] (.take 4 [0, 1, 2, 3, 6, 11] (.alt 5 (.alt 7 (.take 8 [] (.take 9 [] (.take 10 [] (.alt 11 (.alt 12 (.take 13 [] .done) .nil) .nil)))) (.alt 11 (.alt 7 (.take 8 [] (.take 9 [] (.take 10 [] (.alt 12 (.take 13 [] .done) .nil)))) .nil) .nil)) (.alt 11 (.alt 5 (.alt 7 (.take 8 [] (.take 9 [] (.take 10 [] (.alt 12 (.take 13 [] .done) .nil)))) .nil) .nil) .nil)))))))))], weak := [] }
theorem e : CutEq Pg C Q Tryz.f92 0 id st v o tree := fun J K x => by cases x
theorem b (a0 : List Int) (a1 : Int) (a2 : List Int) (a3 : List Bool) (a4 : Bool) : BegEq Pg C Q Tryz.f92 0 id st v o (S a0 a1 a2 a3 a4) (begin a0 a1 a2 a3 a4) := fun J K => by kernel_rfl
def told (a0 : List Int) (a1 : Int) (a2 : List Int) (a3 : List Bool) (a4 : Bool) : YtobfemcobakeoaaGreatEv.Told A := ⟨f a0 a1 a2 a3 a4, fun r => SoundCall Pg C 92 (S a0 a1 a2 a3 a4) 0 (v r) (o r), fun r h => soundCall_of_tree G mixed Q Tryz.func92 rfl (of_decide_eq_true (by kernel_rfl)) (by rfl) id st v o (fun _ => rfl) tree e (begin a0 a1 a2 a3 a4) (b a0 a1 a2 a3 a4) h⟩
end impl_SendRound
/-! #### loop.example/g00983/impl.Uplink (30) -/
namespace impl_Uplink
def S (a0 : List S166) (a1 a2 : List Int) (a3 a4 a5 a6 a7 a8 a9 a10 : Int) (a11 : List Int) (a12 : Int) (a13 : List Bool) (a14 : Bool) : List (PV U) := YtobfemcobakeoaaGreatEv.start C 27 [.agg [.sl 167 a0, .sl 3 a1, .sl 3 a2, .int .i64 a3, .int .i64 a4, .int .i64 a5, .int .i64 a6, .int .i64 a7, .int .i64 a8, .int .i64 a9, .int .i64 a10, .sl 3 a11, .int .i64 a12], .sl 4 a13, .bool a14] []
abbrev X := Empty
def id : X → Nat := fun _ => 0
def st : X → List (PV U) := fun _ => []
def begin (a0 : List S166) (a1 a2 : List Int) (a3 a4 a5 a6 a7 a8 a9 a10 : Int) (a11 : List Int) (a12 : Int) (a13 : List Bool) (a14 : Bool) : Tr X A :=
 .call (impl_copyNode.told a0 a1 a2 a3 a4 a5 a6 a7 a8 a9 a10 a11 a12) fun t1 => .call (impl_NodeOk.told a0 a1 a2 a3 a4 a5 a6 a7 a8 a9 a10 a11 a12) fun t2 => .ite (!t2)
  (.ret (t1.1, t1.2.1, t1.2.2.1, t1.2.2.2.1, t1.2.2.2.2.1, t1.2.2.2.2.2.1, t1.2.2.2.2.2.2.1, t1.2.2.2.2.2.2.2.1, t1.2.2.2.2.2.2.2.2.1, t1.2.2.2.2.2.2.2.2.2.1, t1.2.2.2.2.2.2.2.2.2.2.1, t1.2.2.2.2.2.2.2.2.2.2.2.1, t1.2.2.2.2.2.2.2.2.2.2.2.2, false))
  (.call (impl_SendRound.told a1 a10 a11 a13 a14) fun t3 => .ret (t1.1, t1.2.1, t1.2.2.1, t1.2.2.2.1, t1.2.2.2.2.1, t1.2.2.2.2.2.1, t1.2.2.2.2.2.2.1, t1.2.2.2.2.2.2.2.1, t1.2.2.2.2.2.2.2.2.1, t1.2.2.2.2.2.2.2.2.2.1, t3.1, t3.2.1, t1.2.2.2.2.2.2.2.2.2.2.2.2, true))
def tree : X → Tr X A := fun _ => .fail
def f (a0 : List S166) (a1 a2 : List Int) (a3 a4 a5 a6 a7 a8 a9 a10 : Int) (a11 : List Int) (a12 : Int) (a13 : List Bool) (a14 : Bool) : Option A := (begin a0 a1 a2 a3 a4 a5 a6 a7 a8 a9 a10 a11 a12 a13 a14).run (lp tree)
def Q : Plan C := { PL with cuts := [], ords := [], weak := [] }
theorem e : CutEq Pg C Q Tryz.f30 0 id st v o tree := fun J K x => by cases x
theorem b (a0 : List S166) (a1 a2 : List Int) (a3 a4 a5 a6 a7 a8 a9 a10 : Int) (a11 : List Int) (a12 : Int) (a13 : List Bool) (a14 : Bool) : BegEq Pg C Q Tryz.f30 0 id st v o (S a0 a1 a2 a3 a4 a5 a6 a7 a8 a9 a10 a11 a12 a13 a14) (begin a0 a1 a2 a3 a4 a5 a6 a7 a8 a9 a10 a11 a12 a13 a14) := fun J K => by kernel_rfl
def told (a0 : List S166) (a1 a2 : List Int) (a3 a4 a5 a6 a7 a8 a9 a10 : Int) (a11 : List Int) (a12 : Int) (a13 : List Bool) (a14 : Bool) : YtobfemcobakeoaaGreatEv.Told A := ⟨f a0 a1 a2 a3 a4 a5 a6 a7 a8 a9 a10 a11 a12 a13 a14, fun r => SoundCall Pg C 30 (S a0 a1 a2 a3 a4 a5 a6 a7 a8 a9 a10 a11 a12 a13 a14) 0 (v r) (o r), fun r h => soundCall_of_tree G mixed Q Tryz.func30 rfl (of_decide_eq_true (by kernel_rfl)) (by rfl) id st v o (fun _ => rfl) tree e (begin a0 a1 a2 a3 a4 a5 a6 a7 a8 a9 a10 a11 a12 a13 a14) (b a0 a1 a2 a3 a4 a5 a6 a7 a8 a9 a10 a11 a12 a13 a14) h⟩
end impl_Uplink
/-! #### loop.example/g00983/impl.Synchronize (224) -/
namespace impl_Synchronize
def S (a0 a1 a2 a3 : Int) : List (PV U) := YtobfemcobakeoaaGreatEv.start C 33 [.agg [.int .i64 a0, .int .i64 a1], .agg [.int .i64 a2, .int .i64 a3]] []
abbrev X := Empty
def id : X → Nat := fun _ => 0
def st : X → List (PV U) := fun _ => []
def begin (a0 a1 a2 a3 : Int) : Tr X A :=
 .call (impl_SpanOk.told a0 a1) fun t1 => .ite (!t1)
  (.ret (a0, a1, false))
  (.call (impl_SpanOk.told a2 a3) fun t2 => .ite (!t2)
   (.ret (a0, a1, false))
   (.call (impl_SpanOk.told (if a2 > a0 then a2 else a0) (if a3 < a1 then a3 else a1)) fun t3 => .ite (!t3)
    (.ret (a0, a1, false))
    (.ret ((if a2 > a0 then a2 else a0), (if a3 < a1 then a3 else a1), true))))
def tree : X → Tr X A := fun _ => .fail
def f (a0 a1 a2 a3 : Int) : Option A := (begin a0 a1 a2 a3).run (lp tree)
def Q : Plan C := { PL with cuts := [], ords := [], weak := [] }
theorem e : CutEq Pg C Q Tryz.f224 0 id st v o tree := fun J K x => by cases x
theorem b (a0 a1 a2 a3 : Int) : BegEq Pg C Q Tryz.f224 0 id st v o (S a0 a1 a2 a3) (begin a0 a1 a2 a3) := fun J K => by kernel_rfl
def told (a0 a1 a2 a3 : Int) : YtobfemcobakeoaaGreatEv.Told A := ⟨f a0 a1 a2 a3, fun r => SoundCall Pg C 224 (S a0 a1 a2 a3) 0 (v r) (o r), fun r h => soundCall_of_tree G mixed Q Tryz.func224 rfl (of_decide_eq_true (by kernel_rfl)) (by rfl) id st v o (fun _ => rfl) tree e (begin a0 a1 a2 a3) (b a0 a1 a2 a3) h⟩
end impl_Synchronize
/-! #### loop.example/g00983/impl.do (193) -/
namespace impl_do
def S (a0 : List S166) (a1 a2 : List Int) (a3 a4 a5 a6 a7 a8 a9 a10 : Int) (a11 : List Int) (a12 a13 a14 a15 : Int) : List (PV U) := YtobfemcobakeoaaGreatEv.start C 84 [.agg [.own true 167 a0, .own true 3 a1, .own true 3 a2, .int .i64 a3, .int .i64 a4, .int .i64 a5, .int .i64 a6, .int .i64 a7, .int .i64 a8, .int .i64 a9, .int .i64 a10, .own true 3 a11, .int .i64 a12], .agg [.int .i64 a13, .int .i64 a14, .int .i64 a15]] []
inductive X where
 | c9 (x0 : List S166) (x1 x2 : List Int) (x3 x4 x5 x6 x7 x8 x9 x10 : Int) (x11 : List Int) (x12 : Int) (x13 : List S166) (x14 x15 : List Int) (x16 x17 x18 x19 x20 x21 x22 x23 : Int) (x24 : List Int) (x25 : Int)
def id : X → Nat
 | .c9 .. => 9
def st : X → List (PV U)
 | .c9 x0 x1 x2 x3 x4 x5 x6 x7 x8 x9 x10 x11 x12 x13 x14 x15 x16 x17 x18 x19 x20 x21 x22 x23 x24 x25 => stOf 84 [(2, .box [.own true 167 x0, .own true 3 x1, .own true 3 x2, .int .i64 x3, .int .i64 x4, .int .i64 x5, .int .i64 x6, .int .i64 x7, .int .i64 x8, .int .i64 x9, .int .i64 x10, .own true 3 x11, .int .i64 x12]), (4, .box [.own true 167 x13, .own true 3 x14, .own true 3 x15, .int .i64 x16, .int .i64 x17, .int .i64 x18, .int .i64 x19, .int .i64 x20, .int .i64 x21, .int .i64 x22, .int .i64 x23, .own true 3 x24, .int .i64 x25])]
def begin (a0 : List S166) (a1 a2 : List Int) (a3 a4 a5 a6 a7 a8 a9 a10 : Int) (a11 : List Int) (a12 a13 a14 a15 : Int) : Tr X A :=
 let u0_0 : Tr X A := (.last (.ret (a0, a1, a2, a3, a4, a5, a6, a7, a8, a9, a10, a11, a12, (List.length a2 : Int)))); let u0_1 : Tr X A := (.last (.ret (a0, a1, (a2 ++ [a14]), a3, a4, a5, a6, a7, a8, a9, a10, a11, a12, (List.length (a2 ++ [a14]) : Int)))); let u0_2 : Tr X A := (.last (.call (slices_Repeat_bool.told ([true]) a14) fun t1 => .last (.call (impl_Uplink.told a0 a1 a2 a3 a4 a5 a6 a7 a8 a9 a10 a11 a12 t1 (decide (a15 = (1 : Int)))) fun t2 => .last (.jump (.c9 t2.1 t2.2.1 t2.2.2.1 t2.2.2.2.1 t2.2.2.2.2.1 t2.2.2.2.2.2.1 t2.2.2.2.2.2.2.1 t2.2.2.2.2.2.2.2.1 t2.2.2.2.2.2.2.2.2.1 t2.2.2.2.2.2.2.2.2.2.1 t2.2.2.2.2.2.2.2.2.2.2.1 t2.2.2.2.2.2.2.2.2.2.2.2.1 t2.2.2.2.2.2.2.2.2.2.2.2.2.1 ([] : List S166) ([] : List Int) ([] : List Int) (0 : Int) (0 : Int) (0 : Int) (0 : Int) (0 : Int) (0 : Int) (0 : Int) (0 : Int) ([] : List Int) (0 : Int)))))); let u0_3 : Tr X A := (.last (u0_2)); let u0_4 : Tr X A := (.both (u0_2) (.last (u0_3))); let u0_5 : Tr X A := (.both (u0_4) (.both (u0_2) (.last (.both (u0_3) (u0_3))))); .ite (decide (a13 = (1 : Int)))
  (.call (impl_ticks.told a0 a1 a2 a3 a4 a5 a6 a7 a8 a9 a10 a11 a12 a13 a14 a15) fun t1 => .ret (t1.1, t1.2.1, t1.2.2.1, t1.2.2.2.1, t1.2.2.2.2.1, t1.2.2.2.2.2.1, t1.2.2.2.2.2.2.1, t1.2.2.2.2.2.2.2.1, t1.2.2.2.2.2.2.2.2.1, t1.2.2.2.2.2.2.2.2.2.1, t1.2.2.2.2.2.2.2.2.2.2.1, t1.2.2.2.2.2.2.2.2.2.2.2.1, t1.2.2.2.2.2.2.2.2.2.2.2.2.1, t1.2.2.2.2.2.2.2.2.2.2.2.2.2))
  (.ite (decide (a13 = (2 : Int)))
   (.call (impl_PassOff.told a8 a9 a14 a15) fun t1 => .last (.call (impl_Uncertainty.told t1.1 t1.2) fun t2 => .last (.ret (a0, a1, a2, a3, a4, a5, a6, a7, t1.1, t1.2, a10, a11, a12, t2))))
   (.ite (decide (a13 = (3 : Int)))
    (.both (.both (u0_2)
      (.both (u0_4)
       (.last (u0_4))))
     (.both (u0_2)
      (.both (u0_5)
       (.last (u0_5)))))
    (.ite (decide (a13 = (4 : Int)))
     (.call (impl_Synchronize.told a8 a9 a14 a15) fun t1 => .last (.call (impl_bit.told t1.2.2) fun t2 => .last (.ret (a0, a1, a2, a3, a4, a5, a6, a7, t1.1, t1.2.1, a10, a11, a12, t2))))
     (.ite (decide ((List.length a2 : Int) < (100 : Int)))
      (.need (((List.length a2 : Int) + (List.length ([a14]) : Int)) * (8 : Nat) ≤ room) (.both (u0_1)
       (u0_1)))
      (.both (u0_0)
       (u0_0))))))
def tree : X → Tr X A
 | .c9 x0 x1 x2 x3 x4 x5 x6 x7 x8 x9 x10 x11 x12 x13 x14 x15 x16 x17 x18 x19 x20 x21 x22 x23 x24 x25 =>
 let u0_0 : Tr X A := (.last (.ret (x0, x1, x2, x3, x4, x5, x6, x7, x8, x9, x10, x11, x12, (List.length x11 : Int)))); .both (u0_0)
  (u0_0)
def f (a0 : List S166) (a1 a2 : List Int) (a3 a4 a5 a6 a7 a8 a9 a10 : Int) (a11 : List Int) (a12 a13 a14 a15 : Int) : Option A := (begin a0 a1 a2 a3 a4 a5 a6 a7 a8 a9 a10 a11 a12 a13 a14 a15).run (lp tree)
def Q : Plan C := { PL with cuts := [(9, [2, 4])], ords := [(6, [4], (.take 1 [] (.take 0 [1, 2, 3] (.take 2 [0, 1] (.alt 3 (.alt 4 (.take 5 [] .done) .nil) .nil))))), (8, [1, 12], (.take 2 [] (.take 5 [] (.alt 0 (.alt 1 (.take 3 [0, 1, 2, 5, 6, 7] (.take 6 [0, 1, 2, 3, 4, 5] (.take 7 [] (.alt 4 (.alt 8 (.take 9 [] (.take 10 [] (.take 11 [] (.alt 12 .done .nil)))) .nil) .nil)))) (.alt 3 (.alt 1 (.take 6 [0, 1, 2, 3, 4, 5] (.take 7 [] (.alt 4 (.alt 8 (.take 9 [] (.take 10 [] (.take 11 [] (.alt 12 .done .nil)))) .nil) .nil))) (.alt 6 (.take 7 [] (.alt 1 (.alt 4 (.alt 8 (.take 9 [] (.take 10 [] (.take 11 [] (.alt 12 .done .nil)))) .nil) .nil) .nil)) .nil)) (.alt 6 (.take 7 [] (.alt 1 (.take 3 [0, 1, 2, 5, 6, 7] (.alt 4 (.alt 8 (.take 9 [] (.take 10 [] (.take 11 [] (.alt 12 .done .nil)))) .nil) .nil)) (.alt 3 (.alt 1 (.alt 4 (.alt 8 (.take 9 [] (.take 10 [] (.take 11 [] (.alt 12 .done .nil)))) .nil) .nil) .nil) .nil))) .nil))) (.alt 1 (.take 0 [1, 2, 3, 4, 5, 6, 7] (.take 3 [0, 1, 2, 5, 6, 7] (.take 6 [0, 1, 2, 3, 4, 5] (.take 7 [] (.alt 4 (.alt 8 (.take 9 [] (.take 10 [] (.take 11 [] (.alt 12 .done .nil)))) .nil) .nil))))) (.alt 3 (.alt 0 (.alt 1 (.take 6 [0, 1, 2, 3, 4, 5] (.take 7 [] (.alt 4 (.alt 8 (.take 9 [] (.take 10 [] (.take 11 [] (.alt 12 .done .nil)))) .nil) .nil))) (.alt 6 (.take 7 [] (.alt 1 (.alt 4 (.alt 8 (.take 9 [] (.take 10 [] (.take 11 [] (.alt 12 .done .nil)))) .nil) .nil) .nil)) .nil)) (.alt 1 (.take 0 [1, 2, 3, 4, 5, 6, 7] (.take 6 [0, 1, 2, 3, 4, 5] (.take 7 [] (.alt 4 (.alt 8 (.take 9 [] (.take 10 [] (.take 11 [] (.alt 12 .done .nil)))) .nil) .nil)))) (.alt 6 (.take 7 [] (.alt 0 (.alt 1 (.alt 4 (.alt 8 (.take 9 [] (.take 10 [] (.take 11 [] (.alt 12 .done .nil)))) .nil) .nil) .nil) (.alt 1 (.take 0 [1, 2, 3, 4, 5, 6, 7] (.alt 4 (.alt 8 (.take 9 [] (.take 10 [] (.take 11 [] (.alt 12 .done .nil)))) .nil) .nil)) .nil))) .nil))) (.alt 6 (.take 7 [] (.alt 0 (.alt 1 (.take 3 [0, 1, 2, 5, 6, 7] (.alt 4 (.alt 8 (.take 9 [] (.take 10 [] (.take 11 [] (.alt 12 .done .nil)))) .nil) .nil)) (.alt 3 (.alt 1 (.alt 4 (.alt 8 (.take 9 [] (.take 10 [] (.take 11 [] (.alt 12 .done .nil)))) .nil) .nil) .nil) .nil)) (.alt 1 (.take 0 [1, 2, 3, 4, 5, 6, 7] (.take 3 [0, 1, 2, 5, 6, 7] (.alt 4 (.alt 8 (.take 9 [] (.take 10 [] (.take 11 [] (.alt 12 .done .nil)))) .nil) .nil))) (.alt 3 (.alt 0 (.alt 1 (.alt 4 (.alt 8 (.take 9 [] (.take 10 [] (.take 11 [] (.alt 12 .done .nil)))) .nil) .nil) .nil) (.alt 1 (.take 0 [1, 2, 3, 4, 5, 6, 7] (.alt 4 (.alt 8 (.take 9 [] (.take 10 [] (.take 11 [] (.alt 12 .done .nil)))) .nil) .nil)) .nil)) .nil)))) .nil))))))), (9, [6], (.take 1 [] (.take 2 [] (.take 3 [] (.take 0 [1, 2, 3, 4, 5] (.alt 4 (.take 5 [] (.alt 6 (.take 7 [] .done) .nil)) (.alt 6 (.take 4 [0, 1, 2, 3, 6] (.take 5 [] (.take 7 [] .done))) .nil))))))), (13, [3], (.take 1 [] (.take 0 [1, 2] (.alt 2 (.alt 3 (.take 4 [] .done) .nil) .nil)))), (16, [4], (.take 1 [] (.take 0 [1, 2, 3] (.alt 2 (.take 3 [] (.alt 4 (.take 5 [] .done) .nil)) (.alt 4 (.take 2 [0, 1, 4] (.take 3 [] (.take 5 [] .done))) .nil)))))], weak := [(1000000, [(4, [0]), (4, [1]), (4, [2]), (4, [11])]), (3000000, [])] }
theorem e : CutEq Pg C Q Tryz.f193 0 id st v o tree := fun J K x => by cases x <;> kernel_rfl
theorem b (a0 : List S166) (a1 a2 : List Int) (a3 a4 a5 a6 a7 a8 a9 a10 : Int) (a11 : List Int) (a12 a13 a14 a15 : Int) : BegEq Pg C Q Tryz.f193 0 id st v o (S a0 a1 a2 a3 a4 a5 a6 a7 a8 a9 a10 a11 a12 a13 a14 a15) (begin a0 a1 a2 a3 a4 a5 a6 a7 a8 a9 a10 a11 a12 a13 a14 a15) := fun J K => by kernel_rfl
def told (a0 : List S166) (a1 a2 : List Int) (a3 a4 a5 a6 a7 a8 a9 a10 : Int) (a11 : List Int) (a12 a13 a14 a15 : Int) : YtobfemcobakeoaaGreatEv.Told A := ⟨f a0 a1 a2 a3 a4 a5 a6 a7 a8 a9 a10 a11 a12 a13 a14 a15, fun r => SoundCall Pg C 193 (S a0 a1 a2 a3 a4 a5 a6 a7 a8 a9 a10 a11 a12 a13 a14 a15) 0 (v r) (o r), fun r h => soundCall_of_tree G mixed Q Tryz.func193 rfl (of_decide_eq_true (by kernel_rfl)) (by rfl) id st v o (fun _ => rfl) tree e (begin a0 a1 a2 a3 a4 a5 a6 a7 a8 a9 a10 a11 a12 a13 a14 a15) (b a0 a1 a2 a3 a4 a5 a6 a7 a8 a9 a10 a11 a12 a13 a14 a15) h⟩
end impl_do
/-! #### loop.example/g00983/impl.DoAct (133) -/
namespace impl_DoAct
def S (a0 : List S166) (a1 a2 : List Int) (a3 a4 a5 a6 a7 a8 a9 a10 : Int) (a11 : List Int) (a12 a13 a14 a15 : Int) : List (PV U) := YtobfemcobakeoaaGreatEv.start C 22 [.agg [.sl 167 a0, .sl 3 a1, .sl 3 a2, .int .i64 a3, .int .i64 a4, .int .i64 a5, .int .i64 a6, .int .i64 a7, .int .i64 a8, .int .i64 a9, .int .i64 a10, .sl 3 a11, .int .i64 a12], .agg [.int .i64 a13, .int .i64 a14, .int .i64 a15]] []
abbrev X := Empty
def id : X → Nat := fun _ => 0
def st : X → List (PV U) := fun _ => []
def begin (a0 : List S166) (a1 a2 : List Int) (a3 a4 a5 a6 a7 a8 a9 a10 : Int) (a11 : List Int) (a12 a13 a14 a15 : Int) : Tr X A :=
 .call (impl_NodeOk.told a0 a1 a2 a3 a4 a5 a6 a7 a8 a9 a10 a11 a12) fun t1 => .ite (!t1)
  (.call (impl_copyNode.told a0 a1 a2 a3 a4 a5 a6 a7 a8 a9 a10 a11 a12) fun t2 => .ret (t2.1, t2.2.1, t2.2.2.1, t2.2.2.2.1, t2.2.2.2.2.1, t2.2.2.2.2.2.1, t2.2.2.2.2.2.2.1, t2.2.2.2.2.2.2.2.1, t2.2.2.2.2.2.2.2.2.1, t2.2.2.2.2.2.2.2.2.2.1, t2.2.2.2.2.2.2.2.2.2.2.1, t2.2.2.2.2.2.2.2.2.2.2.2.1, t2.2.2.2.2.2.2.2.2.2.2.2.2, (-1 : Int)))
  (.call (impl_ActOk.told a13 a14 a15) fun t2 => .ite (!t2)
   (.call (impl_copyNode.told a0 a1 a2 a3 a4 a5 a6 a7 a8 a9 a10 a11 a12) fun t3 => .ret (t3.1, t3.2.1, t3.2.2.1, t3.2.2.2.1, t3.2.2.2.2.1, t3.2.2.2.2.2.1, t3.2.2.2.2.2.2.1, t3.2.2.2.2.2.2.2.1, t3.2.2.2.2.2.2.2.2.1, t3.2.2.2.2.2.2.2.2.2.1, t3.2.2.2.2.2.2.2.2.2.2.1, t3.2.2.2.2.2.2.2.2.2.2.2.1, t3.2.2.2.2.2.2.2.2.2.2.2.2, (-1 : Int)))
   (.last (.call (impl_copyNode.told a0 a1 a2 a3 a4 a5 a6 a7 a8 a9 a10 a11 a12) fun t3 => .last (.call (impl_do.told t3.1 t3.2.1 t3.2.2.1 t3.2.2.2.1 t3.2.2.2.2.1 t3.2.2.2.2.2.1 t3.2.2.2.2.2.2.1 t3.2.2.2.2.2.2.2.1 t3.2.2.2.2.2.2.2.2.1 t3.2.2.2.2.2.2.2.2.2.1 t3.2.2.2.2.2.2.2.2.2.2.1 t3.2.2.2.2.2.2.2.2.2.2.2.1 t3.2.2.2.2.2.2.2.2.2.2.2.2 a13 a14 a15) fun t4 => .last (.ret (t4.1, t4.2.1, t4.2.2.1, t4.2.2.2.1, t4.2.2.2.2.1, t4.2.2.2.2.2.1, t4.2.2.2.2.2.2.1, t4.2.2.2.2.2.2.2.1, t4.2.2.2.2.2.2.2.2.1, t4.2.2.2.2.2.2.2.2.2.1, t4.2.2.2.2.2.2.2.2.2.2.1, t4.2.2.2.2.2.2.2.2.2.2.2.1, t4.2.2.2.2.2.2.2.2.2.2.2.2.1, t4.2.2.2.2.2.2.2.2.2.2.2.2.2))))))
def tree : X → Tr X A := fun _ => .fail
def f (a0 : List S166) (a1 a2 : List Int) (a3 a4 a5 a6 a7 a8 a9 a10 : Int) (a11 : List Int) (a12 a13 a14 a15 : Int) : Option A := (begin a0 a1 a2 a3 a4 a5 a6 a7 a8 a9 a10 a11 a12 a13 a14 a15).run (lp tree)
def Q : Plan C := { PL with cuts := [], ords := [(3, [3, 6], (.take 0 [2] (.take 2 [0, 1] (.alt 1 (.alt 3 (.take 4 [] (.take 5 [] (.alt 6 (.take 7 [] .done) .nil))) .nil) .nil))))], weak := [(1000000, [(4, [0]), (4, [1]), (4, [2]), (4, [11])]), (3000000, [])] }
theorem e : CutEq Pg C Q Tryz.f133 0 id st v o tree := fun J K x => by cases x
theorem b (a0 : List S166) (a1 a2 : List Int) (a3 a4 a5 a6 a7 a8 a9 a10 : Int) (a11 : List Int) (a12 a13 a14 a15 : Int) : BegEq Pg C Q Tryz.f133 0 id st v o (S a0 a1 a2 a3 a4 a5 a6 a7 a8 a9 a10 a11 a12 a13 a14 a15) (begin a0 a1 a2 a3 a4 a5 a6 a7 a8 a9 a10 a11 a12 a13 a14 a15) := fun J K => by kernel_rfl
def told (a0 : List S166) (a1 a2 : List Int) (a3 a4 a5 a6 a7 a8 a9 a10 : Int) (a11 : List Int) (a12 a13 a14 a15 : Int) : YtobfemcobakeoaaGreatEv.Told A := ⟨f a0 a1 a2 a3 a4 a5 a6 a7 a8 a9 a10 a11 a12 a13 a14 a15, fun r => SoundCall Pg C 133 (S a0 a1 a2 a3 a4 a5 a6 a7 a8 a9 a10 a11 a12 a13 a14 a15) 0 (v r) (o r), fun r h => soundCall_of_tree G mixed Q Tryz.func133 rfl (of_decide_eq_true (by kernel_rfl)) (by rfl) id st v o (fun _ => rfl) tree e (begin a0 a1 a2 a3 a4 a5 a6 a7 a8 a9 a10 a11 a12 a13 a14 a15) (b a0 a1 a2 a3 a4 a5 a6 a7 a8 a9 a10 a11 a12 a13 a14 a15) h⟩
end impl_DoAct
/-! #### loop.example/g00983/impl.RunActs (61) -/
namespace impl_RunActs
def S (a0 : List S166) (a1 a2 : List Int) (a3 a4 a5 a6 a7 a8 a9 a10 : Int) (a11 : List Int) (a12 : Int) (a13 : List S160) : List (PV U) := YtobfemcobakeoaaGreatEv.start C 44 [.agg [.sl 167 a0, .sl 3 a1, .sl 3 a2, .int .i64 a3, .int .i64 a4, .int .i64 a5, .int .i64 a6, .int .i64 a7, .int .i64 a8, .int .i64 a9, .int .i64 a10, .sl 3 a11, .int .i64 a12], .sl 161 a13] []
inductive X where
 | c6 (x0 : List S166) (x1 x2 : List Int) (x3 x4 x5 x6 x7 x8 x9 x10 : Int) (x11 : List Int) (x12 : Int) (x13 : List S166) (x14 x15 : List Int) (x16 x17 x18 x19 x20 x21 x22 x23 : Int) (x24 : List Int) (x25 : Int) (x26 : List Int) (x27 : List S160) (x28 x29 : Int)
def id : X → Nat
 | .c6 .. => 6
def st : X → List (PV U)
 | .c6 x0 x1 x2 x3 x4 x5 x6 x7 x8 x9 x10 x11 x12 x13 x14 x15 x16 x17 x18 x19 x20 x21 x22 x23 x24 x25 x26 x27 x28 x29 => stOf 44 [(4, .box [.own true 167 x0, .own true 3 x1, .own true 3 x2, .int .i64 x3, .int .i64 x4, .int .i64 x5, .int .i64 x6, .int .i64 x7, .int .i64 x8, .int .i64 x9, .int .i64 x10, .own true 3 x11, .int .i64 x12]), (6, .box [.sl 167 x13, .sl 3 x14, .sl 3 x15, .int .i64 x16, .int .i64 x17, .int .i64 x18, .int .i64 x19, .int .i64 x20, .int .i64 x21, .int .i64 x22, .int .i64 x23, .sl 3 x24, .int .i64 x25]), (7, .own true 3 x26), (24, .sl 161 x27), (25, .int .i64 x28), (26, .int .i64 x29)]
def begin (a0 : List S166) (a1 a2 : List Int) (a3 a4 a5 a6 a7 a8 a9 a10 : Int) (a11 : List Int) (a12 : Int) (a13 : List S160) : Tr X A :=
 .call (impl_copyNode.told a0 a1 a2 a3 a4 a5 a6 a7 a8 a9 a10 a11 a12) fun t1 => .call (impl_NodeOk.told a0 a1 a2 a3 a4 a5 a6 a7 a8 a9 a10 a11 a12) fun t2 => let u2_0 : Tr X A := (.ret (t1.1, t1.2.1, t1.2.2.1, t1.2.2.2.1, t1.2.2.2.2.1, t1.2.2.2.2.2.1, t1.2.2.2.2.2.2.1, t1.2.2.2.2.2.2.2.1, t1.2.2.2.2.2.2.2.2.1, t1.2.2.2.2.2.2.2.2.2.1, t1.2.2.2.2.2.2.2.2.2.2.1, t1.2.2.2.2.2.2.2.2.2.2.2.1, t1.2.2.2.2.2.2.2.2.2.2.2.2, ([] : List Int))); .ite (!t2)
  (u2_0)
  (.ite (decide ((List.length a13 : Int) > (30 : Int)))
   (u2_0)
   (.jump (.c6 ([] : List S166) ([] : List Int) ([] : List Int) (0 : Int) (0 : Int) (0 : Int) (0 : Int) (0 : Int) (0 : Int) (0 : Int) (0 : Int) ([] : List Int) (0 : Int) t1.1 t1.2.1 t1.2.2.1 t1.2.2.2.1 t1.2.2.2.2.1 t1.2.2.2.2.2.1 t1.2.2.2.2.2.2.1 t1.2.2.2.2.2.2.2.1 t1.2.2.2.2.2.2.2.2.1 t1.2.2.2.2.2.2.2.2.2.1 t1.2.2.2.2.2.2.2.2.2.2.1 t1.2.2.2.2.2.2.2.2.2.2.2.1 t1.2.2.2.2.2.2.2.2.2.2.2.2 ([] : List Int) a13 (List.length a13 : Int) (0 : Int))))
def tree : X → Tr X A
 | .c6 x0 x1 x2 x3 x4 x5 x6 x7 x8 x9 x10 x11 x12 x13 x14 x15 x16 x17 x18 x19 x20 x21 x22 x23 x24 x25 x26 x27 x28 x29 =>
 .ite (decide (x29 < x28))
  (.need ((0 : Int) ≤ x29 ∧ x29 < (List.length x27 : Int)) (.call (impl_DoAct.told x13 x14 x15 x16 x17 x18 x19 x20 x21 x22 x23 x24 x25 ((rdS160 x27 x29).f0) ((rdS160 x27 x29).f1) ((rdS160 x27 x29).f2)) fun t1 => .need (((List.length x26 : Int) + (List.length ([t1.2.2.2.2.2.2.2.2.2.2.2.2.2]) : Int)) * (8 : Nat) ≤ room) (.jump (.c6 x0 x1 x2 x3 x4 x5 x6 x7 x8 x9 x10 x11 x12 t1.1 t1.2.1 t1.2.2.1 t1.2.2.2.1 t1.2.2.2.2.1 t1.2.2.2.2.2.1 t1.2.2.2.2.2.2.1 t1.2.2.2.2.2.2.2.1 t1.2.2.2.2.2.2.2.2.1 t1.2.2.2.2.2.2.2.2.2.1 t1.2.2.2.2.2.2.2.2.2.2.1 t1.2.2.2.2.2.2.2.2.2.2.2.1 t1.2.2.2.2.2.2.2.2.2.2.2.2.1 (x26 ++ [t1.2.2.2.2.2.2.2.2.2.2.2.2.2]) x27 x28 (wr (x29 + (1 : Int)))))))
  (.ret (x13, x14, x15, x16, x17, x18, x19, x20, x21, x22, x23, x24, x25, x26))
def f (a0 : List S166) (a1 a2 : List Int) (a3 a4 a5 a6 a7 a8 a9 a10 : Int) (a11 : List Int) (a12 : Int) (a13 : List S160) : Option A := (begin a0 a1 a2 a3 a4 a5 a6 a7 a8 a9 a10 a11 a12 a13).run (lp tree)
def Q : Plan C := { PL with cuts := [(6, [4, 6, 7, 24, 25, 26])], ords := [], weak := [(6, [(6, [0]), (6, [1]), (6, [2]), (6, [11])]), (1000000, [(4, [0]), (4, [1]), (4, [2]), (4, [11])]), (2000006, []), (3000000, [])] }
theorem e : CutEq Pg C Q Tryz.f61 0 id st v o tree := fun J K x => by cases x <;> kernel_rfl
theorem b (a0 : List S166) (a1 a2 : List Int) (a3 a4 a5 a6 a7 a8 a9 a10 : Int) (a11 : List Int) (a12 : Int) (a13 : List S160) : BegEq Pg C Q Tryz.f61 0 id st v o (S a0 a1 a2 a3 a4 a5 a6 a7 a8 a9 a10 a11 a12 a13) (begin a0 a1 a2 a3 a4 a5 a6 a7 a8 a9 a10 a11 a12 a13) := fun J K => by kernel_rfl
def told (a0 : List S166) (a1 a2 : List Int) (a3 a4 a5 a6 a7 a8 a9 a10 : Int) (a11 : List Int) (a12 : Int) (a13 : List S160) : YtobfemcobakeoaaGreatEv.Told A := ⟨f a0 a1 a2 a3 a4 a5 a6 a7 a8 a9 a10 a11 a12 a13, fun r => SoundCall Pg C 61 (S a0 a1 a2 a3 a4 a5 a6 a7 a8 a9 a10 a11 a12 a13) 0 (v r) (o r), fun r h => soundCall_of_tree G mixed Q Tryz.func61 rfl (of_decide_eq_true (by kernel_rfl)) (by rfl) id st v o (fun _ => rfl) tree e (begin a0 a1 a2 a3 a4 a5 a6 a7 a8 a9 a10 a11 a12 a13) (b a0 a1 a2 a3 a4 a5 a6 a7 a8 a9 a10 a11 a12 a13) h⟩
end impl_RunActs
/-! #### loop.example/g00983/impl.IsReplay (63) -/
namespace impl_IsReplay
def S (a0 : List S166) (a1 a2 : List Int) (a3 a4 a5 a6 a7 a8 a9 a10 : Int) (a11 : List Int) (a12 : Int) (a13 : List S160) (a14 : List Int) : List (PV U) := YtobfemcobakeoaaGreatEv.start C 27 [.agg [.sl 167 a0, .sl 3 a1, .sl 3 a2, .int .i64 a3, .int .i64 a4, .int .i64 a5, .int .i64 a6, .int .i64 a7, .int .i64 a8, .int .i64 a9, .int .i64 a10, .sl 3 a11, .int .i64 a12], .sl 161 a13, .sl 3 a14] []
abbrev X := Empty
def id : X → Nat := fun _ => 0
def st : X → List (PV U) := fun _ => []
def begin (a0 : List S166) (a1 a2 : List Int) (a3 a4 a5 a6 a7 a8 a9 a10 : Int) (a11 : List Int) (a12 : Int) (a13 : List S160) (a14 : List Int) : Tr X A :=
 .call (impl_RunActs.told a0 a1 a2 a3 a4 a5 a6 a7 a8 a9 a10 a11 a12 a13) fun t1 => .call (impl_NodeOk.told a0 a1 a2 a3 a4 a5 a6 a7 a8 a9 a10 a11 a12) fun t2 => .ite t2
  (.ite (decide ((List.length a13 : Int) ≤ (30 : Int)))
   (.call (slices_Equal_int.told t1.2.2.2.2.2.2.2.2.2.2.2.2.2 a14) fun t3 => .ret t3)
   (.ret false))
  (.ret false)
def tree : X → Tr X A := fun _ => .fail
def f (a0 : List S166) (a1 a2 : List Int) (a3 a4 a5 a6 a7 a8 a9 a10 : Int) (a11 : List Int) (a12 : Int) (a13 : List S160) (a14 : List Int) : Option A := (begin a0 a1 a2 a3 a4 a5 a6 a7 a8 a9 a10 a11 a12 a13 a14).run (lp tree)
def Q : Plan C := { PL with cuts := [], ords := [], weak := [] }
theorem e : CutEq Pg C Q Tryz.f63 0 id st v o tree := fun J K x => by cases x
theorem b (a0 : List S166) (a1 a2 : List Int) (a3 a4 a5 a6 a7 a8 a9 a10 : Int) (a11 : List Int) (a12 : Int) (a13 : List S160) (a14 : List Int) : BegEq Pg C Q Tryz.f63 0 id st v o (S a0 a1 a2 a3 a4 a5 a6 a7 a8 a9 a10 a11 a12 a13 a14) (begin a0 a1 a2 a3 a4 a5 a6 a7 a8 a9 a10 a11 a12 a13 a14) := fun J K => by kernel_rfl
def told (a0 : List S166) (a1 a2 : List Int) (a3 a4 a5 a6 a7 a8 a9 a10 : Int) (a11 : List Int) (a12 : Int) (a13 : List S160) (a14 : List Int) : YtobfemcobakeoaaGreatEv.Told A := ⟨f a0 a1 a2 a3 a4 a5 a6 a7 a8 a9 a10 a11 a12 a13 a14, fun r => SoundCall Pg C 63 (S a0 a1 a2 a3 a4 a5 a6 a7 a8 a9 a10 a11 a12 a13 a14) 0 (v r) (o r), fun r h => soundCall_of_tree G mixed Q Tryz.func63 rfl (of_decide_eq_true (by kernel_rfl)) (by rfl) id st v o (fun _ => rfl) tree e (begin a0 a1 a2 a3 a4 a5 a6 a7 a8 a9 a10 a11 a12 a13 a14) (b a0 a1 a2 a3 a4 a5 a6 a7 a8 a9 a10 a11 a12 a13 a14) h⟩
end impl_IsReplay
/-! #### loop.example/g00983/spec.DrawPlaces (39) -/
namespace spec_DrawPlaces
def S (a0 : List Int) : List (PV U) := YtobfemcobakeoaaGreatEv.start C 19 [.sl 5 a0] []
inductive X where
 | c4 (x0 : List Int) (x1 : Int) (x2 : List Int) (x3 x4 : Int)
def id : X → Nat
 | .c4 .. => 4
def st : X → List (PV U)
 | .c4 x0 x1 x2 x3 x4 => stOf 19 [(3, .ptr 7 0), (4, .own true 3 x0), (5, .int .i64 x1), (7, .box [.sl 5 x2, .int .i64 x3, .int .i64 x4])]
def begin (a0 : List Int) : Tr X A :=
 .call (spec_l01New.told a0) fun t1 => .jump (.c4 ([] : List Int) (0 : Int) t1.1 t1.2.1 t1.2.2)
def tree : X → Tr X A
 | .c4 x0 x1 x2 x3 x4 =>
 .ite (decide (x1 < (12 : Int)))
  (.call (spec_l01Below.told (10000 : Int) x2 x3 x4) fun t1 => .need (((List.length x0 : Int) + (List.length ([t1.1]) : Int)) * (8 : Nat) ≤ room) (.jump (.c4 (x0 ++ [t1.1]) (wr (x1 + (1 : Int))) t1.2.1 t1.2.2.1 t1.2.2.2)))
  (.ret x0)
def f (a0 : List Int) : Option A := (begin a0).run (lp tree)
def Q : Plan C := { PL with cuts := [(4, [3, 4, 5, 7])], ords := [], weak := [] }
theorem e : CutEq Pg C Q Tryz.f39 0 id st v o tree := fun J K x => by cases x <;> kernel_rfl
theorem b (a0 : List Int) : BegEq Pg C Q Tryz.f39 0 id st v o (S a0) (begin a0) := fun J K => by kernel_rfl
def told (a0 : List Int) : YtobfemcobakeoaaGreatEv.Told A := ⟨f a0, fun r => SoundCall Pg C 39 (S a0) 0 (v r) (o r), fun r h => soundCall_of_tree G mixed Q Tryz.func39 rfl (of_decide_eq_true (by kernel_rfl)) (by rfl) id st v o (fun _ => rfl) tree e (begin a0) (b a0) h⟩
end spec_DrawPlaces
/-! #### loop.example/g00983/laws.FnReplays (10) -/
namespace laws_FnReplays
def S (a0 : List Int) : List (PV U) := YtobfemcobakeoaaGreatEv.start C 56 [.sl 5 a0] []
abbrev X := Empty
def id : X → Nat := fun _ => 0
def st : X → List (PV U) := fun _ => []
def begin (a0 : List Int) : Tr X A :=
 .call (laws_big.told a0) fun t1 => .ite t1
  (.ret true)
  (.call (spec_DrawActs.told a0) fun t2 => .call (impl_RunActs.told t2.1 t2.2.1 t2.2.2.1 t2.2.2.2.1 t2.2.2.2.2.1 t2.2.2.2.2.2.1 t2.2.2.2.2.2.2.1 t2.2.2.2.2.2.2.2.1 t2.2.2.2.2.2.2.2.2.1 t2.2.2.2.2.2.2.2.2.2.1 t2.2.2.2.2.2.2.2.2.2.2.1 t2.2.2.2.2.2.2.2.2.2.2.2.1 t2.2.2.2.2.2.2.2.2.2.2.2.2.1 t2.2.2.2.2.2.2.2.2.2.2.2.2.2) fun t3 => .call (impl_IsReplay.told t2.1 t2.2.1 t2.2.2.1 t2.2.2.2.1 t2.2.2.2.2.1 t2.2.2.2.2.2.1 t2.2.2.2.2.2.2.1 t2.2.2.2.2.2.2.2.1 t2.2.2.2.2.2.2.2.2.1 t2.2.2.2.2.2.2.2.2.2.1 t2.2.2.2.2.2.2.2.2.2.2.1 t2.2.2.2.2.2.2.2.2.2.2.2.1 t2.2.2.2.2.2.2.2.2.2.2.2.2.1 t2.2.2.2.2.2.2.2.2.2.2.2.2.2 t3.2.2.2.2.2.2.2.2.2.2.2.2.2) fun t4 => .ite (!t4)
   (.ret false)
   (.ite (decide ((List.length t3.2.2.2.2.2.2.2.2.2.2.2.2.2 : Int) = (0 : Int)))
    (.call (impl_IsReplay.told t2.1 t2.2.1 t2.2.2.1 t2.2.2.2.1 t2.2.2.2.2.1 t2.2.2.2.2.2.1 t2.2.2.2.2.2.2.1 t2.2.2.2.2.2.2.2.1 t2.2.2.2.2.2.2.2.2.1 t2.2.2.2.2.2.2.2.2.2.1 t2.2.2.2.2.2.2.2.2.2.2.1 t2.2.2.2.2.2.2.2.2.2.2.2.1 t2.2.2.2.2.2.2.2.2.2.2.2.2.1 t2.2.2.2.2.2.2.2.2.2.2.2.2.2 ([(1 : Int)])) fun t5 => .ret ((!t5)))
    (.call (spec_DrawPlaces.told a0) fun t5 => .need ((0 : Int) ≤ (0 : Int) ∧ (0 : Int) < (List.length t5 : Int)) (.need ((List.length t3.2.2.2.2.2.2.2.2.2.2.2.2.2 : Int) ≠ 0) (.need ((0 : Int) ≤ (Int.tmod (rdI t5 (0 : Int)) (List.length t3.2.2.2.2.2.2.2.2.2.2.2.2.2 : Int)) ∧ (Int.tmod (rdI t5 (0 : Int)) (List.length t3.2.2.2.2.2.2.2.2.2.2.2.2.2 : Int)) < (List.length t3.2.2.2.2.2.2.2.2.2.2.2.2.2 : Int)) (.val ((rdI t3.2.2.2.2.2.2.2.2.2.2.2.2.2 (Int.tmod (rdI t5 (0 : Int)) (List.length t3.2.2.2.2.2.2.2.2.2.2.2.2.2 : Int))) : Int) fun v6 => .need ((0 : Int) ≤ (Int.tmod (rdI t5 (0 : Int)) (List.length t3.2.2.2.2.2.2.2.2.2.2.2.2.2 : Int)) ∧ (Int.tmod (rdI t5 (0 : Int)) (List.length t3.2.2.2.2.2.2.2.2.2.2.2.2.2 : Int)) < (List.length t3.2.2.2.2.2.2.2.2.2.2.2.2.2 : Int)) (.val ((List.set t3.2.2.2.2.2.2.2.2.2.2.2.2.2 (Int.toNat (Int.tmod (rdI t5 (0 : Int)) (List.length t3.2.2.2.2.2.2.2.2.2.2.2.2.2 : Int))) (wr (v6 + (1 : Int)))) : List Int) fun v7 => .call (impl_IsReplay.told t2.1 t2.2.1 t2.2.2.1 t2.2.2.2.1 t2.2.2.2.2.1 t2.2.2.2.2.2.1 t2.2.2.2.2.2.2.1 t2.2.2.2.2.2.2.2.1 t2.2.2.2.2.2.2.2.2.1 t2.2.2.2.2.2.2.2.2.2.1 t2.2.2.2.2.2.2.2.2.2.2.1 t2.2.2.2.2.2.2.2.2.2.2.2.1 t2.2.2.2.2.2.2.2.2.2.2.2.2.1 t2.2.2.2.2.2.2.2.2.2.2.2.2.2 v7) fun t8 => .ret ((!t8)))))))))
def tree : X → Tr X A := fun _ => .fail
def f (a0 : List Int) : Option A := (begin a0).run (lp tree)
def Q : Plan C := { PL with cuts := [], ords := [], weak := [] }
theorem e : CutEq Pg C Q Tryz.f10 0 id st v o tree := fun J K x => by cases x
theorem b (a0 : List Int) : BegEq Pg C Q Tryz.f10 0 id st v o (S a0) (begin a0) := fun J K => by kernel_rfl
def told (a0 : List Int) : YtobfemcobakeoaaGreatEv.Told A := ⟨f a0, fun r => SoundCall Pg C 10 (S a0) 0 (v r) (o r), fun r h => soundCall_of_tree G mixed Q Tryz.func10 rfl (of_decide_eq_true (by kernel_rfl)) (by rfl) id st v o (fun _ => rfl) tree e (begin a0) (b a0) h⟩
end laws_FnReplays
end
end Go.Proofs.YtobfemcobakeoaaGreat.Ev
