/- Functions as trees, with their contracts. No conditions. -/
import Derived.Test.YtmdgdcjkbggkmaaEvF0
namespace Go.Proofs.Ytmdgdcjkbggkmaa.Ev
open Go.Proofs.YtmdgdcjkbggkmaaEv Go.RowKit
set_option linter.unusedVariables false
set_option maxRecDepth 100000
noncomputable section
/-! #### loop.example/g00983/laws.heldNode (17) -/
def laws_heldNode.S (a0 : List S90) (a1 : List Int) (a2 : List Int) (a3 : Int) (a4 : Int) (a5 : Int) (a6 : Int) (a7 : Int) (a8 : Int) (a9 : Int) (a10 : Int) (a11 : List Int) (a12 : Int) (a13 : Int) : List (PV U) := YtmdgdcjkbggkmaaEv.start C 30 [.agg [.sl 91 a0, .sl 3 a1, .sl 3 a2, .int .i64 a3, .int .i64 a4, .int .i64 a5, .int .i64 a6, .int .i64 a7, .int .i64 a8, .int .i64 a9, .int .i64 a10, .sl 3 a11, .int .i64 a12], .int .i64 a13] []
abbrev laws_heldNode.X := Empty
def laws_heldNode.id : laws_heldNode.X → Nat := fun _ => 0
def laws_heldNode.st : laws_heldNode.X → List (PV U) := fun _ => []
def laws_heldNode.begin (a0 : List S90) (a1 : List Int) (a2 : List Int) (a3 : Int) (a4 : Int) (a5 : Int) (a6 : Int) (a7 : Int) (a8 : Int) (a9 : Int) (a10 : Int) (a11 : List Int) (a12 : Int) (a13 : Int) : Tr laws_heldNode.X laws_heldNode.A :=
 .call (laws_heldProgram.told a0 a13) fun t1 => .ite (decide (t1 < (0 : Int)))
  (.ret ((-1 : Int)))
  (.call (laws_heldIntS.told a1 t1) fun t2 => .ite (decide (t2 < (0 : Int)))
   (.ret ((-1 : Int)))
   (.call (laws_heldIntS.told a2 t2) fun t3 => .ite (decide (t3 < (0 : Int)))
    (.ret ((-1 : Int)))
    (.call (laws_heldLink.told a10 a11 t3) fun t4 => .ite (decide (t4 < (0 : Int)))
     (.ret ((-1 : Int)))
     (.ret t4))))
def laws_heldNode.tree : laws_heldNode.X → Tr laws_heldNode.X laws_heldNode.A := fun _ => .fail
def laws_heldNode.f (a0 : List S90) (a1 : List Int) (a2 : List Int) (a3 : Int) (a4 : Int) (a5 : Int) (a6 : Int) (a7 : Int) (a8 : Int) (a9 : Int) (a10 : Int) (a11 : List Int) (a12 : Int) (a13 : Int) : Option laws_heldNode.A := (laws_heldNode.begin a0 a1 a2 a3 a4 a5 a6 a7 a8 a9 a10 a11 a12 a13).run (lp laws_heldNode.tree)
def laws_heldNode.Q : Plan C := { PL with cuts := [], ords := [], weak := [] }
theorem laws_heldNode.e (J : Nat → St C → Prop) (K : PV U → List (PV U) → Prop) (x : laws_heldNode.X) : Tr.sem (fun x => J (laws_heldNode.id x) (laws_heldNode.st x)) (fun r => K (laws_heldNode.v r) (laws_heldNode.o r)) (laws_heldNode.tree x) = evCut C laws_heldNode.Q (SoundCall Try.prog C) J Try.f17 0 (laws_heldNode.id x) (laws_heldNode.st x) K := by cases x
theorem laws_heldNode.b (a0 : List S90) (a1 : List Int) (a2 : List Int) (a3 : Int) (a4 : Int) (a5 : Int) (a6 : Int) (a7 : Int) (a8 : Int) (a9 : Int) (a10 : Int) (a11 : List Int) (a12 : Int) (a13 : Int) (J : Nat → St C → Prop) (K : PV U → List (PV U) → Prop) : Tr.sem (fun x => J (laws_heldNode.id x) (laws_heldNode.st x)) (fun r => K (laws_heldNode.v r) (laws_heldNode.o r)) (laws_heldNode.begin a0 a1 a2 a3 a4 a5 a6 a7 a8 a9 a10 a11 a12 a13) = evFn C laws_heldNode.Q (SoundCall Try.prog C) J Try.f17 (laws_heldNode.S a0 a1 a2 a3 a4 a5 a6 a7 a8 a9 a10 a11 a12 a13) 0 K := by kernel_rfl
def laws_heldNode.told (a0 : List S90) (a1 : List Int) (a2 : List Int) (a3 : Int) (a4 : Int) (a5 : Int) (a6 : Int) (a7 : Int) (a8 : Int) (a9 : Int) (a10 : Int) (a11 : List Int) (a12 : Int) (a13 : Int) : YtmdgdcjkbggkmaaEv.Told laws_heldNode.A := ⟨laws_heldNode.f a0 a1 a2 a3 a4 a5 a6 a7 a8 a9 a10 a11 a12 a13, fun r => SoundCall Try.prog C 17 (laws_heldNode.S a0 a1 a2 a3 a4 a5 a6 a7 a8 a9 a10 a11 a12 a13) 0 (laws_heldNode.v r) (laws_heldNode.o r), fun r h =>
 soundCall_of_tree G mixed laws_heldNode.Q Try.func17 rfl (of_decide_eq_true (by kernel_rfl)) (by rfl) laws_heldNode.id laws_heldNode.st laws_heldNode.v laws_heldNode.o (fun _ => rfl) laws_heldNode.tree (fun J K x => laws_heldNode.e J K x) (laws_heldNode.begin a0 a1 a2 a3 a4 a5 a6 a7 a8 a9 a10 a11 a12 a13) (fun J K => laws_heldNode.b a0 a1 a2 a3 a4 a5 a6 a7 a8 a9 a10 a11 a12 a13 J K) h⟩
/-! #### loop.example/g00983/laws.FnExactNodeNew (3) -/
def laws_FnExactNodeNew.S (a0 : List S85) (a1 : List Int) (a2 : List Int) (a3 : Int) (a4 : Int) (a5 : Int) (a6 : Int) : List (PV U) := YtmdgdcjkbggkmaaEv.start C 146 [.agg [.sl 86 a0], .sl 3 a1, .sl 3 a2, .agg [.int .i64 a3, .int .i64 a4, .int .i64 a5, .int .i64 a6]] []
inductive laws_FnExactNodeNew.X where
 | c13 (x0 : List Int) (x1 : List Int) (x2 : List S85) (x3 : Int) (x4 : Int) (x5 : Int) (x6 : Int) (x7 : List S90) (x8 : List Int) (x9 : List Int) (x10 : Int) (x11 : Int) (x12 : Int) (x13 : Int) (x14 : Int) (x15 : Int) (x16 : Int) (x17 : Int) (x18 : List Int) (x19 : Int) (x20 : Bool) (x21 : List S90) (x22 : List Int) (x23 : List Int)
 | c14 (x0 : List Int) (x1 : List Int) (x2 : List S85) (x3 : Int) (x4 : Int) (x5 : Int) (x6 : Int) (x7 : List S90) (x8 : List Int) (x9 : List Int) (x10 : Int) (x11 : Int) (x12 : Int) (x13 : Int) (x14 : Int) (x15 : Int) (x16 : Int) (x17 : Int) (x18 : List Int) (x19 : Int) (x20 : Bool) (x21 : List S90) (x22 : List Int) (x23 : List Int) (x24 : List S90) (x25 : List Int) (x26 : List Int) (x27 : Int) (x28 : Int) (x29 : Int) (x30 : Int) (x31 : Int) (x32 : Int) (x33 : Int) (x34 : Int) (x35 : List Int) (x36 : Int) (x37 : Bool)
 | c37 (x0 : List S90) (x1 : List Int) (x2 : List Int) (x3 : Int) (x4 : Int) (x5 : Int) (x6 : Int) (x7 : Int) (x8 : Int) (x9 : Int) (x10 : Int) (x11 : List Int) (x12 : Int) (x13 : Bool) (x14 : List S90) (x15 : List Int) (x16 : List Int) (x17 : Int) (x18 : Int) (x19 : Int) (x20 : Int) (x21 : Int) (x22 : Int) (x23 : Int) (x24 : Int) (x25 : List Int) (x26 : Int) (x27 : Int) (x28 : List S90) (x29 : List Int) (x30 : List Int) (x31 : Int) (x32 : Int) (x33 : Int) (x34 : Int) (x35 : Int) (x36 : Int) (x37 : Int) (x38 : Int) (x39 : List Int) (x40 : Int) (x41 : Bool)
def laws_FnExactNodeNew.id : laws_FnExactNodeNew.X → Nat
 | .c13 .. => 13
 | .c14 .. => 14
 | .c37 .. => 37
def laws_FnExactNodeNew.st : laws_FnExactNodeNew.X → List (PV U)
 | .c13 x0 x1 x2 x3 x4 x5 x6 x7 x8 x9 x10 x11 x12 x13 x14 x15 x16 x17 x18 x19 x20 x21 x22 x23 => stOf 146 [(1, .sl 3 x0), (2, .sl 3 x1), (4, .box [.sl 86 x2]), (7, .box [.int .i64 x3, .int .i64 x4, .int .i64 x5, .int .i64 x6]), (10, .box [.own true 91 x7, .own true 3 x8, .own true 3 x9, .int .i64 x10, .int .i64 x11, .int .i64 x12, .int .i64 x13, .int .i64 x14, .int .i64 x15, .int .i64 x16, .int .i64 x17, .own true 3 x18, .int .i64 x19]), (11, .bool x20), (12, .box [.own true 91 x21]), (13, .own true 3 x22), (14, .own true 3 x23)]
 | .c14 x0 x1 x2 x3 x4 x5 x6 x7 x8 x9 x10 x11 x12 x13 x14 x15 x16 x17 x18 x19 x20 x21 x22 x23 x24 x25 x26 x27 x28 x29 x30 x31 x32 x33 x34 x35 x36 x37 => stOf 146 [(1, .sl 3 x0), (2, .sl 3 x1), (4, .box [.sl 86 x2]), (7, .box [.int .i64 x3, .int .i64 x4, .int .i64 x5, .int .i64 x6]), (10, .box [.own true 91 x7, .own true 3 x8, .own true 3 x9, .int .i64 x10, .int .i64 x11, .int .i64 x12, .int .i64 x13, .int .i64 x14, .int .i64 x15, .int .i64 x16, .int .i64 x17, .own true 3 x18, .int .i64 x19]), (11, .bool x20), (12, .box [.own true 91 x21]), (13, .own true 3 x22), (14, .own true 3 x23), (15, .box [.own true 91 x24, .own true 3 x25, .own true 3 x26, .int .i64 x27, .int .i64 x28, .int .i64 x29, .int .i64 x30, .int .i64 x31, .int .i64 x32, .int .i64 x33, .int .i64 x34, .own true 3 x35, .int .i64 x36]), (16, .bool x37)]
 | .c37 x0 x1 x2 x3 x4 x5 x6 x7 x8 x9 x10 x11 x12 x13 x14 x15 x16 x17 x18 x19 x20 x21 x22 x23 x24 x25 x26 x27 x28 x29 x30 x31 x32 x33 x34 x35 x36 x37 x38 x39 x40 x41 => stOf 146 [(10, .box [.own true 91 x0, .own true 3 x1, .own true 3 x2, .int .i64 x3, .int .i64 x4, .int .i64 x5, .int .i64 x6, .int .i64 x7, .int .i64 x8, .int .i64 x9, .int .i64 x10, .own true 3 x11, .int .i64 x12]), (11, .bool x13), (15, .box [.own true 91 x14, .own true 3 x15, .own true 3 x16, .int .i64 x17, .int .i64 x18, .int .i64 x19, .int .i64 x20, .int .i64 x21, .int .i64 x22, .int .i64 x23, .int .i64 x24, .own true 3 x25, .int .i64 x26]), (18, .int .i64 x27), (20, .box [.own true 91 x28, .own true 3 x29, .own true 3 x30, .int .i64 x31, .int .i64 x32, .int .i64 x33, .int .i64 x34, .int .i64 x35, .int .i64 x36, .int .i64 x37, .int .i64 x38, .own true 3 x39, .int .i64 x40]), (21, .bool x41)]
def laws_FnExactNodeNew.begin (a0 : List S85) (a1 : List Int) (a2 : List Int) (a3 : Int) (a4 : Int) (a5 : Int) (a6 : Int) : Tr laws_FnExactNodeNew.X laws_FnExactNodeNew.A :=
 .ite (decide ((List.length a1 : Int) > (1048576 : Int)))
  (.ret true)
  (.ite (decide ((List.length a2 : Int) > (1048576 : Int)))
   (.ret true)
   (.call (laws_szProgram.told a0 (1048576 : Int)) fun t1 => .ite (decide (t1 < (0 : Int)))
    (.ret true)
    (.both (.call (laws_toProgram.told a0) fun t2 => .both (.call (laws_toIntS.told a1) fun t3 => .both (.call (laws_toIntS.told a2) fun t4 => .both (.call (laws_toStore.told a3 a4 a5 a6) fun t5 => .both (.call (spec_NodeNew.told t2 t3 t4 t5.1 t5.2.1 t5.2.2.1 t5.2.2.2) fun t6 => .last (.last (.call (laws_toProgram.told a0) fun t7 => .call (laws_toIntS.told a1) fun t8 => .call (laws_toIntS.told a2) fun t9 => .jump (.c13 a1 a2 a0 a3 a4 a5 a6 t6.1 t6.2.1 t6.2.2.1 t6.2.2.2.1 t6.2.2.2.2.1 t6.2.2.2.2.2.1 t6.2.2.2.2.2.2.1 t6.2.2.2.2.2.2.2.1 t6.2.2.2.2.2.2.2.2.1 t6.2.2.2.2.2.2.2.2.2.1 t6.2.2.2.2.2.2.2.2.2.2.1 t6.2.2.2.2.2.2.2.2.2.2.2.1 t6.2.2.2.2.2.2.2.2.2.2.2.2.1 t6.2.2.2.2.2.2.2.2.2.2.2.2.2 t7 t8 t9))))
         (.last (.last (.call (spec_NodeNew.told t2 t3 t4 t5.1 t5.2.1 t5.2.2.1 t5.2.2.2) fun t10 => .last (.call (laws_toProgram.told a0) fun t11 => .call (laws_toIntS.told a1) fun t12 => .call (laws_toIntS.told a2) fun t13 => .jump (.c13 a1 a2 a0 a3 a4 a5 a6 t10.1 t10.2.1 t10.2.2.1 t10.2.2.2.1 t10.2.2.2.2.1 t10.2.2.2.2.2.1 t10.2.2.2.2.2.2.1 t10.2.2.2.2.2.2.2.1 t10.2.2.2.2.2.2.2.2.1 t10.2.2.2.2.2.2.2.2.2.1 t10.2.2.2.2.2.2.2.2.2.2.1 t10.2.2.2.2.2.2.2.2.2.2.2.1 t10.2.2.2.2.2.2.2.2.2.2.2.2.1 t10.2.2.2.2.2.2.2.2.2.2.2.2.2 t11 t12 t13))))))
        (.last (.last (.call (laws_toStore.told a3 a4 a5 a6) fun t14 => .last (.call (spec_NodeNew.told t2 t3 t4 t14.1 t14.2.1 t14.2.2.1 t14.2.2.2) fun t15 => .last (.call (laws_toProgram.told a0) fun t16 => .call (laws_toIntS.told a1) fun t17 => .call (laws_toIntS.told a2) fun t18 => .jump (.c13 a1 a2 a0 a3 a4 a5 a6 t15.1 t15.2.1 t15.2.2.1 t15.2.2.2.1 t15.2.2.2.2.1 t15.2.2.2.2.2.1 t15.2.2.2.2.2.2.1 t15.2.2.2.2.2.2.2.1 t15.2.2.2.2.2.2.2.2.1 t15.2.2.2.2.2.2.2.2.2.1 t15.2.2.2.2.2.2.2.2.2.2.1 t15.2.2.2.2.2.2.2.2.2.2.2.1 t15.2.2.2.2.2.2.2.2.2.2.2.2.1 t15.2.2.2.2.2.2.2.2.2.2.2.2.2 t16 t17 t18)))))))
       (.last (.last (.call (laws_toIntS.told a2) fun t19 => .last (.call (laws_toStore.told a3 a4 a5 a6) fun t20 => .last (.call (spec_NodeNew.told t2 t3 t19 t20.1 t20.2.1 t20.2.2.1 t20.2.2.2) fun t21 => .last (.call (laws_toProgram.told a0) fun t22 => .call (laws_toIntS.told a1) fun t23 => .call (laws_toIntS.told a2) fun t24 => .jump (.c13 a1 a2 a0 a3 a4 a5 a6 t21.1 t21.2.1 t21.2.2.1 t21.2.2.2.1 t21.2.2.2.2.1 t21.2.2.2.2.2.1 t21.2.2.2.2.2.2.1 t21.2.2.2.2.2.2.2.1 t21.2.2.2.2.2.2.2.2.1 t21.2.2.2.2.2.2.2.2.2.1 t21.2.2.2.2.2.2.2.2.2.2.1 t21.2.2.2.2.2.2.2.2.2.2.2.1 t21.2.2.2.2.2.2.2.2.2.2.2.2.1 t21.2.2.2.2.2.2.2.2.2.2.2.2.2 t22 t23 t24))))))))
      (.last (.last (.call (laws_toIntS.told a1) fun t25 => .last (.call (laws_toIntS.told a2) fun t26 => .last (.call (laws_toStore.told a3 a4 a5 a6) fun t27 => .last (.call (spec_NodeNew.told t2 t25 t26 t27.1 t27.2.1 t27.2.2.1 t27.2.2.2) fun t28 => .last (.call (laws_toProgram.told a0) fun t29 => .call (laws_toIntS.told a1) fun t30 => .call (laws_toIntS.told a2) fun t31 => .jump (.c13 a1 a2 a0 a3 a4 a5 a6 t28.1 t28.2.1 t28.2.2.1 t28.2.2.2.1 t28.2.2.2.2.1 t28.2.2.2.2.2.1 t28.2.2.2.2.2.2.1 t28.2.2.2.2.2.2.2.1 t28.2.2.2.2.2.2.2.2.1 t28.2.2.2.2.2.2.2.2.2.1 t28.2.2.2.2.2.2.2.2.2.2.1 t28.2.2.2.2.2.2.2.2.2.2.2.1 t28.2.2.2.2.2.2.2.2.2.2.2.2.1 t28.2.2.2.2.2.2.2.2.2.2.2.2.2 t29 t30 t31)))))))))
     (.last (.last (.call (laws_toProgram.told a0) fun t32 => .last (.call (laws_toIntS.told a1) fun t33 => .last (.call (laws_toIntS.told a2) fun t34 => .last (.call (laws_toStore.told a3 a4 a5 a6) fun t35 => .last (.call (spec_NodeNew.told t32 t33 t34 t35.1 t35.2.1 t35.2.2.1 t35.2.2.2) fun t36 => .last (.call (laws_toProgram.told a0) fun t37 => .call (laws_toIntS.told a1) fun t38 => .call (laws_toIntS.told a2) fun t39 => .jump (.c13 a1 a2 a0 a3 a4 a5 a6 t36.1 t36.2.1 t36.2.2.1 t36.2.2.2.1 t36.2.2.2.2.1 t36.2.2.2.2.2.1 t36.2.2.2.2.2.2.1 t36.2.2.2.2.2.2.2.1 t36.2.2.2.2.2.2.2.2.1 t36.2.2.2.2.2.2.2.2.2.1 t36.2.2.2.2.2.2.2.2.2.2.1 t36.2.2.2.2.2.2.2.2.2.2.2.1 t36.2.2.2.2.2.2.2.2.2.2.2.2.1 t36.2.2.2.2.2.2.2.2.2.2.2.2.2 t37 t38 t39))))))))))))
def laws_FnExactNodeNew.tree : laws_FnExactNodeNew.X → Tr laws_FnExactNodeNew.X laws_FnExactNodeNew.A
 | .c13 x0 x1 x2 x3 x4 x5 x6 x7 x8 x9 x10 x11 x12 x13 x14 x15 x16 x17 x18 x19 x20 x21 x22 x23 =>
 .both (.call (laws_toStore.told x3 x4 x5 x6) fun t40 => .both (.call (impl_NodeNew.told x21 x22 x23 t40.1 t40.2.1 t40.2.2.1 t40.2.2.2) fun t41 => .last (.last (.jump (.c14 x0 x1 x2 x3 x4 x5 x6 x7 x8 x9 x10 x11 x12 x13 x14 x15 x16 x17 x18 x19 x20 x21 x22 x23 t41.1 t41.2.1 t41.2.2.1 t41.2.2.2.1 t41.2.2.2.2.1 t41.2.2.2.2.2.1 t41.2.2.2.2.2.2.1 t41.2.2.2.2.2.2.2.1 t41.2.2.2.2.2.2.2.2.1 t41.2.2.2.2.2.2.2.2.2.1 t41.2.2.2.2.2.2.2.2.2.2.1 t41.2.2.2.2.2.2.2.2.2.2.2.1 t41.2.2.2.2.2.2.2.2.2.2.2.2.1 t41.2.2.2.2.2.2.2.2.2.2.2.2.2))))
   (.last (.last (.call (impl_NodeNew.told x21 x22 x23 t40.1 t40.2.1 t40.2.2.1 t40.2.2.2) fun t42 => .last (.jump (.c14 x0 x1 x2 x3 x4 x5 x6 x7 x8 x9 x10 x11 x12 x13 x14 x15 x16 x17 x18 x19 x20 x21 x22 x23 t42.1 t42.2.1 t42.2.2.1 t42.2.2.2.1 t42.2.2.2.2.1 t42.2.2.2.2.2.1 t42.2.2.2.2.2.2.1 t42.2.2.2.2.2.2.2.1 t42.2.2.2.2.2.2.2.2.1 t42.2.2.2.2.2.2.2.2.2.1 t42.2.2.2.2.2.2.2.2.2.2.1 t42.2.2.2.2.2.2.2.2.2.2.2.1 t42.2.2.2.2.2.2.2.2.2.2.2.2.1 t42.2.2.2.2.2.2.2.2.2.2.2.2.2))))))
  (.last (.last (.call (laws_toStore.told x3 x4 x5 x6) fun t43 => .last (.call (impl_NodeNew.told x21 x22 x23 t43.1 t43.2.1 t43.2.2.1 t43.2.2.2) fun t44 => .last (.jump (.c14 x0 x1 x2 x3 x4 x5 x6 x7 x8 x9 x10 x11 x12 x13 x14 x15 x16 x17 x18 x19 x20 x21 x22 x23 t44.1 t44.2.1 t44.2.2.1 t44.2.2.2.1 t44.2.2.2.2.1 t44.2.2.2.2.2.1 t44.2.2.2.2.2.2.1 t44.2.2.2.2.2.2.2.1 t44.2.2.2.2.2.2.2.2.1 t44.2.2.2.2.2.2.2.2.2.1 t44.2.2.2.2.2.2.2.2.2.2.1 t44.2.2.2.2.2.2.2.2.2.2.2.1 t44.2.2.2.2.2.2.2.2.2.2.2.2.1 t44.2.2.2.2.2.2.2.2.2.2.2.2.2))))))
 | .c14 x0 x1 x2 x3 x4 x5 x6 x7 x8 x9 x10 x11 x12 x13 x14 x15 x16 x17 x18 x19 x20 x21 x22 x23 x24 x25 x26 x27 x28 x29 x30 x31 x32 x33 x34 x35 x36 x37 =>
 .call (laws_eqNode.told x24 x25 x26 x27 x28 x29 x30 x31 x32 x33 x34 x35 x36 x7 x8 x9 x10 x11 x12 x13 x14 x15 x16 x17 x18 x19) fun t45 => .ite (!t45)
  (.ret false)
  (.ite (x37 != x20)
   (.ret false)
   (.last (.call (laws_toProgram.told x2) fun t46 => .last (.call (laws_eqProgram.told x21 t46) fun t47 => .ite (!t47)
    (.ret false)
    (.call (laws_toIntS.told x0) fun t48 => .call (laws_eqIntS.told x22 t48) fun t49 => .ite (!t49)
     (.ret false)
     (.call (laws_toIntS.told x1) fun t50 => .call (laws_eqIntS.told x23 t50) fun t51 => .ite (!t51)
      (.ret false)
      (.call (laws_markProgram.told (1 : Int) x21) fun t52 => .call (laws_markIntS.told t52.1 x22) fun t53 => .call (laws_markIntS.told t53.1 x23) fun t54 => .ite (decide (t54.1 < (0 : Int)))
       (.ret false)
       (.call (laws_eqNode.told x24 x25 x26 x27 x28 x29 x30 x31 x32 x33 x34 x35 x36 x7 x8 x9 x10 x11 x12 x13 x14 x15 x16 x17 x18 x19) fun t55 => .ite (!t55)
        (.ret false)
        (.ite (x37 != x20)
         (.ret false)
         (.call (laws_markNode.told x27 x28 x29 x30 x31 x32 x33 x34 x36 (1 : Int) x24 x25 x26 x35) fun t56 => .call (laws_heldNode.told t56.2.1 t56.2.2.1 t56.2.2.2.1 x27 x28 x29 x30 x31 x32 x33 x34 t56.2.2.2.2 x36 (1 : Int)) fun t57 => .ite (decide (t57 < (0 : Int)))
          (.ret false)
          (.ite (!decide (t57 = t56.1))
           (.ret false)
           (.both (.call (laws_toProgram.told x2) fun t58 => .both (.call (laws_toIntS.told x0) fun t59 => .both (.call (laws_toIntS.told x1) fun t60 => .both (.call (laws_toStore.told x3 x4 x5 x6) fun t61 => .both (.call (impl_NodeNew.told t58 t59 t60 t61.1 t61.2.1 t61.2.2.1 t61.2.2.2) fun t62 => .last (.last (.jump (.c37 x7 x8 x9 x10 x11 x12 x13 x14 x15 x16 x17 x18 x19 x20 t56.2.1 t56.2.2.1 t56.2.2.2.1 x27 x28 x29 x30 x31 x32 x33 x34 t56.2.2.2.2 x36 t56.1 t62.1 t62.2.1 t62.2.2.1 t62.2.2.2.1 t62.2.2.2.2.1 t62.2.2.2.2.2.1 t62.2.2.2.2.2.2.1 t62.2.2.2.2.2.2.2.1 t62.2.2.2.2.2.2.2.2.1 t62.2.2.2.2.2.2.2.2.2.1 t62.2.2.2.2.2.2.2.2.2.2.1 t62.2.2.2.2.2.2.2.2.2.2.2.1 t62.2.2.2.2.2.2.2.2.2.2.2.2.1 t62.2.2.2.2.2.2.2.2.2.2.2.2.2))))
                (.last (.last (.call (impl_NodeNew.told t58 t59 t60 t61.1 t61.2.1 t61.2.2.1 t61.2.2.2) fun t63 => .last (.jump (.c37 x7 x8 x9 x10 x11 x12 x13 x14 x15 x16 x17 x18 x19 x20 t56.2.1 t56.2.2.1 t56.2.2.2.1 x27 x28 x29 x30 x31 x32 x33 x34 t56.2.2.2.2 x36 t56.1 t63.1 t63.2.1 t63.2.2.1 t63.2.2.2.1 t63.2.2.2.2.1 t63.2.2.2.2.2.1 t63.2.2.2.2.2.2.1 t63.2.2.2.2.2.2.2.1 t63.2.2.2.2.2.2.2.2.1 t63.2.2.2.2.2.2.2.2.2.1 t63.2.2.2.2.2.2.2.2.2.2.1 t63.2.2.2.2.2.2.2.2.2.2.2.1 t63.2.2.2.2.2.2.2.2.2.2.2.2.1 t63.2.2.2.2.2.2.2.2.2.2.2.2.2))))))
               (.last (.last (.call (laws_toStore.told x3 x4 x5 x6) fun t64 => .last (.call (impl_NodeNew.told t58 t59 t60 t64.1 t64.2.1 t64.2.2.1 t64.2.2.2) fun t65 => .last (.jump (.c37 x7 x8 x9 x10 x11 x12 x13 x14 x15 x16 x17 x18 x19 x20 t56.2.1 t56.2.2.1 t56.2.2.2.1 x27 x28 x29 x30 x31 x32 x33 x34 t56.2.2.2.2 x36 t56.1 t65.1 t65.2.1 t65.2.2.1 t65.2.2.2.1 t65.2.2.2.2.1 t65.2.2.2.2.2.1 t65.2.2.2.2.2.2.1 t65.2.2.2.2.2.2.2.1 t65.2.2.2.2.2.2.2.2.1 t65.2.2.2.2.2.2.2.2.2.1 t65.2.2.2.2.2.2.2.2.2.2.1 t65.2.2.2.2.2.2.2.2.2.2.2.1 t65.2.2.2.2.2.2.2.2.2.2.2.2.1 t65.2.2.2.2.2.2.2.2.2.2.2.2.2)))))))
              (.last (.last (.call (laws_toIntS.told x1) fun t66 => .last (.call (laws_toStore.told x3 x4 x5 x6) fun t67 => .last (.call (impl_NodeNew.told t58 t59 t66 t67.1 t67.2.1 t67.2.2.1 t67.2.2.2) fun t68 => .last (.jump (.c37 x7 x8 x9 x10 x11 x12 x13 x14 x15 x16 x17 x18 x19 x20 t56.2.1 t56.2.2.1 t56.2.2.2.1 x27 x28 x29 x30 x31 x32 x33 x34 t56.2.2.2.2 x36 t56.1 t68.1 t68.2.1 t68.2.2.1 t68.2.2.2.1 t68.2.2.2.2.1 t68.2.2.2.2.2.1 t68.2.2.2.2.2.2.1 t68.2.2.2.2.2.2.2.1 t68.2.2.2.2.2.2.2.2.1 t68.2.2.2.2.2.2.2.2.2.1 t68.2.2.2.2.2.2.2.2.2.2.1 t68.2.2.2.2.2.2.2.2.2.2.2.1 t68.2.2.2.2.2.2.2.2.2.2.2.2.1 t68.2.2.2.2.2.2.2.2.2.2.2.2.2))))))))
             (.last (.last (.call (laws_toIntS.told x0) fun t69 => .last (.call (laws_toIntS.told x1) fun t70 => .last (.call (laws_toStore.told x3 x4 x5 x6) fun t71 => .last (.call (impl_NodeNew.told t58 t69 t70 t71.1 t71.2.1 t71.2.2.1 t71.2.2.2) fun t72 => .last (.jump (.c37 x7 x8 x9 x10 x11 x12 x13 x14 x15 x16 x17 x18 x19 x20 t56.2.1 t56.2.2.1 t56.2.2.2.1 x27 x28 x29 x30 x31 x32 x33 x34 t56.2.2.2.2 x36 t56.1 t72.1 t72.2.1 t72.2.2.1 t72.2.2.2.1 t72.2.2.2.2.1 t72.2.2.2.2.2.1 t72.2.2.2.2.2.2.1 t72.2.2.2.2.2.2.2.1 t72.2.2.2.2.2.2.2.2.1 t72.2.2.2.2.2.2.2.2.2.1 t72.2.2.2.2.2.2.2.2.2.2.1 t72.2.2.2.2.2.2.2.2.2.2.2.1 t72.2.2.2.2.2.2.2.2.2.2.2.2.1 t72.2.2.2.2.2.2.2.2.2.2.2.2.2)))))))))
            (.last (.last (.call (laws_toProgram.told x2) fun t73 => .last (.call (laws_toIntS.told x0) fun t74 => .last (.call (laws_toIntS.told x1) fun t75 => .last (.call (laws_toStore.told x3 x4 x5 x6) fun t76 => .last (.call (impl_NodeNew.told t73 t74 t75 t76.1 t76.2.1 t76.2.2.1 t76.2.2.2) fun t77 => .last (.jump (.c37 x7 x8 x9 x10 x11 x12 x13 x14 x15 x16 x17 x18 x19 x20 t56.2.1 t56.2.2.1 t56.2.2.2.1 x27 x28 x29 x30 x31 x32 x33 x34 t56.2.2.2.2 x36 t56.1 t77.1 t77.2.1 t77.2.2.1 t77.2.2.2.1 t77.2.2.2.2.1 t77.2.2.2.2.2.1 t77.2.2.2.2.2.2.1 t77.2.2.2.2.2.2.2.1 t77.2.2.2.2.2.2.2.2.1 t77.2.2.2.2.2.2.2.2.2.1 t77.2.2.2.2.2.2.2.2.2.2.1 t77.2.2.2.2.2.2.2.2.2.2.2.1 t77.2.2.2.2.2.2.2.2.2.2.2.2.1 t77.2.2.2.2.2.2.2.2.2.2.2.2.2)))))))))))))))))))))
 | .c37 x0 x1 x2 x3 x4 x5 x6 x7 x8 x9 x10 x11 x12 x13 x14 x15 x16 x17 x18 x19 x20 x21 x22 x23 x24 x25 x26 x27 x28 x29 x30 x31 x32 x33 x34 x35 x36 x37 x38 x39 x40 x41 =>
 .call (laws_eqNode.told x28 x29 x30 x31 x32 x33 x34 x35 x36 x37 x38 x39 x40 x0 x1 x2 x3 x4 x5 x6 x7 x8 x9 x10 x11 x12) fun t78 => .ite (!t78)
  (.ret false)
  (.ite (x41 != x13)
   (.ret false)
   (.call (laws_heldNode.told x14 x15 x16 x17 x18 x19 x20 x21 x22 x23 x24 x25 x26 (1 : Int)) fun t79 => .ite (decide (t79 < (0 : Int)))
    (.ret false)
    (.ite (!decide (t79 = x27))
     (.ret false)
     (.ret true))))
def laws_FnExactNodeNew.f (a0 : List S85) (a1 : List Int) (a2 : List Int) (a3 : Int) (a4 : Int) (a5 : Int) (a6 : Int) : Option laws_FnExactNodeNew.A := (laws_FnExactNodeNew.begin a0 a1 a2 a3 a4 a5 a6).run (lp laws_FnExactNodeNew.tree)
def laws_FnExactNodeNew.Q : Plan C := { PL with cuts := [(13, [1, 2, 4, 7, 10, 11, 12, 13, 14, 65, 66, 67, 96, 97, 98, 99, 102, 103, 104, 134, 135, 136]), (14, [1, 2, 4, 7, 10, 11, 12, 13, 14, 15, 16, 65, 66, 67, 96, 97, 98, 99, 102, 103, 104, 134, 135, 136]), (37, [10, 11, 15, 18, 20, 21, 134, 135, 136])], ords := [(9, [13], (.take 2 [] (.take 4 [] (.take 0 [2, 4, 6, 12] (.take 6 [0, 1, 2, 3, 4, 5, 12] (.alt 1 (.alt 3 (.alt 5 (.alt 7 (.alt 8 (.take 9 [] (.take 10 [] (.take 11 [] (.alt 12 (.alt 13 (.take 14 [] .done) .nil) .nil)))) (.alt 12 (.alt 8 (.take 9 [] (.take 10 [] (.take 11 [] (.alt 13 (.take 14 [] .done) .nil)))) .nil) .nil)) (.alt 12 (.alt 7 (.alt 8 (.take 9 [] (.take 10 [] (.take 11 [] (.alt 13 (.take 14 [] .done) .nil)))) .nil) .nil) .nil)) (.alt 12 (.alt 5 (.alt 7 (.alt 8 (.take 9 [] (.take 10 [] (.take 11 [] (.alt 13 (.take 14 [] .done) .nil)))) .nil) .nil) .nil) .nil)) (.alt 12 (.alt 3 (.alt 5 (.alt 7 (.alt 8 (.take 9 [] (.take 10 [] (.take 11 [] (.alt 13 (.take 14 [] .done) .nil)))) .nil) .nil) .nil) .nil) .nil)) (.alt 12 (.alt 1 (.alt 3 (.alt 5 (.alt 7 (.alt 8 (.take 9 [] (.take 10 [] (.take 11 [] (.alt 13 (.take 14 [] .done) .nil)))) .nil) .nil) .nil) .nil) .nil) .nil))))))), (13, [10], (.take 1 [] (.take 2 [] (.take 0 [1, 2, 3, 4, 9] (.take 3 [0, 1, 2, 9] (.alt 4 (.alt 5 (.take 6 [] (.take 7 [] (.take 8 [] (.alt 9 (.alt 10 (.take 11 [] .done) .nil) .nil)))) (.alt 9 (.alt 5 (.take 6 [] (.take 7 [] (.take 8 [] (.alt 10 (.take 11 [] .done) .nil)))) .nil) .nil)) (.alt 9 (.alt 4 (.alt 5 (.take 6 [] (.take 7 [] (.take 8 [] (.alt 10 (.take 11 [] .done) .nil)))) .nil) .nil) .nil))))))), (16, [], (.take 0 [1, 2] (.take 1 [0] (.alt 2 (.alt 3 (.take 4 [] .done) .nil) .nil)))), (36, [13], (.take 2 [] (.take 4 [] (.take 0 [2, 4, 6, 12] (.take 6 [0, 1, 2, 3, 4, 5, 12] (.alt 1 (.alt 3 (.alt 5 (.alt 7 (.alt 8 (.take 9 [] (.take 10 [] (.take 11 [] (.alt 12 (.alt 13 (.take 14 [] .done) .nil) .nil)))) (.alt 12 (.alt 8 (.take 9 [] (.take 10 [] (.take 11 [] (.alt 13 (.take 14 [] .done) .nil)))) .nil) .nil)) (.alt 12 (.alt 7 (.alt 8 (.take 9 [] (.take 10 [] (.take 11 [] (.alt 13 (.take 14 [] .done) .nil)))) .nil) .nil) .nil)) (.alt 12 (.alt 5 (.alt 7 (.alt 8 (.take 9 [] (.take 10 [] (.take 11 [] (.alt 13 (.take 14 [] .done) .nil)))) .nil) .nil) .nil) .nil)) (.alt 12 (.alt 3 (.alt 5 (.alt 7 (.alt 8 (.take 9 [] (.take 10 [] (.take 11 [] (.alt 13 (.take 14 [] .done) .nil)))) .nil) .nil) .nil) .nil) .nil)) (.alt 12 (.alt 1 (.alt 3 (.alt 5 (.alt 7 (.alt 8 (.take 9 [] (.take 10 [] (.take 11 [] (.alt 13 (.take 14 [] .done) .nil)))) .nil) .nil) .nil) .nil) .nil) .nil)))))))], weak := [] }
theorem laws_FnExactNodeNew.e (J : Nat → St C → Prop) (K : PV U → List (PV U) → Prop) (x : laws_FnExactNodeNew.X) : Tr.sem (fun x => J (laws_FnExactNodeNew.id x) (laws_FnExactNodeNew.st x)) (fun r => K (laws_FnExactNodeNew.v r) (laws_FnExactNodeNew.o r)) (laws_FnExactNodeNew.tree x) = evCut C laws_FnExactNodeNew.Q (SoundCall Try.prog C) J Try.f3 0 (laws_FnExactNodeNew.id x) (laws_FnExactNodeNew.st x) K := by cases x <;> kernel_rfl
theorem laws_FnExactNodeNew.b (a0 : List S85) (a1 : List Int) (a2 : List Int) (a3 : Int) (a4 : Int) (a5 : Int) (a6 : Int) (J : Nat → St C → Prop) (K : PV U → List (PV U) → Prop) : Tr.sem (fun x => J (laws_FnExactNodeNew.id x) (laws_FnExactNodeNew.st x)) (fun r => K (laws_FnExactNodeNew.v r) (laws_FnExactNodeNew.o r)) (laws_FnExactNodeNew.begin a0 a1 a2 a3 a4 a5 a6) = evFn C laws_FnExactNodeNew.Q (SoundCall Try.prog C) J Try.f3 (laws_FnExactNodeNew.S a0 a1 a2 a3 a4 a5 a6) 0 K := by kernel_rfl
def laws_FnExactNodeNew.told (a0 : List S85) (a1 : List Int) (a2 : List Int) (a3 : Int) (a4 : Int) (a5 : Int) (a6 : Int) : YtmdgdcjkbggkmaaEv.Told laws_FnExactNodeNew.A := ⟨laws_FnExactNodeNew.f a0 a1 a2 a3 a4 a5 a6, fun r => SoundCall Try.prog C 3 (laws_FnExactNodeNew.S a0 a1 a2 a3 a4 a5 a6) 0 (laws_FnExactNodeNew.v r) (laws_FnExactNodeNew.o r), fun r h =>
 soundCall_of_tree G mixed laws_FnExactNodeNew.Q Try.func3 rfl (of_decide_eq_true (by kernel_rfl)) (by rfl) laws_FnExactNodeNew.id laws_FnExactNodeNew.st laws_FnExactNodeNew.v laws_FnExactNodeNew.o (fun _ => rfl) laws_FnExactNodeNew.tree (fun J K x => laws_FnExactNodeNew.e J K x) (laws_FnExactNodeNew.begin a0 a1 a2 a3 a4 a5 a6) (fun J K => laws_FnExactNodeNew.b a0 a1 a2 a3 a4 a5 a6 J K) h⟩
/-! #### loop.example/g00983/laws.szIntS (44) -/
def laws_szIntS.S (a0 : List Int) (a1 : Int) : List (PV U) := YtmdgdcjkbggkmaaEv.start C 12 [.sl 3 a0, .int .i64 a1] []
abbrev laws_szIntS.X := Empty
def laws_szIntS.id : laws_szIntS.X → Nat := fun _ => 0
def laws_szIntS.st : laws_szIntS.X → List (PV U) := fun _ => []
def laws_szIntS.begin (a0 : List Int) (a1 : Int) : Tr laws_szIntS.X laws_szIntS.A :=
 .ite (decide ((wr (a1 - (List.length a0 : Int))) < (0 : Int)))
  (.ret ((-1 : Int)))
  (.ret ((wr (a1 - (List.length a0 : Int)))))
def laws_szIntS.tree : laws_szIntS.X → Tr laws_szIntS.X laws_szIntS.A := fun _ => .fail
def laws_szIntS.f (a0 : List Int) (a1 : Int) : Option laws_szIntS.A := (laws_szIntS.begin a0 a1).run (lp laws_szIntS.tree)
def laws_szIntS.Q : Plan C := { PL with cuts := [], ords := [], weak := [] }
theorem laws_szIntS.e (J : Nat → St C → Prop) (K : PV U → List (PV U) → Prop) (x : laws_szIntS.X) : Tr.sem (fun x => J (laws_szIntS.id x) (laws_szIntS.st x)) (fun r => K (laws_szIntS.v r) (laws_szIntS.o r)) (laws_szIntS.tree x) = evCut C laws_szIntS.Q (SoundCall Try.prog C) J Try.f44 0 (laws_szIntS.id x) (laws_szIntS.st x) K := by cases x
theorem laws_szIntS.b (a0 : List Int) (a1 : Int) (J : Nat → St C → Prop) (K : PV U → List (PV U) → Prop) : Tr.sem (fun x => J (laws_szIntS.id x) (laws_szIntS.st x)) (fun r => K (laws_szIntS.v r) (laws_szIntS.o r)) (laws_szIntS.begin a0 a1) = evFn C laws_szIntS.Q (SoundCall Try.prog C) J Try.f44 (laws_szIntS.S a0 a1) 0 K := by kernel_rfl
def laws_szIntS.told (a0 : List Int) (a1 : Int) : YtmdgdcjkbggkmaaEv.Told laws_szIntS.A := ⟨laws_szIntS.f a0 a1, fun r => SoundCall Try.prog C 44 (laws_szIntS.S a0 a1) 0 (laws_szIntS.v r) (laws_szIntS.o r), fun r h =>
 soundCall_of_tree G mixed laws_szIntS.Q Try.func44 rfl (of_decide_eq_true (by kernel_rfl)) (by rfl) laws_szIntS.id laws_szIntS.st laws_szIntS.v laws_szIntS.o (fun _ => rfl) laws_szIntS.tree (fun J K x => laws_szIntS.e J K x) (laws_szIntS.begin a0 a1) (fun J K => laws_szIntS.b a0 a1 J K) h⟩
/-! #### loop.example/g00983/laws.szGateway (74) -/
def laws_szGateway.S (a0 : List Int) (a1 : Int) : List (PV U) := YtmdgdcjkbggkmaaEv.start C 12 [.agg [.sl 3 a0], .int .i64 a1] []
abbrev laws_szGateway.X := Empty
def laws_szGateway.id : laws_szGateway.X → Nat := fun _ => 0
def laws_szGateway.st : laws_szGateway.X → List (PV U) := fun _ => []
def laws_szGateway.begin (a0 : List Int) (a1 : Int) : Tr laws_szGateway.X laws_szGateway.A :=
 .call (laws_szIntS.told a0 a1) fun t1 => .ite (decide (t1 < (0 : Int)))
  (.ret ((-1 : Int)))
  (.ret t1)
def laws_szGateway.tree : laws_szGateway.X → Tr laws_szGateway.X laws_szGateway.A := fun _ => .fail
def laws_szGateway.f (a0 : List Int) (a1 : Int) : Option laws_szGateway.A := (laws_szGateway.begin a0 a1).run (lp laws_szGateway.tree)
def laws_szGateway.Q : Plan C := { PL with cuts := [], ords := [], weak := [] }
theorem laws_szGateway.e (J : Nat → St C → Prop) (K : PV U → List (PV U) → Prop) (x : laws_szGateway.X) : Tr.sem (fun x => J (laws_szGateway.id x) (laws_szGateway.st x)) (fun r => K (laws_szGateway.v r) (laws_szGateway.o r)) (laws_szGateway.tree x) = evCut C laws_szGateway.Q (SoundCall Try.prog C) J Try.f74 0 (laws_szGateway.id x) (laws_szGateway.st x) K := by cases x
theorem laws_szGateway.b (a0 : List Int) (a1 : Int) (J : Nat → St C → Prop) (K : PV U → List (PV U) → Prop) : Tr.sem (fun x => J (laws_szGateway.id x) (laws_szGateway.st x)) (fun r => K (laws_szGateway.v r) (laws_szGateway.o r)) (laws_szGateway.begin a0 a1) = evFn C laws_szGateway.Q (SoundCall Try.prog C) J Try.f74 (laws_szGateway.S a0 a1) 0 K := by kernel_rfl
def laws_szGateway.told (a0 : List Int) (a1 : Int) : YtmdgdcjkbggkmaaEv.Told laws_szGateway.A := ⟨laws_szGateway.f a0 a1, fun r => SoundCall Try.prog C 74 (laws_szGateway.S a0 a1) 0 (laws_szGateway.v r) (laws_szGateway.o r), fun r h =>
 soundCall_of_tree G mixed laws_szGateway.Q Try.func74 rfl (of_decide_eq_true (by kernel_rfl)) (by rfl) laws_szGateway.id laws_szGateway.st laws_szGateway.v laws_szGateway.o (fun _ => rfl) laws_szGateway.tree (fun J K x => laws_szGateway.e J K x) (laws_szGateway.begin a0 a1) (fun J K => laws_szGateway.b a0 a1 J K) h⟩
/-! #### loop.example/g00983/laws.szLink (45) -/
def laws_szLink.S (a0 : Int) (a1 : List Int) (a2 : Int) : List (PV U) := YtmdgdcjkbggkmaaEv.start C 12 [.agg [.int .i64 a0, .sl 3 a1], .int .i64 a2] []
abbrev laws_szLink.X := Empty
def laws_szLink.id : laws_szLink.X → Nat := fun _ => 0
def laws_szLink.st : laws_szLink.X → List (PV U) := fun _ => []
def laws_szLink.begin (a0 : Int) (a1 : List Int) (a2 : Int) : Tr laws_szLink.X laws_szLink.A :=
 .call (laws_szGateway.told a1 a2) fun t1 => .ite (decide (t1 < (0 : Int)))
  (.ret ((-1 : Int)))
  (.ret t1)
def laws_szLink.tree : laws_szLink.X → Tr laws_szLink.X laws_szLink.A := fun _ => .fail
def laws_szLink.f (a0 : Int) (a1 : List Int) (a2 : Int) : Option laws_szLink.A := (laws_szLink.begin a0 a1 a2).run (lp laws_szLink.tree)
def laws_szLink.Q : Plan C := { PL with cuts := [], ords := [], weak := [] }
theorem laws_szLink.e (J : Nat → St C → Prop) (K : PV U → List (PV U) → Prop) (x : laws_szLink.X) : Tr.sem (fun x => J (laws_szLink.id x) (laws_szLink.st x)) (fun r => K (laws_szLink.v r) (laws_szLink.o r)) (laws_szLink.tree x) = evCut C laws_szLink.Q (SoundCall Try.prog C) J Try.f45 0 (laws_szLink.id x) (laws_szLink.st x) K := by cases x
theorem laws_szLink.b (a0 : Int) (a1 : List Int) (a2 : Int) (J : Nat → St C → Prop) (K : PV U → List (PV U) → Prop) : Tr.sem (fun x => J (laws_szLink.id x) (laws_szLink.st x)) (fun r => K (laws_szLink.v r) (laws_szLink.o r)) (laws_szLink.begin a0 a1 a2) = evFn C laws_szLink.Q (SoundCall Try.prog C) J Try.f45 (laws_szLink.S a0 a1 a2) 0 K := by kernel_rfl
def laws_szLink.told (a0 : Int) (a1 : List Int) (a2 : Int) : YtmdgdcjkbggkmaaEv.Told laws_szLink.A := ⟨laws_szLink.f a0 a1 a2, fun r => SoundCall Try.prog C 45 (laws_szLink.S a0 a1 a2) 0 (laws_szLink.v r) (laws_szLink.o r), fun r h =>
 soundCall_of_tree G mixed laws_szLink.Q Try.func45 rfl (of_decide_eq_true (by kernel_rfl)) (by rfl) laws_szLink.id laws_szLink.st laws_szLink.v laws_szLink.o (fun _ => rfl) laws_szLink.tree (fun J K x => laws_szLink.e J K x) (laws_szLink.begin a0 a1 a2) (fun J K => laws_szLink.b a0 a1 a2 J K) h⟩
/-! #### loop.example/g00983/laws.szNode (18) -/
def laws_szNode.S (a0 : List S85) (a1 : List Int) (a2 : List Int) (a3 : Int) (a4 : Int) (a5 : Int) (a6 : Int) (a7 : Int) (a8 : Int) (a9 : Int) (a10 : Int) (a11 : List Int) (a12 : Int) (a13 : Int) : List (PV U) := YtmdgdcjkbggkmaaEv.start C 30 [.agg [.sl 86 a0, .sl 3 a1, .sl 3 a2, .int .i64 a3, .int .i64 a4, .int .i64 a5, .int .i64 a6, .int .i64 a7, .int .i64 a8, .int .i64 a9, .int .i64 a10, .sl 3 a11, .int .i64 a12], .int .i64 a13] []
abbrev laws_szNode.X := Empty
def laws_szNode.id : laws_szNode.X → Nat := fun _ => 0
def laws_szNode.st : laws_szNode.X → List (PV U) := fun _ => []
def laws_szNode.begin (a0 : List S85) (a1 : List Int) (a2 : List Int) (a3 : Int) (a4 : Int) (a5 : Int) (a6 : Int) (a7 : Int) (a8 : Int) (a9 : Int) (a10 : Int) (a11 : List Int) (a12 : Int) (a13 : Int) : Tr laws_szNode.X laws_szNode.A :=
 .call (laws_szProgram.told a0 a13) fun t1 => .ite (decide (t1 < (0 : Int)))
  (.ret ((-1 : Int)))
  (.call (laws_szIntS.told a1 t1) fun t2 => .ite (decide (t2 < (0 : Int)))
   (.ret ((-1 : Int)))
   (.call (laws_szIntS.told a2 t2) fun t3 => .ite (decide (t3 < (0 : Int)))
    (.ret ((-1 : Int)))
    (.call (laws_szLink.told a10 a11 t3) fun t4 => .ite (decide (t4 < (0 : Int)))
     (.ret ((-1 : Int)))
     (.ret t4))))
def laws_szNode.tree : laws_szNode.X → Tr laws_szNode.X laws_szNode.A := fun _ => .fail
def laws_szNode.f (a0 : List S85) (a1 : List Int) (a2 : List Int) (a3 : Int) (a4 : Int) (a5 : Int) (a6 : Int) (a7 : Int) (a8 : Int) (a9 : Int) (a10 : Int) (a11 : List Int) (a12 : Int) (a13 : Int) : Option laws_szNode.A := (laws_szNode.begin a0 a1 a2 a3 a4 a5 a6 a7 a8 a9 a10 a11 a12 a13).run (lp laws_szNode.tree)
def laws_szNode.Q : Plan C := { PL with cuts := [], ords := [], weak := [] }
theorem laws_szNode.e (J : Nat → St C → Prop) (K : PV U → List (PV U) → Prop) (x : laws_szNode.X) : Tr.sem (fun x => J (laws_szNode.id x) (laws_szNode.st x)) (fun r => K (laws_szNode.v r) (laws_szNode.o r)) (laws_szNode.tree x) = evCut C laws_szNode.Q (SoundCall Try.prog C) J Try.f18 0 (laws_szNode.id x) (laws_szNode.st x) K := by cases x
theorem laws_szNode.b (a0 : List S85) (a1 : List Int) (a2 : List Int) (a3 : Int) (a4 : Int) (a5 : Int) (a6 : Int) (a7 : Int) (a8 : Int) (a9 : Int) (a10 : Int) (a11 : List Int) (a12 : Int) (a13 : Int) (J : Nat → St C → Prop) (K : PV U → List (PV U) → Prop) : Tr.sem (fun x => J (laws_szNode.id x) (laws_szNode.st x)) (fun r => K (laws_szNode.v r) (laws_szNode.o r)) (laws_szNode.begin a0 a1 a2 a3 a4 a5 a6 a7 a8 a9 a10 a11 a12 a13) = evFn C laws_szNode.Q (SoundCall Try.prog C) J Try.f18 (laws_szNode.S a0 a1 a2 a3 a4 a5 a6 a7 a8 a9 a10 a11 a12 a13) 0 K := by kernel_rfl
def laws_szNode.told (a0 : List S85) (a1 : List Int) (a2 : List Int) (a3 : Int) (a4 : Int) (a5 : Int) (a6 : Int) (a7 : Int) (a8 : Int) (a9 : Int) (a10 : Int) (a11 : List Int) (a12 : Int) (a13 : Int) : YtmdgdcjkbggkmaaEv.Told laws_szNode.A := ⟨laws_szNode.f a0 a1 a2 a3 a4 a5 a6 a7 a8 a9 a10 a11 a12 a13, fun r => SoundCall Try.prog C 18 (laws_szNode.S a0 a1 a2 a3 a4 a5 a6 a7 a8 a9 a10 a11 a12 a13) 0 (laws_szNode.v r) (laws_szNode.o r), fun r h =>
 soundCall_of_tree G mixed laws_szNode.Q Try.func18 rfl (of_decide_eq_true (by kernel_rfl)) (by rfl) laws_szNode.id laws_szNode.st laws_szNode.v laws_szNode.o (fun _ => rfl) laws_szNode.tree (fun J K x => laws_szNode.e J K x) (laws_szNode.begin a0 a1 a2 a3 a4 a5 a6 a7 a8 a9 a10 a11 a12 a13) (fun J K => laws_szNode.b a0 a1 a2 a3 a4 a5 a6 a7 a8 a9 a10 a11 a12 a13 J K) h⟩
/-! #### loop.example/g00983/laws.toSpan (48) -/
def laws_toSpan.S (a0 : Int) (a1 : Int) : List (PV U) := YtmdgdcjkbggkmaaEv.start C 11 [.agg [.int .i64 a0, .int .i64 a1]] []
abbrev laws_toSpan.X := Empty
def laws_toSpan.id : laws_toSpan.X → Nat := fun _ => 0
def laws_toSpan.st : laws_toSpan.X → List (PV U) := fun _ => []
def laws_toSpan.begin (a0 : Int) (a1 : Int) : Tr laws_toSpan.X laws_toSpan.A :=
 .ret (a0, a1)
def laws_toSpan.tree : laws_toSpan.X → Tr laws_toSpan.X laws_toSpan.A := fun _ => .fail
def laws_toSpan.f (a0 : Int) (a1 : Int) : Option laws_toSpan.A := (laws_toSpan.begin a0 a1).run (lp laws_toSpan.tree)
def laws_toSpan.Q : Plan C := { PL with cuts := [], ords := [], weak := [] }
theorem laws_toSpan.e (J : Nat → St C → Prop) (K : PV U → List (PV U) → Prop) (x : laws_toSpan.X) : Tr.sem (fun x => J (laws_toSpan.id x) (laws_toSpan.st x)) (fun r => K (laws_toSpan.v r) (laws_toSpan.o r)) (laws_toSpan.tree x) = evCut C laws_toSpan.Q (SoundCall Try.prog C) J Try.f48 0 (laws_toSpan.id x) (laws_toSpan.st x) K := by cases x
theorem laws_toSpan.b (a0 : Int) (a1 : Int) (J : Nat → St C → Prop) (K : PV U → List (PV U) → Prop) : Tr.sem (fun x => J (laws_toSpan.id x) (laws_toSpan.st x)) (fun r => K (laws_toSpan.v r) (laws_toSpan.o r)) (laws_toSpan.begin a0 a1) = evFn C laws_toSpan.Q (SoundCall Try.prog C) J Try.f48 (laws_toSpan.S a0 a1) 0 K := by kernel_rfl
def laws_toSpan.told (a0 : Int) (a1 : Int) : YtmdgdcjkbggkmaaEv.Told laws_toSpan.A := ⟨laws_toSpan.f a0 a1, fun r => SoundCall Try.prog C 48 (laws_toSpan.S a0 a1) 0 (laws_toSpan.v r) (laws_toSpan.o r), fun r h =>
 soundCall_of_tree G mixed laws_toSpan.Q Try.func48 rfl (of_decide_eq_true (by kernel_rfl)) (by rfl) laws_toSpan.id laws_toSpan.st laws_toSpan.v laws_toSpan.o (fun _ => rfl) laws_toSpan.tree (fun J K x => laws_toSpan.e J K x) (laws_toSpan.begin a0 a1) (fun J K => laws_toSpan.b a0 a1 J K) h⟩
/-! #### loop.example/g00983/laws.toGateway (79) -/
def laws_toGateway.S (a0 : List Int) : List (PV U) := YtmdgdcjkbggkmaaEv.start C 9 [.agg [.sl 3 a0]] []
abbrev laws_toGateway.X := Empty
def laws_toGateway.id : laws_toGateway.X → Nat := fun _ => 0
def laws_toGateway.st : laws_toGateway.X → List (PV U) := fun _ => []
def laws_toGateway.begin (a0 : List Int) : Tr laws_toGateway.X laws_toGateway.A :=
 .call (laws_toIntS.told a0) fun t1 => .ret t1
def laws_toGateway.tree : laws_toGateway.X → Tr laws_toGateway.X laws_toGateway.A := fun _ => .fail
def laws_toGateway.f (a0 : List Int) : Option laws_toGateway.A := (laws_toGateway.begin a0).run (lp laws_toGateway.tree)
def laws_toGateway.Q : Plan C := { PL with cuts := [], ords := [], weak := [] }
theorem laws_toGateway.e (J : Nat → St C → Prop) (K : PV U → List (PV U) → Prop) (x : laws_toGateway.X) : Tr.sem (fun x => J (laws_toGateway.id x) (laws_toGateway.st x)) (fun r => K (laws_toGateway.v r) (laws_toGateway.o r)) (laws_toGateway.tree x) = evCut C laws_toGateway.Q (SoundCall Try.prog C) J Try.f79 0 (laws_toGateway.id x) (laws_toGateway.st x) K := by cases x
theorem laws_toGateway.b (a0 : List Int) (J : Nat → St C → Prop) (K : PV U → List (PV U) → Prop) : Tr.sem (fun x => J (laws_toGateway.id x) (laws_toGateway.st x)) (fun r => K (laws_toGateway.v r) (laws_toGateway.o r)) (laws_toGateway.begin a0) = evFn C laws_toGateway.Q (SoundCall Try.prog C) J Try.f79 (laws_toGateway.S a0) 0 K := by kernel_rfl
def laws_toGateway.told (a0 : List Int) : YtmdgdcjkbggkmaaEv.Told laws_toGateway.A := ⟨laws_toGateway.f a0, fun r => SoundCall Try.prog C 79 (laws_toGateway.S a0) 0 (laws_toGateway.v r) (laws_toGateway.o r), fun r h =>
 soundCall_of_tree G mixed laws_toGateway.Q Try.func79 rfl (of_decide_eq_true (by kernel_rfl)) (by rfl) laws_toGateway.id laws_toGateway.st laws_toGateway.v laws_toGateway.o (fun _ => rfl) laws_toGateway.tree (fun J K x => laws_toGateway.e J K x) (laws_toGateway.begin a0) (fun J K => laws_toGateway.b a0 J K) h⟩
/-! #### loop.example/g00983/laws.toLink (49) -/
def laws_toLink.S (a0 : Int) (a1 : List Int) : List (PV U) := YtmdgdcjkbggkmaaEv.start C 12 [.agg [.int .i64 a0, .sl 3 a1]] []
abbrev laws_toLink.X := Empty
def laws_toLink.id : laws_toLink.X → Nat := fun _ => 0
def laws_toLink.st : laws_toLink.X → List (PV U) := fun _ => []
def laws_toLink.begin (a0 : Int) (a1 : List Int) : Tr laws_toLink.X laws_toLink.A :=
 .call (laws_toGateway.told a1) fun t1 => .ret (a0, t1)
def laws_toLink.tree : laws_toLink.X → Tr laws_toLink.X laws_toLink.A := fun _ => .fail
def laws_toLink.f (a0 : Int) (a1 : List Int) : Option laws_toLink.A := (laws_toLink.begin a0 a1).run (lp laws_toLink.tree)
def laws_toLink.Q : Plan C := { PL with cuts := [], ords := [], weak := [] }
theorem laws_toLink.e (J : Nat → St C → Prop) (K : PV U → List (PV U) → Prop) (x : laws_toLink.X) : Tr.sem (fun x => J (laws_toLink.id x) (laws_toLink.st x)) (fun r => K (laws_toLink.v r) (laws_toLink.o r)) (laws_toLink.tree x) = evCut C laws_toLink.Q (SoundCall Try.prog C) J Try.f49 0 (laws_toLink.id x) (laws_toLink.st x) K := by cases x
theorem laws_toLink.b (a0 : Int) (a1 : List Int) (J : Nat → St C → Prop) (K : PV U → List (PV U) → Prop) : Tr.sem (fun x => J (laws_toLink.id x) (laws_toLink.st x)) (fun r => K (laws_toLink.v r) (laws_toLink.o r)) (laws_toLink.begin a0 a1) = evFn C laws_toLink.Q (SoundCall Try.prog C) J Try.f49 (laws_toLink.S a0 a1) 0 K := by kernel_rfl
def laws_toLink.told (a0 : Int) (a1 : List Int) : YtmdgdcjkbggkmaaEv.Told laws_toLink.A := ⟨laws_toLink.f a0 a1, fun r => SoundCall Try.prog C 49 (laws_toLink.S a0 a1) 0 (laws_toLink.v r) (laws_toLink.o r), fun r h =>
 soundCall_of_tree G mixed laws_toLink.Q Try.func49 rfl (of_decide_eq_true (by kernel_rfl)) (by rfl) laws_toLink.id laws_toLink.st laws_toLink.v laws_toLink.o (fun _ => rfl) laws_toLink.tree (fun J K x => laws_toLink.e J K x) (laws_toLink.begin a0 a1) (fun J K => laws_toLink.b a0 a1 J K) h⟩
/-! #### loop.example/g00983/laws.toNode (20) -/
def laws_toNode.S (a0 : List S85) (a1 : List Int) (a2 : List Int) (a3 : Int) (a4 : Int) (a5 : Int) (a6 : Int) (a7 : Int) (a8 : Int) (a9 : Int) (a10 : Int) (a11 : List Int) (a12 : Int) : List (PV U) := YtmdgdcjkbggkmaaEv.start C 35 [.agg [.sl 86 a0, .sl 3 a1, .sl 3 a2, .int .i64 a3, .int .i64 a4, .int .i64 a5, .int .i64 a6, .int .i64 a7, .int .i64 a8, .int .i64 a9, .int .i64 a10, .sl 3 a11, .int .i64 a12]] []
abbrev laws_toNode.X := Empty
def laws_toNode.id : laws_toNode.X → Nat := fun _ => 0
def laws_toNode.st : laws_toNode.X → List (PV U) := fun _ => []
def laws_toNode.begin (a0 : List S85) (a1 : List Int) (a2 : List Int) (a3 : Int) (a4 : Int) (a5 : Int) (a6 : Int) (a7 : Int) (a8 : Int) (a9 : Int) (a10 : Int) (a11 : List Int) (a12 : Int) : Tr laws_toNode.X laws_toNode.A :=
 .call (laws_toProgram.told a0) fun t1 => .call (laws_toIntS.told a1) fun t2 => .call (laws_toIntS.told a2) fun t3 => .call (laws_toStore.told a4 a5 a6 a7) fun t4 => .call (laws_toSpan.told a8 a9) fun t5 => .call (laws_toLink.told a10 a11) fun t6 => .ret (t1, t2, t3, a3, t4.1, t4.2.1, t4.2.2.1, t4.2.2.2, t5.1, t5.2, t6.1, t6.2, a12)
def laws_toNode.tree : laws_toNode.X → Tr laws_toNode.X laws_toNode.A := fun _ => .fail
def laws_toNode.f (a0 : List S85) (a1 : List Int) (a2 : List Int) (a3 : Int) (a4 : Int) (a5 : Int) (a6 : Int) (a7 : Int) (a8 : Int) (a9 : Int) (a10 : Int) (a11 : List Int) (a12 : Int) : Option laws_toNode.A := (laws_toNode.begin a0 a1 a2 a3 a4 a5 a6 a7 a8 a9 a10 a11 a12).run (lp laws_toNode.tree)
def laws_toNode.Q : Plan C := { PL with cuts := [], ords := [], weak := [] }
theorem laws_toNode.e (J : Nat → St C → Prop) (K : PV U → List (PV U) → Prop) (x : laws_toNode.X) : Tr.sem (fun x => J (laws_toNode.id x) (laws_toNode.st x)) (fun r => K (laws_toNode.v r) (laws_toNode.o r)) (laws_toNode.tree x) = evCut C laws_toNode.Q (SoundCall Try.prog C) J Try.f20 0 (laws_toNode.id x) (laws_toNode.st x) K := by cases x
theorem laws_toNode.b (a0 : List S85) (a1 : List Int) (a2 : List Int) (a3 : Int) (a4 : Int) (a5 : Int) (a6 : Int) (a7 : Int) (a8 : Int) (a9 : Int) (a10 : Int) (a11 : List Int) (a12 : Int) (J : Nat → St C → Prop) (K : PV U → List (PV U) → Prop) : Tr.sem (fun x => J (laws_toNode.id x) (laws_toNode.st x)) (fun r => K (laws_toNode.v r) (laws_toNode.o r)) (laws_toNode.begin a0 a1 a2 a3 a4 a5 a6 a7 a8 a9 a10 a11 a12) = evFn C laws_toNode.Q (SoundCall Try.prog C) J Try.f20 (laws_toNode.S a0 a1 a2 a3 a4 a5 a6 a7 a8 a9 a10 a11 a12) 0 K := by kernel_rfl
def laws_toNode.told (a0 : List S85) (a1 : List Int) (a2 : List Int) (a3 : Int) (a4 : Int) (a5 : Int) (a6 : Int) (a7 : Int) (a8 : Int) (a9 : Int) (a10 : Int) (a11 : List Int) (a12 : Int) : YtmdgdcjkbggkmaaEv.Told laws_toNode.A := ⟨laws_toNode.f a0 a1 a2 a3 a4 a5 a6 a7 a8 a9 a10 a11 a12, fun r => SoundCall Try.prog C 20 (laws_toNode.S a0 a1 a2 a3 a4 a5 a6 a7 a8 a9 a10 a11 a12) 0 (laws_toNode.v r) (laws_toNode.o r), fun r h =>
 soundCall_of_tree G mixed laws_toNode.Q Try.func20 rfl (of_decide_eq_true (by kernel_rfl)) (by rfl) laws_toNode.id laws_toNode.st laws_toNode.v laws_toNode.o (fun _ => rfl) laws_toNode.tree (fun J K x => laws_toNode.e J K x) (laws_toNode.begin a0 a1 a2 a3 a4 a5 a6 a7 a8 a9 a10 a11 a12) (fun J K => laws_toNode.b a0 a1 a2 a3 a4 a5 a6 a7 a8 a9 a10 a11 a12 J K) h⟩
/-! #### loop.example/g00983/spec.PackControl (98) -/
def spec_PackControl.S (a0 : Int) (a1 : Int) (a2 : Int) : List (PV U) := YtmdgdcjkbggkmaaEv.start C 27 [.int .i64 a0, .int .i64 a1, .int .i64 a2] []
abbrev spec_PackControl.X := Empty
def spec_PackControl.id : spec_PackControl.X → Nat := fun _ => 0
def spec_PackControl.st : spec_PackControl.X → List (PV U) := fun _ => []
def spec_PackControl.begin (a0 : Int) (a1 : Int) (a2 : Int) : Tr spec_PackControl.X spec_PackControl.A :=
 .call (spec_l01In.told a0 (0 : Int) (5 : Int)) fun t1 => .ite (!t1)
  (.ret ((-1 : Int)))
  (.call (spec_l01In.told a1 (0 : Int) (8 : Int)) fun t2 => .ite (!t2)
   (.ret ((-1 : Int)))
   (.call (spec_l01In.told a2 (0 : Int) (24 : Int)) fun t3 => .ite (!t3)
    (.ret ((-1 : Int)))
    (.ret ((wr (a0 + (wr ((8 : Int) * (wr (a1 + (wr ((16 : Int) * a2))))))))))))
def spec_PackControl.tree : spec_PackControl.X → Tr spec_PackControl.X spec_PackControl.A := fun _ => .fail
def spec_PackControl.f (a0 : Int) (a1 : Int) (a2 : Int) : Option spec_PackControl.A := (spec_PackControl.begin a0 a1 a2).run (lp spec_PackControl.tree)
def spec_PackControl.Q : Plan C := { PL with cuts := [], ords := [], weak := [] }
theorem spec_PackControl.e (J : Nat → St C → Prop) (K : PV U → List (PV U) → Prop) (x : spec_PackControl.X) : Tr.sem (fun x => J (spec_PackControl.id x) (spec_PackControl.st x)) (fun r => K (spec_PackControl.v r) (spec_PackControl.o r)) (spec_PackControl.tree x) = evCut C spec_PackControl.Q (SoundCall Try.prog C) J Try.f98 0 (spec_PackControl.id x) (spec_PackControl.st x) K := by cases x
theorem spec_PackControl.b (a0 : Int) (a1 : Int) (a2 : Int) (J : Nat → St C → Prop) (K : PV U → List (PV U) → Prop) : Tr.sem (fun x => J (spec_PackControl.id x) (spec_PackControl.st x)) (fun r => K (spec_PackControl.v r) (spec_PackControl.o r)) (spec_PackControl.begin a0 a1 a2) = evFn C spec_PackControl.Q (SoundCall Try.prog C) J Try.f98 (spec_PackControl.S a0 a1 a2) 0 K := by kernel_rfl
def spec_PackControl.told (a0 : Int) (a1 : Int) (a2 : Int) : YtmdgdcjkbggkmaaEv.Told spec_PackControl.A := ⟨spec_PackControl.f a0 a1 a2, fun r => SoundCall Try.prog C 98 (spec_PackControl.S a0 a1 a2) 0 (spec_PackControl.v r) (spec_PackControl.o r), fun r h =>
 soundCall_of_tree G mixed spec_PackControl.Q Try.func98 rfl (of_decide_eq_true (by kernel_rfl)) (by rfl) spec_PackControl.id spec_PackControl.st spec_PackControl.v spec_PackControl.o (fun _ => rfl) spec_PackControl.tree (fun J K x => spec_PackControl.e J K x) (spec_PackControl.begin a0 a1 a2) (fun J K => spec_PackControl.b a0 a1 a2 J K) h⟩
/-! #### loop.example/g00983/spec.UnpackControl (78) -/
def spec_UnpackControl.S (a0 : Int) : List (PV U) := YtmdgdcjkbggkmaaEv.start C 30 [.int .i64 a0] []
abbrev spec_UnpackControl.X := Empty
def spec_UnpackControl.id : spec_UnpackControl.X → Nat := fun _ => 0
def spec_UnpackControl.st : spec_UnpackControl.X → List (PV U) := fun _ => []
def spec_UnpackControl.begin (a0 : Int) : Tr spec_UnpackControl.X spec_UnpackControl.A :=
 .ite (decide (a0 < (0 : Int)))
  (.ret ((-1 : Int), (-1 : Int), (-1 : Int)))
  (.ite (decide (a0 > (100000 : Int)))
   (.ret ((-1 : Int), (-1 : Int), (-1 : Int)))
   (.need ((8 : Int) ≠ 0) (.need ((8 : Int) ≠ 0) (.need ((16 : Int) ≠ 0) (.need ((128 : Int) ≠ 0) (.call (spec_PackControl.told (Int.tmod a0 (8 : Int)) (Int.tmod (wr (Int.tdiv a0 (8 : Int))) (16 : Int)) (wr (Int.tdiv a0 (128 : Int)))) fun t1 => .ite (!decide (t1 = a0))
    (.ret ((-1 : Int), (-1 : Int), (-1 : Int)))
    (.ret ((Int.tmod a0 (8 : Int)), (Int.tmod (wr (Int.tdiv a0 (8 : Int))) (16 : Int)), (wr (Int.tdiv a0 (128 : Int)))))))))))
def spec_UnpackControl.tree : spec_UnpackControl.X → Tr spec_UnpackControl.X spec_UnpackControl.A := fun _ => .fail
def spec_UnpackControl.f (a0 : Int) : Option spec_UnpackControl.A := (spec_UnpackControl.begin a0).run (lp spec_UnpackControl.tree)
def spec_UnpackControl.Q : Plan C := { PL with cuts := [], ords := [], weak := [] }
theorem spec_UnpackControl.e (J : Nat → St C → Prop) (K : PV U → List (PV U) → Prop) (x : spec_UnpackControl.X) : Tr.sem (fun x => J (spec_UnpackControl.id x) (spec_UnpackControl.st x)) (fun r => K (spec_UnpackControl.v r) (spec_UnpackControl.o r)) (spec_UnpackControl.tree x) = evCut C spec_UnpackControl.Q (SoundCall Try.prog C) J Try.f78 0 (spec_UnpackControl.id x) (spec_UnpackControl.st x) K := by cases x
theorem spec_UnpackControl.b (a0 : Int) (J : Nat → St C → Prop) (K : PV U → List (PV U) → Prop) : Tr.sem (fun x => J (spec_UnpackControl.id x) (spec_UnpackControl.st x)) (fun r => K (spec_UnpackControl.v r) (spec_UnpackControl.o r)) (spec_UnpackControl.begin a0) = evFn C spec_UnpackControl.Q (SoundCall Try.prog C) J Try.f78 (spec_UnpackControl.S a0) 0 K := by kernel_rfl
def spec_UnpackControl.told (a0 : Int) : YtmdgdcjkbggkmaaEv.Told spec_UnpackControl.A := ⟨spec_UnpackControl.f a0, fun r => SoundCall Try.prog C 78 (spec_UnpackControl.S a0) 0 (spec_UnpackControl.v r) (spec_UnpackControl.o r), fun r h =>
 soundCall_of_tree G mixed spec_UnpackControl.Q Try.func78 rfl (of_decide_eq_true (by kernel_rfl)) (by rfl) spec_UnpackControl.id spec_UnpackControl.st spec_UnpackControl.v spec_UnpackControl.o (fun _ => rfl) spec_UnpackControl.tree (fun J K x => spec_UnpackControl.e J K x) (spec_UnpackControl.begin a0) (fun J K => spec_UnpackControl.b a0 J K) h⟩
/-! #### loop.example/g00983/spec.MemOk (75) -/
def spec_MemOk.S (a0 : List S90) (a1 : List Int) : List (PV U) := YtmdgdcjkbggkmaaEv.start C 72 [.agg [.sl 91 a0], .sl 3 a1] []
inductive spec_MemOk.X where
 | c7 (x0 : List Int) (x1 : Int) (x2 : Int)
def spec_MemOk.id : spec_MemOk.X → Nat
 | .c7 .. => 7
def spec_MemOk.st : spec_MemOk.X → List (PV U)
 | .c7 x0 x1 x2 => stOf 72 [(1, .sl 3 x0), (6, .int .i64 x1), (8, .int .i64 x2)]
def spec_MemOk.begin (a0 : List S90) (a1 : List Int) : Tr spec_MemOk.X spec_MemOk.A :=
 .call (spec_ProgramOk.told a0) fun t1 => .ite (!t1)
  (.ret false)
  (.ite (!decide ((List.length a1 : Int) = (49 : Int)))
   (.ret false)
   (.need ((0 : Int) ≤ (8 : Int) ∧ (8 : Int) < (List.length a1 : Int)) (.call (spec_UnpackControl.told (rdI a1 (8 : Int))) fun t2 => .ite (decide (t2.1 < (0 : Int)))
    (.ret false)
    (.ite (decide (t2.1 ≥ (List.length a0 : Int)))
     (.ret false)
     (.need ((0 : Int) ≤ (0 : Int) ∧ (0 : Int) ≤ (8 : Int) ∧ (8 : Int) ≤ (List.length a1 : Int)) (.call (spec_l09Values.told (List.take (Int.toNat (8 : Int)) a1)) fun t3 => .ite (!t3)
      (.ret false)
      (.need ((0 : Int) ≤ (25 : Int) ∧ (25 : Int) ≤ (wr ((25 : Int) + t2.2.2)) ∧ (wr ((25 : Int) + t2.2.2)) ≤ (List.length a1 : Int)) (.call (spec_l09Values.told (List.drop (Int.toNat (25 : Int)) (List.take (Int.toNat (wr ((25 : Int) + t2.2.2))) a1))) fun t4 => .ite (!t4)
       (.ret false)
       (.jump (.c7 a1 t2.2.1 (0 : Int)))))))))))
def spec_MemOk.tree : spec_MemOk.X → Tr spec_MemOk.X spec_MemOk.A
 | .c7 x0 x1 x2 =>
 .ite (decide (x2 < x1))
  (.need ((0 : Int) ≤ (wr ((9 : Int) + (wr ((2 : Int) * x2)))) ∧ (wr ((9 : Int) + (wr ((2 : Int) * x2)))) < (List.length x0 : Int)) (.call (spec_l01In.told (rdI x0 (wr ((9 : Int) + (wr ((2 : Int) * x2))))) (0 : Int) (7 : Int)) fun t5 => .ite (!t5)
   (.ret false)
   (.need ((0 : Int) ≤ (wr ((wr ((9 : Int) + (wr ((2 : Int) * x2)))) + (1 : Int))) ∧ (wr ((wr ((9 : Int) + (wr ((2 : Int) * x2)))) + (1 : Int))) < (List.length x0 : Int)) (.call (spec_IsValue.told (rdI x0 (wr ((wr ((9 : Int) + (wr ((2 : Int) * x2)))) + (1 : Int))))) fun t6 => .ite (!t6)
    (.ret false)
    (.jump (.c7 x0 x1 (wr (x2 + (1 : Int)))))))))
  (.ret true)
def spec_MemOk.f (a0 : List S90) (a1 : List Int) : Option spec_MemOk.A := (spec_MemOk.begin a0 a1).run (lp spec_MemOk.tree)
def spec_MemOk.Q : Plan C := { PL with cuts := [(7, [1, 6, 8])], ords := [], weak := [] }
theorem spec_MemOk.e (J : Nat → St C → Prop) (K : PV U → List (PV U) → Prop) (x : spec_MemOk.X) : Tr.sem (fun x => J (spec_MemOk.id x) (spec_MemOk.st x)) (fun r => K (spec_MemOk.v r) (spec_MemOk.o r)) (spec_MemOk.tree x) = evCut C spec_MemOk.Q (SoundCall Try.prog C) J Try.f75 0 (spec_MemOk.id x) (spec_MemOk.st x) K := by cases x <;> kernel_rfl
theorem spec_MemOk.b (a0 : List S90) (a1 : List Int) (J : Nat → St C → Prop) (K : PV U → List (PV U) → Prop) : Tr.sem (fun x => J (spec_MemOk.id x) (spec_MemOk.st x)) (fun r => K (spec_MemOk.v r) (spec_MemOk.o r)) (spec_MemOk.begin a0 a1) = evFn C spec_MemOk.Q (SoundCall Try.prog C) J Try.f75 (spec_MemOk.S a0 a1) 0 K := by kernel_rfl
def spec_MemOk.told (a0 : List S90) (a1 : List Int) : YtmdgdcjkbggkmaaEv.Told spec_MemOk.A := ⟨spec_MemOk.f a0 a1, fun r => SoundCall Try.prog C 75 (spec_MemOk.S a0 a1) 0 (spec_MemOk.v r) (spec_MemOk.o r), fun r h =>
 soundCall_of_tree G mixed spec_MemOk.Q Try.func75 rfl (of_decide_eq_true (by kernel_rfl)) (by rfl) spec_MemOk.id spec_MemOk.st spec_MemOk.v spec_MemOk.o (fun _ => rfl) spec_MemOk.tree (fun J K x => spec_MemOk.e J K x) (spec_MemOk.begin a0 a1) (fun J K => spec_MemOk.b a0 a1 J K) h⟩
/-! #### loop.example/g00983/spec.SpanOk (76) -/
def spec_SpanOk.S (a0 : Int) (a1 : Int) : List (PV U) := YtmdgdcjkbggkmaaEv.start C 18 [.agg [.int .i64 a0, .int .i64 a1]] []
abbrev spec_SpanOk.X := Empty
def spec_SpanOk.id : spec_SpanOk.X → Nat := fun _ => 0
def spec_SpanOk.st : spec_SpanOk.X → List (PV U) := fun _ => []
def spec_SpanOk.begin (a0 : Int) (a1 : Int) : Tr spec_SpanOk.X spec_SpanOk.A :=
 .ite (decide (a0 ≥ (0 : Int)))
  (.ite (decide (a0 ≤ a1))
   (.ret ((decide (a1 ≤ (1000000 : Int)))))
   (.ret false))
  (.ret false)
def spec_SpanOk.tree : spec_SpanOk.X → Tr spec_SpanOk.X spec_SpanOk.A := fun _ => .fail
def spec_SpanOk.f (a0 : Int) (a1 : Int) : Option spec_SpanOk.A := (spec_SpanOk.begin a0 a1).run (lp spec_SpanOk.tree)
def spec_SpanOk.Q : Plan C := { PL with cuts := [], ords := [], weak := [] }
theorem spec_SpanOk.e (J : Nat → St C → Prop) (K : PV U → List (PV U) → Prop) (x : spec_SpanOk.X) : Tr.sem (fun x => J (spec_SpanOk.id x) (spec_SpanOk.st x)) (fun r => K (spec_SpanOk.v r) (spec_SpanOk.o r)) (spec_SpanOk.tree x) = evCut C spec_SpanOk.Q (SoundCall Try.prog C) J Try.f76 0 (spec_SpanOk.id x) (spec_SpanOk.st x) K := by cases x
theorem spec_SpanOk.b (a0 : Int) (a1 : Int) (J : Nat → St C → Prop) (K : PV U → List (PV U) → Prop) : Tr.sem (fun x => J (spec_SpanOk.id x) (spec_SpanOk.st x)) (fun r => K (spec_SpanOk.v r) (spec_SpanOk.o r)) (spec_SpanOk.begin a0 a1) = evFn C spec_SpanOk.Q (SoundCall Try.prog C) J Try.f76 (spec_SpanOk.S a0 a1) 0 K := by kernel_rfl
def spec_SpanOk.told (a0 : Int) (a1 : Int) : YtmdgdcjkbggkmaaEv.Told spec_SpanOk.A := ⟨spec_SpanOk.f a0 a1, fun r => SoundCall Try.prog C 76 (spec_SpanOk.S a0 a1) 0 (spec_SpanOk.v r) (spec_SpanOk.o r), fun r h =>
 soundCall_of_tree G mixed spec_SpanOk.Q Try.func76 rfl (of_decide_eq_true (by kernel_rfl)) (by rfl) spec_SpanOk.id spec_SpanOk.st spec_SpanOk.v spec_SpanOk.o (fun _ => rfl) spec_SpanOk.tree (fun J K x => spec_SpanOk.e J K x) (spec_SpanOk.begin a0 a1) (fun J K => spec_SpanOk.b a0 a1 J K) h⟩
/-! #### loop.example/g00983/spec.MemSent (47) -/
def spec_MemSent.S (a0 : List Int) : List (PV U) := YtmdgdcjkbggkmaaEv.start C 27 [.sl 3 a0] []
abbrev spec_MemSent.X := Empty
def spec_MemSent.id : spec_MemSent.X → Nat := fun _ => 0
def spec_MemSent.st : spec_MemSent.X → List (PV U) := fun _ => []
def spec_MemSent.begin (a0 : List Int) : Tr spec_MemSent.X spec_MemSent.A :=
 .ite (!decide ((List.length a0 : Int) = (49 : Int)))
  (.ret (([] : List Int)))
  (.need ((0 : Int) ≤ (8 : Int) ∧ (8 : Int) < (List.length a0 : Int)) (.call (spec_UnpackControl.told (rdI a0 (8 : Int))) fun t1 => .ite (decide (t1.2.2 < (0 : Int)))
   (.ret (([] : List Int)))
   (.need ((0 : Int) ≤ (25 : Int) ∧ (25 : Int) ≤ (wr ((25 : Int) + t1.2.2)) ∧ (wr ((25 : Int) + t1.2.2)) ≤ (List.length a0 : Int)) (.need (((List.length ([] : List Int) : Int) + (List.length (List.drop (Int.toNat (25 : Int)) (List.take (Int.toNat (wr ((25 : Int) + t1.2.2))) a0)) : Int)) * (8 : Nat) ≤ room) (.val ((([] : List Int) ++ (List.drop (Int.toNat (25 : Int)) (List.take (Int.toNat (wr ((25 : Int) + t1.2.2))) a0))) : List Int) fun v2 => .ret v2)))))
def spec_MemSent.tree : spec_MemSent.X → Tr spec_MemSent.X spec_MemSent.A := fun _ => .fail
def spec_MemSent.f (a0 : List Int) : Option spec_MemSent.A := (spec_MemSent.begin a0).run (lp spec_MemSent.tree)
def spec_MemSent.Q : Plan C := { PL with cuts := [], ords := [], weak := [] }
theorem spec_MemSent.e (J : Nat → St C → Prop) (K : PV U → List (PV U) → Prop) (x : spec_MemSent.X) : Tr.sem (fun x => J (spec_MemSent.id x) (spec_MemSent.st x)) (fun r => K (spec_MemSent.v r) (spec_MemSent.o r)) (spec_MemSent.tree x) = evCut C spec_MemSent.Q (SoundCall Try.prog C) J Try.f47 0 (spec_MemSent.id x) (spec_MemSent.st x) K := by cases x
theorem spec_MemSent.b (a0 : List Int) (J : Nat → St C → Prop) (K : PV U → List (PV U) → Prop) : Tr.sem (fun x => J (spec_MemSent.id x) (spec_MemSent.st x)) (fun r => K (spec_MemSent.v r) (spec_MemSent.o r)) (spec_MemSent.begin a0) = evFn C spec_MemSent.Q (SoundCall Try.prog C) J Try.f47 (spec_MemSent.S a0) 0 K := by kernel_rfl
def spec_MemSent.told (a0 : List Int) : YtmdgdcjkbggkmaaEv.Told spec_MemSent.A := ⟨spec_MemSent.f a0, fun r => SoundCall Try.prog C 47 (spec_MemSent.S a0) 0 (spec_MemSent.v r) (spec_MemSent.o r), fun r h =>
 soundCall_of_tree G mixed spec_MemSent.Q Try.func47 rfl (of_decide_eq_true (by kernel_rfl)) (by rfl) spec_MemSent.id spec_MemSent.st spec_MemSent.v spec_MemSent.o (fun _ => rfl) spec_MemSent.tree (fun J K x => spec_MemSent.e J K x) (spec_MemSent.begin a0) (fun J K => spec_MemSent.b a0 J K) h⟩
/-! #### loop.example/g00983/spec.IsPrefixOf (97) -/
def spec_IsPrefixOf.S (a0 : List Int) (a1 : List Int) : List (PV U) := YtmdgdcjkbggkmaaEv.start C 27 [.sl 3 a0, .sl 3 a1] []
inductive spec_IsPrefixOf.X where
 | c2 (x0 : List Int) (x1 : List Int) (x2 : Int)
def spec_IsPrefixOf.id : spec_IsPrefixOf.X → Nat
 | .c2 .. => 2
def spec_IsPrefixOf.st : spec_IsPrefixOf.X → List (PV U)
 | .c2 x0 x1 x2 => stOf 27 [(0, .sl 3 x0), (1, .sl 3 x1), (5, .int .i64 x2)]
def spec_IsPrefixOf.begin (a0 : List Int) (a1 : List Int) : Tr spec_IsPrefixOf.X spec_IsPrefixOf.A :=
 .jump (.c2 a0 a1 (0 : Int))
def spec_IsPrefixOf.tree : spec_IsPrefixOf.X → Tr spec_IsPrefixOf.X spec_IsPrefixOf.A
 | .c2 x0 x1 x2 =>
 .ite (decide (x2 < (List.length x0 : Int)))
  (.ite (decide (x2 ≥ (List.length x1 : Int)))
   (.ret false)
   (.need ((0 : Int) ≤ x2 ∧ x2 < (List.length x0 : Int)) (.need ((0 : Int) ≤ x2 ∧ x2 < (List.length x1 : Int)) (.ite (!decide ((rdI x0 x2) = (rdI x1 x2)))
    (.ret false)
    (.jump (.c2 x0 x1 (wr (x2 + (1 : Int)))))))))
  (.ret true)
def spec_IsPrefixOf.f (a0 : List Int) (a1 : List Int) : Option spec_IsPrefixOf.A := (spec_IsPrefixOf.begin a0 a1).run (lp spec_IsPrefixOf.tree)
def spec_IsPrefixOf.Q : Plan C := { PL with cuts := [(2, [0, 1, 5])], ords := [(4, [], (.take 0 [] (.take 1 [] (.take 2 [] (.take 3 [] (.take 4 [] (.take 5 [] (.take 6 [] (.take 7 [] (.take 9 [] (.take 10 [] (.take 11 [] (.take 8 [0, 1, 2, 3, 4, 5, 6, 7, 9, 10, 11, 12] (.take 12 [0, 1, 2, 3, 4, 5, 6, 7, 8, 9, 10, 11] (.take 13 [] (.take 14 [] .done))))))))))))))))], weak := [] }
theorem spec_IsPrefixOf.e (J : Nat → St C → Prop) (K : PV U → List (PV U) → Prop) (x : spec_IsPrefixOf.X) : Tr.sem (fun x => J (spec_IsPrefixOf.id x) (spec_IsPrefixOf.st x)) (fun r => K (spec_IsPrefixOf.v r) (spec_IsPrefixOf.o r)) (spec_IsPrefixOf.tree x) = evCut C spec_IsPrefixOf.Q (SoundCall Try.prog C) J Try.f97 0 (spec_IsPrefixOf.id x) (spec_IsPrefixOf.st x) K := by cases x <;> kernel_rfl
theorem spec_IsPrefixOf.b (a0 : List Int) (a1 : List Int) (J : Nat → St C → Prop) (K : PV U → List (PV U) → Prop) : Tr.sem (fun x => J (spec_IsPrefixOf.id x) (spec_IsPrefixOf.st x)) (fun r => K (spec_IsPrefixOf.v r) (spec_IsPrefixOf.o r)) (spec_IsPrefixOf.begin a0 a1) = evFn C spec_IsPrefixOf.Q (SoundCall Try.prog C) J Try.f97 (spec_IsPrefixOf.S a0 a1) 0 K := by kernel_rfl
def spec_IsPrefixOf.told (a0 : List Int) (a1 : List Int) : YtmdgdcjkbggkmaaEv.Told spec_IsPrefixOf.A := ⟨spec_IsPrefixOf.f a0 a1, fun r => SoundCall Try.prog C 97 (spec_IsPrefixOf.S a0 a1) 0 (spec_IsPrefixOf.v r) (spec_IsPrefixOf.o r), fun r h =>
 soundCall_of_tree G mixed spec_IsPrefixOf.Q Try.func97 rfl (of_decide_eq_true (by kernel_rfl)) (by rfl) spec_IsPrefixOf.id spec_IsPrefixOf.st spec_IsPrefixOf.v spec_IsPrefixOf.o (fun _ => rfl) spec_IsPrefixOf.tree (fun J K x => spec_IsPrefixOf.e J K x) (spec_IsPrefixOf.begin a0 a1) (fun J K => spec_IsPrefixOf.b a0 a1 J K) h⟩
/-! #### loop.example/g00983/spec.LinkOk (77) -/
def spec_LinkOk.S (a0 : List Int) (a1 : Int) (a2 : List Int) : List (PV U) := YtmdgdcjkbggkmaaEv.start C 20 [.sl 3 a0, .agg [.int .i64 a1, .sl 3 a2]] []
abbrev spec_LinkOk.X := Empty
def spec_LinkOk.id : spec_LinkOk.X → Nat := fun _ => 0
def spec_LinkOk.st : spec_LinkOk.X → List (PV U) := fun _ => []
def spec_LinkOk.begin (a0 : List Int) (a1 : Int) (a2 : List Int) : Tr spec_LinkOk.X spec_LinkOk.A :=
 .last (.call (spec_l01In.told a1 (0 : Int) (List.length a2 : Int)) fun t1 => .ite t1
  (.last (.call (spec_MemSent.told a0) fun t2 => .last (.call (spec_IsPrefixOf.told a2 t2) fun t3 => .ret t3)))
  (.last (.last (.ret false))))
def spec_LinkOk.tree : spec_LinkOk.X → Tr spec_LinkOk.X spec_LinkOk.A := fun _ => .fail
def spec_LinkOk.f (a0 : List Int) (a1 : Int) (a2 : List Int) : Option spec_LinkOk.A := (spec_LinkOk.begin a0 a1 a2).run (lp spec_LinkOk.tree)
def spec_LinkOk.Q : Plan C := { PL with cuts := [], ords := [(1, [], (.take 0 [] (.take 2 [] (.take 3 [] (.take 1 [0, 2, 3, 4, 5] (.take 4 [0, 1, 2, 3] (.take 5 [] (.alt 6 (.take 7 [] (.take 8 [] (.take 9 [] (.take 11 [] (.take 10 [0, 1, 2, 3, 4, 5, 6, 7, 8, 9, 11, 12] (.alt 12 (.alt 13 (.take 14 [] (.take 15 [] .done)) .nil) .nil)))))) .nil))))))))], weak := [] }
theorem spec_LinkOk.e (J : Nat → St C → Prop) (K : PV U → List (PV U) → Prop) (x : spec_LinkOk.X) : Tr.sem (fun x => J (spec_LinkOk.id x) (spec_LinkOk.st x)) (fun r => K (spec_LinkOk.v r) (spec_LinkOk.o r)) (spec_LinkOk.tree x) = evCut C spec_LinkOk.Q (SoundCall Try.prog C) J Try.f77 0 (spec_LinkOk.id x) (spec_LinkOk.st x) K := by cases x
theorem spec_LinkOk.b (a0 : List Int) (a1 : Int) (a2 : List Int) (J : Nat → St C → Prop) (K : PV U → List (PV U) → Prop) : Tr.sem (fun x => J (spec_LinkOk.id x) (spec_LinkOk.st x)) (fun r => K (spec_LinkOk.v r) (spec_LinkOk.o r)) (spec_LinkOk.begin a0 a1 a2) = evFn C spec_LinkOk.Q (SoundCall Try.prog C) J Try.f77 (spec_LinkOk.S a0 a1 a2) 0 K := by kernel_rfl
def spec_LinkOk.told (a0 : List Int) (a1 : Int) (a2 : List Int) : YtmdgdcjkbggkmaaEv.Told spec_LinkOk.A := ⟨spec_LinkOk.f a0 a1 a2, fun r => SoundCall Try.prog C 77 (spec_LinkOk.S a0 a1 a2) 0 (spec_LinkOk.v r) (spec_LinkOk.o r), fun r h =>
 soundCall_of_tree G mixed spec_LinkOk.Q Try.func77 rfl (of_decide_eq_true (by kernel_rfl)) (by rfl) spec_LinkOk.id spec_LinkOk.st spec_LinkOk.v spec_LinkOk.o (fun _ => rfl) spec_LinkOk.tree (fun J K x => spec_LinkOk.e J K x) (spec_LinkOk.begin a0 a1 a2) (fun J K => spec_LinkOk.b a0 a1 a2 J K) h⟩
/-! #### loop.example/g00983/spec.NodeOk (46) -/
def spec_NodeOk.S (a0 : List S90) (a1 : List Int) (a2 : List Int) (a3 : Int) (a4 : Int) (a5 : Int) (a6 : Int) (a7 : Int) (a8 : Int) (a9 : Int) (a10 : Int) (a11 : List Int) (a12 : Int) : List (PV U) := YtmdgdcjkbggkmaaEv.start C 40 [.agg [.sl 91 a0, .sl 3 a1, .sl 3 a2, .int .i64 a3, .int .i64 a4, .int .i64 a5, .int .i64 a6, .int .i64 a7, .int .i64 a8, .int .i64 a9, .int .i64 a10, .sl 3 a11, .int .i64 a12]] []
abbrev spec_NodeOk.X := Empty
def spec_NodeOk.id : spec_NodeOk.X → Nat := fun _ => 0
def spec_NodeOk.st : spec_NodeOk.X → List (PV U) := fun _ => []
def spec_NodeOk.begin (a0 : List S90) (a1 : List Int) (a2 : List Int) (a3 : Int) (a4 : Int) (a5 : Int) (a6 : Int) (a7 : Int) (a8 : Int) (a9 : Int) (a10 : Int) (a11 : List Int) (a12 : Int) : Tr spec_NodeOk.X spec_NodeOk.A :=
 .call (spec_MemOk.told a0 a1) fun t1 => .ite t1
  (.call (spec_StoreOk.told a4 a5 a6 a7) fun t2 => .ite t2
   (.call (spec_l09Values.told a2) fun t3 => .ite t3
    (.call (spec_l01In.told a3 (0 : Int) (400000 : Int)) fun t4 => .ite t4
     (.call (spec_SpanOk.told a8 a9) fun t5 => .ite t5
      (.call (spec_LinkOk.told a1 a10 a11) fun t6 => .ite t6
       (.call (spec_l01In.told a12 (0 : Int) (100000 : Int)) fun t7 => .ret t7)
       (.ret false))
      (.ret false))
     (.ret false))
    (.ret false))
   (.ret false))
  (.ret false)
def spec_NodeOk.tree : spec_NodeOk.X → Tr spec_NodeOk.X spec_NodeOk.A := fun _ => .fail
def spec_NodeOk.f (a0 : List S90) (a1 : List Int) (a2 : List Int) (a3 : Int) (a4 : Int) (a5 : Int) (a6 : Int) (a7 : Int) (a8 : Int) (a9 : Int) (a10 : Int) (a11 : List Int) (a12 : Int) : Option spec_NodeOk.A := (spec_NodeOk.begin a0 a1 a2 a3 a4 a5 a6 a7 a8 a9 a10 a11 a12).run (lp spec_NodeOk.tree)
def spec_NodeOk.Q : Plan C := { PL with cuts := [], ords := [], weak := [] }
theorem spec_NodeOk.e (J : Nat → St C → Prop) (K : PV U → List (PV U) → Prop) (x : spec_NodeOk.X) : Tr.sem (fun x => J (spec_NodeOk.id x) (spec_NodeOk.st x)) (fun r => K (spec_NodeOk.v r) (spec_NodeOk.o r)) (spec_NodeOk.tree x) = evCut C spec_NodeOk.Q (SoundCall Try.prog C) J Try.f46 0 (spec_NodeOk.id x) (spec_NodeOk.st x) K := by cases x
theorem spec_NodeOk.b (a0 : List S90) (a1 : List Int) (a2 : List Int) (a3 : Int) (a4 : Int) (a5 : Int) (a6 : Int) (a7 : Int) (a8 : Int) (a9 : Int) (a10 : Int) (a11 : List Int) (a12 : Int) (J : Nat → St C → Prop) (K : PV U → List (PV U) → Prop) : Tr.sem (fun x => J (spec_NodeOk.id x) (spec_NodeOk.st x)) (fun r => K (spec_NodeOk.v r) (spec_NodeOk.o r)) (spec_NodeOk.begin a0 a1 a2 a3 a4 a5 a6 a7 a8 a9 a10 a11 a12) = evFn C spec_NodeOk.Q (SoundCall Try.prog C) J Try.f46 (spec_NodeOk.S a0 a1 a2 a3 a4 a5 a6 a7 a8 a9 a10 a11 a12) 0 K := by kernel_rfl
def spec_NodeOk.told (a0 : List S90) (a1 : List Int) (a2 : List Int) (a3 : Int) (a4 : Int) (a5 : Int) (a6 : Int) (a7 : Int) (a8 : Int) (a9 : Int) (a10 : Int) (a11 : List Int) (a12 : Int) : YtmdgdcjkbggkmaaEv.Told spec_NodeOk.A := ⟨spec_NodeOk.f a0 a1 a2 a3 a4 a5 a6 a7 a8 a9 a10 a11 a12, fun r => SoundCall Try.prog C 46 (spec_NodeOk.S a0 a1 a2 a3 a4 a5 a6 a7 a8 a9 a10 a11 a12) 0 (spec_NodeOk.v r) (spec_NodeOk.o r), fun r h =>
 soundCall_of_tree G mixed spec_NodeOk.Q Try.func46 rfl (of_decide_eq_true (by kernel_rfl)) (by rfl) spec_NodeOk.id spec_NodeOk.st spec_NodeOk.v spec_NodeOk.o (fun _ => rfl) spec_NodeOk.tree (fun J K x => spec_NodeOk.e J K x) (spec_NodeOk.begin a0 a1 a2 a3 a4 a5 a6 a7 a8 a9 a10 a11 a12) (fun J K => spec_NodeOk.b a0 a1 a2 a3 a4 a5 a6 a7 a8 a9 a10 a11 a12 J K) h⟩
/-! #### loop.example/g00983/spec.SentBy (19) -/
def spec_SentBy.S (a0 : List S90) (a1 : List Int) (a2 : List Int) (a3 : Int) (a4 : Int) (a5 : Int) (a6 : Int) (a7 : Int) (a8 : Int) (a9 : Int) (a10 : Int) (a11 : List Int) (a12 : Int) : List (PV U) := YtmdgdcjkbggkmaaEv.start C 10 [.agg [.sl 91 a0, .sl 3 a1, .sl 3 a2, .int .i64 a3, .int .i64 a4, .int .i64 a5, .int .i64 a6, .int .i64 a7, .int .i64 a8, .int .i64 a9, .int .i64 a10, .sl 3 a11, .int .i64 a12]] []
abbrev spec_SentBy.X := Empty
def spec_SentBy.id : spec_SentBy.X → Nat := fun _ => 0
def spec_SentBy.st : spec_SentBy.X → List (PV U) := fun _ => []
def spec_SentBy.begin (a0 : List S90) (a1 : List Int) (a2 : List Int) (a3 : Int) (a4 : Int) (a5 : Int) (a6 : Int) (a7 : Int) (a8 : Int) (a9 : Int) (a10 : Int) (a11 : List Int) (a12 : Int) : Tr spec_SentBy.X spec_SentBy.A :=
 .call (spec_NodeOk.told a0 a1 a2 a3 a4 a5 a6 a7 a8 a9 a10 a11 a12) fun t1 => .ite (!t1)
  (.ret (([] : List Int)))
  (.call (spec_MemSent.told a1) fun t2 => .ret t2)
def spec_SentBy.tree : spec_SentBy.X → Tr spec_SentBy.X spec_SentBy.A := fun _ => .fail
def spec_SentBy.f (a0 : List S90) (a1 : List Int) (a2 : List Int) (a3 : Int) (a4 : Int) (a5 : Int) (a6 : Int) (a7 : Int) (a8 : Int) (a9 : Int) (a10 : Int) (a11 : List Int) (a12 : Int) : Option spec_SentBy.A := (spec_SentBy.begin a0 a1 a2 a3 a4 a5 a6 a7 a8 a9 a10 a11 a12).run (lp spec_SentBy.tree)
def spec_SentBy.Q : Plan C := { PL with cuts := [], ords := [], weak := [] }
theorem spec_SentBy.e (J : Nat → St C → Prop) (K : PV U → List (PV U) → Prop) (x : spec_SentBy.X) : Tr.sem (fun x => J (spec_SentBy.id x) (spec_SentBy.st x)) (fun r => K (spec_SentBy.v r) (spec_SentBy.o r)) (spec_SentBy.tree x) = evCut C spec_SentBy.Q (SoundCall Try.prog C) J Try.f19 0 (spec_SentBy.id x) (spec_SentBy.st x) K := by cases x
theorem spec_SentBy.b (a0 : List S90) (a1 : List Int) (a2 : List Int) (a3 : Int) (a4 : Int) (a5 : Int) (a6 : Int) (a7 : Int) (a8 : Int) (a9 : Int) (a10 : Int) (a11 : List Int) (a12 : Int) (J : Nat → St C → Prop) (K : PV U → List (PV U) → Prop) : Tr.sem (fun x => J (spec_SentBy.id x) (spec_SentBy.st x)) (fun r => K (spec_SentBy.v r) (spec_SentBy.o r)) (spec_SentBy.begin a0 a1 a2 a3 a4 a5 a6 a7 a8 a9 a10 a11 a12) = evFn C spec_SentBy.Q (SoundCall Try.prog C) J Try.f19 (spec_SentBy.S a0 a1 a2 a3 a4 a5 a6 a7 a8 a9 a10 a11 a12) 0 K := by kernel_rfl
def spec_SentBy.told (a0 : List S90) (a1 : List Int) (a2 : List Int) (a3 : Int) (a4 : Int) (a5 : Int) (a6 : Int) (a7 : Int) (a8 : Int) (a9 : Int) (a10 : Int) (a11 : List Int) (a12 : Int) : YtmdgdcjkbggkmaaEv.Told spec_SentBy.A := ⟨spec_SentBy.f a0 a1 a2 a3 a4 a5 a6 a7 a8 a9 a10 a11 a12, fun r => SoundCall Try.prog C 19 (spec_SentBy.S a0 a1 a2 a3 a4 a5 a6 a7 a8 a9 a10 a11 a12) 0 (spec_SentBy.v r) (spec_SentBy.o r), fun r h =>
 soundCall_of_tree G mixed spec_SentBy.Q Try.func19 rfl (of_decide_eq_true (by kernel_rfl)) (by rfl) spec_SentBy.id spec_SentBy.st spec_SentBy.v spec_SentBy.o (fun _ => rfl) spec_SentBy.tree (fun J K x => spec_SentBy.e J K x) (spec_SentBy.begin a0 a1 a2 a3 a4 a5 a6 a7 a8 a9 a10 a11 a12) (fun J K => spec_SentBy.b a0 a1 a2 a3 a4 a5 a6 a7 a8 a9 a10 a11 a12 J K) h⟩
/-! #### loop.example/g00983/impl.PackControl (101) -/
def impl_PackControl.S (a0 : Int) (a1 : Int) (a2 : Int) : List (PV U) := YtmdgdcjkbggkmaaEv.start C 27 [.int .i64 a0, .int .i64 a1, .int .i64 a2] []
abbrev impl_PackControl.X := Empty
def impl_PackControl.id : impl_PackControl.X → Nat := fun _ => 0
def impl_PackControl.st : impl_PackControl.X → List (PV U) := fun _ => []
def impl_PackControl.begin (a0 : Int) (a1 : Int) (a2 : Int) : Tr impl_PackControl.X impl_PackControl.A :=
 .call (impl_within.told a0 (0 : Int) (5 : Int)) fun t1 => .ite (!t1)
  (.ret ((-1 : Int)))
  (.call (impl_within.told a1 (0 : Int) (8 : Int)) fun t2 => .ite (!t2)
   (.ret ((-1 : Int)))
   (.call (impl_within.told a2 (0 : Int) (24 : Int)) fun t3 => .ite (!t3)
    (.ret ((-1 : Int)))
    (.ret ((wr (a0 + (wr ((8 : Int) * (wr (a1 + (wr ((16 : Int) * a2))))))))))))
def impl_PackControl.tree : impl_PackControl.X → Tr impl_PackControl.X impl_PackControl.A := fun _ => .fail
def impl_PackControl.f (a0 : Int) (a1 : Int) (a2 : Int) : Option impl_PackControl.A := (impl_PackControl.begin a0 a1 a2).run (lp impl_PackControl.tree)
def impl_PackControl.Q : Plan C := { PL with cuts := [], ords := [], weak := [] }
theorem impl_PackControl.e (J : Nat → St C → Prop) (K : PV U → List (PV U) → Prop) (x : impl_PackControl.X) : Tr.sem (fun x => J (impl_PackControl.id x) (impl_PackControl.st x)) (fun r => K (impl_PackControl.v r) (impl_PackControl.o r)) (impl_PackControl.tree x) = evCut C impl_PackControl.Q (SoundCall Try.prog C) J Try.f101 0 (impl_PackControl.id x) (impl_PackControl.st x) K := by cases x
theorem impl_PackControl.b (a0 : Int) (a1 : Int) (a2 : Int) (J : Nat → St C → Prop) (K : PV U → List (PV U) → Prop) : Tr.sem (fun x => J (impl_PackControl.id x) (impl_PackControl.st x)) (fun r => K (impl_PackControl.v r) (impl_PackControl.o r)) (impl_PackControl.begin a0 a1 a2) = evFn C impl_PackControl.Q (SoundCall Try.prog C) J Try.f101 (impl_PackControl.S a0 a1 a2) 0 K := by kernel_rfl
def impl_PackControl.told (a0 : Int) (a1 : Int) (a2 : Int) : YtmdgdcjkbggkmaaEv.Told impl_PackControl.A := ⟨impl_PackControl.f a0 a1 a2, fun r => SoundCall Try.prog C 101 (impl_PackControl.S a0 a1 a2) 0 (impl_PackControl.v r) (impl_PackControl.o r), fun r h =>
 soundCall_of_tree G mixed impl_PackControl.Q Try.func101 rfl (of_decide_eq_true (by kernel_rfl)) (by rfl) impl_PackControl.id impl_PackControl.st impl_PackControl.v impl_PackControl.o (fun _ => rfl) impl_PackControl.tree (fun J K x => impl_PackControl.e J K x) (impl_PackControl.begin a0 a1 a2) (fun J K => impl_PackControl.b a0 a1 a2 J K) h⟩
/-! #### loop.example/g00983/impl.UnpackControl (83) -/
def impl_UnpackControl.S (a0 : Int) : List (PV U) := YtmdgdcjkbggkmaaEv.start C 28 [.int .i64 a0] []
abbrev impl_UnpackControl.X := Empty
def impl_UnpackControl.id : impl_UnpackControl.X → Nat := fun _ => 0
def impl_UnpackControl.st : impl_UnpackControl.X → List (PV U) := fun _ => []
def impl_UnpackControl.begin (a0 : Int) : Tr impl_UnpackControl.X impl_UnpackControl.A :=
 .need ((8 : Int) ≠ 0) (.need ((8 : Int) ≠ 0) (.need ((16 : Int) ≠ 0) (.need ((128 : Int) ≠ 0) (.ite (decide (a0 < (0 : Int)))
  (.ret ((-1 : Int), (-1 : Int), (-1 : Int)))
  (.call (impl_PackControl.told (Int.tmod a0 (8 : Int)) (Int.tmod (wr (Int.tdiv a0 (8 : Int))) (16 : Int)) (wr (Int.tdiv a0 (128 : Int)))) fun t1 => .ite (!decide (t1 = a0))
   (.ret ((-1 : Int), (-1 : Int), (-1 : Int)))
   (.ret ((Int.tmod a0 (8 : Int)), (Int.tmod (wr (Int.tdiv a0 (8 : Int))) (16 : Int)), (wr (Int.tdiv a0 (128 : Int))))))))))
def impl_UnpackControl.tree : impl_UnpackControl.X → Tr impl_UnpackControl.X impl_UnpackControl.A := fun _ => .fail
def impl_UnpackControl.f (a0 : Int) : Option impl_UnpackControl.A := (impl_UnpackControl.begin a0).run (lp impl_UnpackControl.tree)
def impl_UnpackControl.Q : Plan C := { PL with cuts := [], ords := [], weak := [] }
theorem impl_UnpackControl.e (J : Nat → St C → Prop) (K : PV U → List (PV U) → Prop) (x : impl_UnpackControl.X) : Tr.sem (fun x => J (impl_UnpackControl.id x) (impl_UnpackControl.st x)) (fun r => K (impl_UnpackControl.v r) (impl_UnpackControl.o r)) (impl_UnpackControl.tree x) = evCut C impl_UnpackControl.Q (SoundCall Try.prog C) J Try.f83 0 (impl_UnpackControl.id x) (impl_UnpackControl.st x) K := by cases x
theorem impl_UnpackControl.b (a0 : Int) (J : Nat → St C → Prop) (K : PV U → List (PV U) → Prop) : Tr.sem (fun x => J (impl_UnpackControl.id x) (impl_UnpackControl.st x)) (fun r => K (impl_UnpackControl.v r) (impl_UnpackControl.o r)) (impl_UnpackControl.begin a0) = evFn C impl_UnpackControl.Q (SoundCall Try.prog C) J Try.f83 (impl_UnpackControl.S a0) 0 K := by kernel_rfl
def impl_UnpackControl.told (a0 : Int) : YtmdgdcjkbggkmaaEv.Told impl_UnpackControl.A := ⟨impl_UnpackControl.f a0, fun r => SoundCall Try.prog C 83 (impl_UnpackControl.S a0) 0 (impl_UnpackControl.v r) (impl_UnpackControl.o r), fun r h =>
 soundCall_of_tree G mixed impl_UnpackControl.Q Try.func83 rfl (of_decide_eq_true (by kernel_rfl)) (by rfl) impl_UnpackControl.id impl_UnpackControl.st impl_UnpackControl.v impl_UnpackControl.o (fun _ => rfl) impl_UnpackControl.tree (fun J K x => impl_UnpackControl.e J K x) (impl_UnpackControl.begin a0) (fun J K => impl_UnpackControl.b a0 J K) h⟩
/-! #### loop.example/g00983/impl.MemOk (80) -/
def impl_MemOk.S (a0 : List S90) (a1 : List Int) : List (PV U) := YtmdgdcjkbggkmaaEv.start C 72 [.agg [.sl 91 a0], .sl 3 a1] []
inductive impl_MemOk.X where
 | c7 (x0 : List Int) (x1 : Int) (x2 : Int)
def impl_MemOk.id : impl_MemOk.X → Nat
 | .c7 .. => 7
def impl_MemOk.st : impl_MemOk.X → List (PV U)
 | .c7 x0 x1 x2 => stOf 72 [(1, .sl 3 x0), (48, .int .i64 x1), (49, .int .i64 x2)]
def impl_MemOk.begin (a0 : List S90) (a1 : List Int) : Tr impl_MemOk.X impl_MemOk.A :=
 .call (impl_ProgramOk.told a0) fun t1 => .ite (!t1)
  (.ret false)
  (.ite (!decide ((List.length a1 : Int) = (49 : Int)))
   (.ret false)
   (.need ((0 : Int) ≤ (0 : Int) ∧ (0 : Int) ≤ (8 : Int) ∧ (8 : Int) ≤ (List.length a1 : Int)) (.call (impl_areValues.told (List.take (Int.toNat (8 : Int)) a1)) fun t2 => .ite (!t2)
    (.ret false)
    (.need ((0 : Int) ≤ (8 : Int) ∧ (8 : Int) < (List.length a1 : Int)) (.call (impl_UnpackControl.told (rdI a1 (8 : Int))) fun t3 => .ite (decide (t3.1 < (0 : Int)))
     (.ret false)
     (.ite (decide (t3.1 ≥ (List.length a0 : Int)))
      (.ret false)
      (.need ((0 : Int) ≤ (25 : Int) ∧ (25 : Int) ≤ (wr ((25 : Int) + t3.2.2)) ∧ (wr ((25 : Int) + t3.2.2)) ≤ (List.length a1 : Int)) (.call (impl_areValues.told (List.drop (Int.toNat (25 : Int)) (List.take (Int.toNat (wr ((25 : Int) + t3.2.2))) a1))) fun t4 => .ite (!t4)
       (.ret false)
       (.jump (.c7 a1 t3.2.1 (0 : Int)))))))))))
def impl_MemOk.tree : impl_MemOk.X → Tr impl_MemOk.X impl_MemOk.A
 | .c7 x0 x1 x2 =>
 .ite (decide (x2 < x1))
  (.need ((0 : Int) ≤ (wr ((9 : Int) + (wr ((2 : Int) * x2)))) ∧ (wr ((9 : Int) + (wr ((2 : Int) * x2)))) < (List.length x0 : Int)) (.call (impl_isVar.told (rdI x0 (wr ((9 : Int) + (wr ((2 : Int) * x2)))))) fun t5 => .ite (!t5)
   (.ret false)
   (.need ((0 : Int) ≤ (wr ((wr ((9 : Int) + (wr ((2 : Int) * x2)))) + (1 : Int))) ∧ (wr ((wr ((9 : Int) + (wr ((2 : Int) * x2)))) + (1 : Int))) < (List.length x0 : Int)) (.call (impl_IsValue.told (rdI x0 (wr ((wr ((9 : Int) + (wr ((2 : Int) * x2)))) + (1 : Int))))) fun t6 => .ite (!t6)
    (.ret false)
    (.jump (.c7 x0 x1 (wr (x2 + (1 : Int)))))))))
  (.ret true)
def impl_MemOk.f (a0 : List S90) (a1 : List Int) : Option impl_MemOk.A := (impl_MemOk.begin a0 a1).run (lp impl_MemOk.tree)
def impl_MemOk.Q : Plan C := { PL with cuts := [(7, [1, 48, 49])], ords := [], weak := [] }
theorem impl_MemOk.e (J : Nat → St C → Prop) (K : PV U → List (PV U) → Prop) (x : impl_MemOk.X) : Tr.sem (fun x => J (impl_MemOk.id x) (impl_MemOk.st x)) (fun r => K (impl_MemOk.v r) (impl_MemOk.o r)) (impl_MemOk.tree x) = evCut C impl_MemOk.Q (SoundCall Try.prog C) J Try.f80 0 (impl_MemOk.id x) (impl_MemOk.st x) K := by cases x <;> kernel_rfl
theorem impl_MemOk.b (a0 : List S90) (a1 : List Int) (J : Nat → St C → Prop) (K : PV U → List (PV U) → Prop) : Tr.sem (fun x => J (impl_MemOk.id x) (impl_MemOk.st x)) (fun r => K (impl_MemOk.v r) (impl_MemOk.o r)) (impl_MemOk.begin a0 a1) = evFn C impl_MemOk.Q (SoundCall Try.prog C) J Try.f80 (impl_MemOk.S a0 a1) 0 K := by kernel_rfl
def impl_MemOk.told (a0 : List S90) (a1 : List Int) : YtmdgdcjkbggkmaaEv.Told impl_MemOk.A := ⟨impl_MemOk.f a0 a1, fun r => SoundCall Try.prog C 80 (impl_MemOk.S a0 a1) 0 (impl_MemOk.v r) (impl_MemOk.o r), fun r h =>
 soundCall_of_tree G mixed impl_MemOk.Q Try.func80 rfl (of_decide_eq_true (by kernel_rfl)) (by rfl) impl_MemOk.id impl_MemOk.st impl_MemOk.v impl_MemOk.o (fun _ => rfl) impl_MemOk.tree (fun J K x => impl_MemOk.e J K x) (impl_MemOk.begin a0 a1) (fun J K => impl_MemOk.b a0 a1 J K) h⟩
/-! #### loop.example/g00983/impl.SpanOk (81) -/
def impl_SpanOk.S (a0 : Int) (a1 : Int) : List (PV U) := YtmdgdcjkbggkmaaEv.start C 18 [.agg [.int .i64 a0, .int .i64 a1]] []
abbrev impl_SpanOk.X := Empty
def impl_SpanOk.id : impl_SpanOk.X → Nat := fun _ => 0
def impl_SpanOk.st : impl_SpanOk.X → List (PV U) := fun _ => []
def impl_SpanOk.begin (a0 : Int) (a1 : Int) : Tr impl_SpanOk.X impl_SpanOk.A :=
 .ite (decide (a0 ≥ (0 : Int)))
  (.ite (decide (a0 ≤ a1))
   (.ret ((decide (a1 ≤ (1000000 : Int)))))
   (.ret false))
  (.ret false)
def impl_SpanOk.tree : impl_SpanOk.X → Tr impl_SpanOk.X impl_SpanOk.A := fun _ => .fail
def impl_SpanOk.f (a0 : Int) (a1 : Int) : Option impl_SpanOk.A := (impl_SpanOk.begin a0 a1).run (lp impl_SpanOk.tree)
def impl_SpanOk.Q : Plan C := { PL with cuts := [], ords := [], weak := [] }
theorem impl_SpanOk.e (J : Nat → St C → Prop) (K : PV U → List (PV U) → Prop) (x : impl_SpanOk.X) : Tr.sem (fun x => J (impl_SpanOk.id x) (impl_SpanOk.st x)) (fun r => K (impl_SpanOk.v r) (impl_SpanOk.o r)) (impl_SpanOk.tree x) = evCut C impl_SpanOk.Q (SoundCall Try.prog C) J Try.f81 0 (impl_SpanOk.id x) (impl_SpanOk.st x) K := by cases x
theorem impl_SpanOk.b (a0 : Int) (a1 : Int) (J : Nat → St C → Prop) (K : PV U → List (PV U) → Prop) : Tr.sem (fun x => J (impl_SpanOk.id x) (impl_SpanOk.st x)) (fun r => K (impl_SpanOk.v r) (impl_SpanOk.o r)) (impl_SpanOk.begin a0 a1) = evFn C impl_SpanOk.Q (SoundCall Try.prog C) J Try.f81 (impl_SpanOk.S a0 a1) 0 K := by kernel_rfl
def impl_SpanOk.told (a0 : Int) (a1 : Int) : YtmdgdcjkbggkmaaEv.Told impl_SpanOk.A := ⟨impl_SpanOk.f a0 a1, fun r => SoundCall Try.prog C 81 (impl_SpanOk.S a0 a1) 0 (impl_SpanOk.v r) (impl_SpanOk.o r), fun r h =>
 soundCall_of_tree G mixed impl_SpanOk.Q Try.func81 rfl (of_decide_eq_true (by kernel_rfl)) (by rfl) impl_SpanOk.id impl_SpanOk.st impl_SpanOk.v impl_SpanOk.o (fun _ => rfl) impl_SpanOk.tree (fun J K x => impl_SpanOk.e J K x) (impl_SpanOk.begin a0 a1) (fun J K => impl_SpanOk.b a0 a1 J K) h⟩
/-! #### loop.example/g00983/impl.MemSent (51) -/
def impl_MemSent.S (a0 : List Int) : List (PV U) := YtmdgdcjkbggkmaaEv.start C 24 [.sl 3 a0] []
abbrev impl_MemSent.X := Empty
def impl_MemSent.id : impl_MemSent.X → Nat := fun _ => 0
def impl_MemSent.st : impl_MemSent.X → List (PV U) := fun _ => []
def impl_MemSent.begin (a0 : List Int) : Tr impl_MemSent.X impl_MemSent.A :=
 .ite (!decide ((List.length a0 : Int) = (49 : Int)))
  (.ret (([] : List Int)))
  (.need ((0 : Int) ≤ (8 : Int) ∧ (8 : Int) < (List.length a0 : Int)) (.call (impl_UnpackControl.told (rdI a0 (8 : Int))) fun t1 => .ite (decide (t1.2.2 < (0 : Int)))
   (.ret (([] : List Int)))
   (.need ((0 : Int) ≤ (25 : Int) ∧ (25 : Int) ≤ (wr ((25 : Int) + t1.2.2)) ∧ (wr ((25 : Int) + t1.2.2)) ≤ (List.length a0 : Int)) (.call (slices_Clone_int.told (List.drop (Int.toNat (25 : Int)) (List.take (Int.toNat (wr ((25 : Int) + t1.2.2))) a0))) fun t2 => .ret t2))))
def impl_MemSent.tree : impl_MemSent.X → Tr impl_MemSent.X impl_MemSent.A := fun _ => .fail
def impl_MemSent.f (a0 : List Int) : Option impl_MemSent.A := (impl_MemSent.begin a0).run (lp impl_MemSent.tree)
def impl_MemSent.Q : Plan C := { PL with cuts := [], ords := [], weak := [] }
theorem impl_MemSent.e (J : Nat → St C → Prop) (K : PV U → List (PV U) → Prop) (x : impl_MemSent.X) : Tr.sem (fun x => J (impl_MemSent.id x) (impl_MemSent.st x)) (fun r => K (impl_MemSent.v r) (impl_MemSent.o r)) (impl_MemSent.tree x) = evCut C impl_MemSent.Q (SoundCall Try.prog C) J Try.f51 0 (impl_MemSent.id x) (impl_MemSent.st x) K := by cases x
theorem impl_MemSent.b (a0 : List Int) (J : Nat → St C → Prop) (K : PV U → List (PV U) → Prop) : Tr.sem (fun x => J (impl_MemSent.id x) (impl_MemSent.st x)) (fun r => K (impl_MemSent.v r) (impl_MemSent.o r)) (impl_MemSent.begin a0) = evFn C impl_MemSent.Q (SoundCall Try.prog C) J Try.f51 (impl_MemSent.S a0) 0 K := by kernel_rfl
def impl_MemSent.told (a0 : List Int) : YtmdgdcjkbggkmaaEv.Told impl_MemSent.A := ⟨impl_MemSent.f a0, fun r => SoundCall Try.prog C 51 (impl_MemSent.S a0) 0 (impl_MemSent.v r) (impl_MemSent.o r), fun r h =>
 soundCall_of_tree G mixed impl_MemSent.Q Try.func51 rfl (of_decide_eq_true (by kernel_rfl)) (by rfl) impl_MemSent.id impl_MemSent.st impl_MemSent.v impl_MemSent.o (fun _ => rfl) impl_MemSent.tree (fun J K x => impl_MemSent.e J K x) (impl_MemSent.begin a0) (fun J K => impl_MemSent.b a0 J K) h⟩
/-! #### slices.Equal[[]int,int] (108) -/
def slices_Equal_int.S (a0 : List Int) (a1 : List Int) : List (PV U) := YtmdgdcjkbggkmaaEv.start C 26 [.sl 3 a0, .sl 3 a1] []
inductive slices_Equal_int.X where
 | c4 (x0 : List Int) (x1 : List Int) (x2 : Int) (x3 : Int)
def slices_Equal_int.id : slices_Equal_int.X → Nat
 | .c4 .. => 4
def slices_Equal_int.st : slices_Equal_int.X → List (PV U)
 | .c4 x0 x1 x2 x3 => stOf 26 [(0, .sl 3 x0), (1, .sl 3 x1), (12, .int .i64 x2), (13, .int .i64 x3)]
def slices_Equal_int.begin (a0 : List Int) (a1 : List Int) : Tr slices_Equal_int.X slices_Equal_int.A :=
 .ite (!decide ((List.length a0 : Int) = (List.length a1 : Int)))
  (.ret false)
  (.jump (.c4 a0 a1 (List.length a0 : Int) (0 : Int)))
def slices_Equal_int.tree : slices_Equal_int.X → Tr slices_Equal_int.X slices_Equal_int.A
 | .c4 x0 x1 x2 x3 =>
 .ite (decide (x3 < x2))
  (.need ((0 : Int) ≤ x3 ∧ x3 < (List.length x0 : Int)) (.need ((0 : Int) ≤ x3 ∧ x3 < (List.length x1 : Int)) (.ite (!decide ((rdI x0 x3) = (rdI x1 x3)))
   (.ret false)
   (.jump (.c4 x0 x1 x2 (wr (x3 + (1 : Int))))))))
  (.ret true)
def slices_Equal_int.f (a0 : List Int) (a1 : List Int) : Option slices_Equal_int.A := (slices_Equal_int.begin a0 a1).run (lp slices_Equal_int.tree)
def slices_Equal_int.Q : Plan C := { PL with cuts := [(4, [0, 1, 12, 13])], ords := [(6, [], (.take 0 [] (.take 1 [] (.take 2 [] (.take 4 [] (.take 5 [] (.take 6 [] (.take 3 [0, 1, 2, 4, 5, 6, 7] (.take 7 [0, 1, 2, 3, 4, 5, 6] (.take 8 [] .done))))))))))], weak := [] }
theorem slices_Equal_int.e (J : Nat → St C → Prop) (K : PV U → List (PV U) → Prop) (x : slices_Equal_int.X) : Tr.sem (fun x => J (slices_Equal_int.id x) (slices_Equal_int.st x)) (fun r => K (slices_Equal_int.v r) (slices_Equal_int.o r)) (slices_Equal_int.tree x) = evCut C slices_Equal_int.Q (SoundCall Try.prog C) J Try.f108 0 (slices_Equal_int.id x) (slices_Equal_int.st x) K := by cases x <;> kernel_rfl
theorem slices_Equal_int.b (a0 : List Int) (a1 : List Int) (J : Nat → St C → Prop) (K : PV U → List (PV U) → Prop) : Tr.sem (fun x => J (slices_Equal_int.id x) (slices_Equal_int.st x)) (fun r => K (slices_Equal_int.v r) (slices_Equal_int.o r)) (slices_Equal_int.begin a0 a1) = evFn C slices_Equal_int.Q (SoundCall Try.prog C) J Try.f108 (slices_Equal_int.S a0 a1) 0 K := by kernel_rfl
def slices_Equal_int.told (a0 : List Int) (a1 : List Int) : YtmdgdcjkbggkmaaEv.Told slices_Equal_int.A := ⟨slices_Equal_int.f a0 a1, fun r => SoundCall Try.prog C 108 (slices_Equal_int.S a0 a1) 0 (slices_Equal_int.v r) (slices_Equal_int.o r), fun r h =>
 soundCall_of_tree G mixed slices_Equal_int.Q Try.func108 rfl (of_decide_eq_true (by kernel_rfl)) (by rfl) slices_Equal_int.id slices_Equal_int.st slices_Equal_int.v slices_Equal_int.o (fun _ => rfl) slices_Equal_int.tree (fun J K x => slices_Equal_int.e J K x) (slices_Equal_int.begin a0 a1) (fun J K => slices_Equal_int.b a0 a1 J K) h⟩
/-! #### loop.example/g00983/impl.IsPrefixOf (100) -/
def impl_IsPrefixOf.S (a0 : List Int) (a1 : List Int) : List (PV U) := YtmdgdcjkbggkmaaEv.start C 18 [.sl 3 a0, .sl 3 a1] []
abbrev impl_IsPrefixOf.X := Empty
def impl_IsPrefixOf.id : impl_IsPrefixOf.X → Nat := fun _ => 0
def impl_IsPrefixOf.st : impl_IsPrefixOf.X → List (PV U) := fun _ => []
def impl_IsPrefixOf.begin (a0 : List Int) (a1 : List Int) : Tr impl_IsPrefixOf.X impl_IsPrefixOf.A :=
 .ite (decide ((List.length a0 : Int) ≤ (List.length a1 : Int)))
  (.need ((0 : Int) ≤ (0 : Int) ∧ (0 : Int) ≤ (List.length a0 : Int) ∧ (List.length a0 : Int) ≤ (List.length a1 : Int)) (.call (slices_Equal_int.told a0 (List.take (Int.toNat (List.length a0 : Int)) a1)) fun t1 => .ret t1))
  (.ret false)
def impl_IsPrefixOf.tree : impl_IsPrefixOf.X → Tr impl_IsPrefixOf.X impl_IsPrefixOf.A := fun _ => .fail
def impl_IsPrefixOf.f (a0 : List Int) (a1 : List Int) : Option impl_IsPrefixOf.A := (impl_IsPrefixOf.begin a0 a1).run (lp impl_IsPrefixOf.tree)
def impl_IsPrefixOf.Q : Plan C := { PL with cuts := [], ords := [], weak := [] }
theorem impl_IsPrefixOf.e (J : Nat → St C → Prop) (K : PV U → List (PV U) → Prop) (x : impl_IsPrefixOf.X) : Tr.sem (fun x => J (impl_IsPrefixOf.id x) (impl_IsPrefixOf.st x)) (fun r => K (impl_IsPrefixOf.v r) (impl_IsPrefixOf.o r)) (impl_IsPrefixOf.tree x) = evCut C impl_IsPrefixOf.Q (SoundCall Try.prog C) J Try.f100 0 (impl_IsPrefixOf.id x) (impl_IsPrefixOf.st x) K := by cases x
theorem impl_IsPrefixOf.b (a0 : List Int) (a1 : List Int) (J : Nat → St C → Prop) (K : PV U → List (PV U) → Prop) : Tr.sem (fun x => J (impl_IsPrefixOf.id x) (impl_IsPrefixOf.st x)) (fun r => K (impl_IsPrefixOf.v r) (impl_IsPrefixOf.o r)) (impl_IsPrefixOf.begin a0 a1) = evFn C impl_IsPrefixOf.Q (SoundCall Try.prog C) J Try.f100 (impl_IsPrefixOf.S a0 a1) 0 K := by kernel_rfl
def impl_IsPrefixOf.told (a0 : List Int) (a1 : List Int) : YtmdgdcjkbggkmaaEv.Told impl_IsPrefixOf.A := ⟨impl_IsPrefixOf.f a0 a1, fun r => SoundCall Try.prog C 100 (impl_IsPrefixOf.S a0 a1) 0 (impl_IsPrefixOf.v r) (impl_IsPrefixOf.o r), fun r h =>
 soundCall_of_tree G mixed impl_IsPrefixOf.Q Try.func100 rfl (of_decide_eq_true (by kernel_rfl)) (by rfl) impl_IsPrefixOf.id impl_IsPrefixOf.st impl_IsPrefixOf.v impl_IsPrefixOf.o (fun _ => rfl) impl_IsPrefixOf.tree (fun J K x => impl_IsPrefixOf.e J K x) (impl_IsPrefixOf.begin a0 a1) (fun J K => impl_IsPrefixOf.b a0 a1 J K) h⟩
/-! #### loop.example/g00983/impl.LinkOk (82) -/
def impl_LinkOk.S (a0 : List Int) (a1 : Int) (a2 : List Int) : List (PV U) := YtmdgdcjkbggkmaaEv.start C 20 [.sl 3 a0, .agg [.int .i64 a1, .sl 3 a2]] []
abbrev impl_LinkOk.X := Empty
def impl_LinkOk.id : impl_LinkOk.X → Nat := fun _ => 0
def impl_LinkOk.st : impl_LinkOk.X → List (PV U) := fun _ => []
def impl_LinkOk.begin (a0 : List Int) (a1 : Int) (a2 : List Int) : Tr impl_LinkOk.X impl_LinkOk.A :=
 .last (.call (impl_within.told a1 (0 : Int) (List.length a2 : Int)) fun t1 => .ite t1
  (.last (.call (impl_MemSent.told a0) fun t2 => .last (.call (impl_IsPrefixOf.told a2 t2) fun t3 => .ret t3)))
  (.last (.last (.ret false))))
def impl_LinkOk.tree : impl_LinkOk.X → Tr impl_LinkOk.X impl_LinkOk.A := fun _ => .fail
def impl_LinkOk.f (a0 : List Int) (a1 : Int) (a2 : List Int) : Option impl_LinkOk.A := (impl_LinkOk.begin a0 a1 a2).run (lp impl_LinkOk.tree)
def impl_LinkOk.Q : Plan C := { PL with cuts := [], ords := [(1, [], (.take 0 [] (.take 2 [] (.take 3 [] (.take 1 [0, 2, 3, 4, 5] (.take 4 [0, 1, 2, 3] (.take 5 [] (.alt 6 (.take 7 [] (.take 8 [] (.take 9 [] (.take 11 [] (.take 10 [0, 1, 2, 3, 4, 5, 6, 7, 8, 9, 11, 12] (.alt 12 (.alt 13 (.take 14 [] (.take 15 [] .done)) .nil) .nil)))))) .nil))))))))], weak := [] }
theorem impl_LinkOk.e (J : Nat → St C → Prop) (K : PV U → List (PV U) → Prop) (x : impl_LinkOk.X) : Tr.sem (fun x => J (impl_LinkOk.id x) (impl_LinkOk.st x)) (fun r => K (impl_LinkOk.v r) (impl_LinkOk.o r)) (impl_LinkOk.tree x) = evCut C impl_LinkOk.Q (SoundCall Try.prog C) J Try.f82 0 (impl_LinkOk.id x) (impl_LinkOk.st x) K := by cases x
theorem impl_LinkOk.b (a0 : List Int) (a1 : Int) (a2 : List Int) (J : Nat → St C → Prop) (K : PV U → List (PV U) → Prop) : Tr.sem (fun x => J (impl_LinkOk.id x) (impl_LinkOk.st x)) (fun r => K (impl_LinkOk.v r) (impl_LinkOk.o r)) (impl_LinkOk.begin a0 a1 a2) = evFn C impl_LinkOk.Q (SoundCall Try.prog C) J Try.f82 (impl_LinkOk.S a0 a1 a2) 0 K := by kernel_rfl
def impl_LinkOk.told (a0 : List Int) (a1 : Int) (a2 : List Int) : YtmdgdcjkbggkmaaEv.Told impl_LinkOk.A := ⟨impl_LinkOk.f a0 a1 a2, fun r => SoundCall Try.prog C 82 (impl_LinkOk.S a0 a1 a2) 0 (impl_LinkOk.v r) (impl_LinkOk.o r), fun r h =>
 soundCall_of_tree G mixed impl_LinkOk.Q Try.func82 rfl (of_decide_eq_true (by kernel_rfl)) (by rfl) impl_LinkOk.id impl_LinkOk.st impl_LinkOk.v impl_LinkOk.o (fun _ => rfl) impl_LinkOk.tree (fun J K x => impl_LinkOk.e J K x) (impl_LinkOk.begin a0 a1 a2) (fun J K => impl_LinkOk.b a0 a1 a2 J K) h⟩
/-! #### loop.example/g00983/impl.NodeOk (50) -/
def impl_NodeOk.S (a0 : List S90) (a1 : List Int) (a2 : List Int) (a3 : Int) (a4 : Int) (a5 : Int) (a6 : Int) (a7 : Int) (a8 : Int) (a9 : Int) (a10 : Int) (a11 : List Int) (a12 : Int) : List (PV U) := YtmdgdcjkbggkmaaEv.start C 40 [.agg [.sl 91 a0, .sl 3 a1, .sl 3 a2, .int .i64 a3, .int .i64 a4, .int .i64 a5, .int .i64 a6, .int .i64 a7, .int .i64 a8, .int .i64 a9, .int .i64 a10, .sl 3 a11, .int .i64 a12]] []
abbrev impl_NodeOk.X := Empty
def impl_NodeOk.id : impl_NodeOk.X → Nat := fun _ => 0
def impl_NodeOk.st : impl_NodeOk.X → List (PV U) := fun _ => []
def impl_NodeOk.begin (a0 : List S90) (a1 : List Int) (a2 : List Int) (a3 : Int) (a4 : Int) (a5 : Int) (a6 : Int) (a7 : Int) (a8 : Int) (a9 : Int) (a10 : Int) (a11 : List Int) (a12 : Int) : Tr impl_NodeOk.X impl_NodeOk.A :=
 .call (impl_MemOk.told a0 a1) fun t1 => .ite t1
  (.call (impl_StoreOk.told a4 a5 a6 a7) fun t2 => .ite t2
   (.call (impl_areValues.told a2) fun t3 => .ite t3
    (.call (impl_within.told a3 (0 : Int) (400000 : Int)) fun t4 => .ite t4
     (.call (impl_SpanOk.told a8 a9) fun t5 => .ite t5
      (.call (impl_LinkOk.told a1 a10 a11) fun t6 => .ite t6
       (.call (impl_within.told a12 (0 : Int) (100000 : Int)) fun t7 => .ret t7)
       (.ret false))
      (.ret false))
     (.ret false))
    (.ret false))
   (.ret false))
  (.ret false)
def impl_NodeOk.tree : impl_NodeOk.X → Tr impl_NodeOk.X impl_NodeOk.A := fun _ => .fail
def impl_NodeOk.f (a0 : List S90) (a1 : List Int) (a2 : List Int) (a3 : Int) (a4 : Int) (a5 : Int) (a6 : Int) (a7 : Int) (a8 : Int) (a9 : Int) (a10 : Int) (a11 : List Int) (a12 : Int) : Option impl_NodeOk.A := (impl_NodeOk.begin a0 a1 a2 a3 a4 a5 a6 a7 a8 a9 a10 a11 a12).run (lp impl_NodeOk.tree)
def impl_NodeOk.Q : Plan C := { PL with cuts := [], ords := [], weak := [] }
theorem impl_NodeOk.e (J : Nat → St C → Prop) (K : PV U → List (PV U) → Prop) (x : impl_NodeOk.X) : Tr.sem (fun x => J (impl_NodeOk.id x) (impl_NodeOk.st x)) (fun r => K (impl_NodeOk.v r) (impl_NodeOk.o r)) (impl_NodeOk.tree x) = evCut C impl_NodeOk.Q (SoundCall Try.prog C) J Try.f50 0 (impl_NodeOk.id x) (impl_NodeOk.st x) K := by cases x
theorem impl_NodeOk.b (a0 : List S90) (a1 : List Int) (a2 : List Int) (a3 : Int) (a4 : Int) (a5 : Int) (a6 : Int) (a7 : Int) (a8 : Int) (a9 : Int) (a10 : Int) (a11 : List Int) (a12 : Int) (J : Nat → St C → Prop) (K : PV U → List (PV U) → Prop) : Tr.sem (fun x => J (impl_NodeOk.id x) (impl_NodeOk.st x)) (fun r => K (impl_NodeOk.v r) (impl_NodeOk.o r)) (impl_NodeOk.begin a0 a1 a2 a3 a4 a5 a6 a7 a8 a9 a10 a11 a12) = evFn C impl_NodeOk.Q (SoundCall Try.prog C) J Try.f50 (impl_NodeOk.S a0 a1 a2 a3 a4 a5 a6 a7 a8 a9 a10 a11 a12) 0 K := by kernel_rfl
def impl_NodeOk.told (a0 : List S90) (a1 : List Int) (a2 : List Int) (a3 : Int) (a4 : Int) (a5 : Int) (a6 : Int) (a7 : Int) (a8 : Int) (a9 : Int) (a10 : Int) (a11 : List Int) (a12 : Int) : YtmdgdcjkbggkmaaEv.Told impl_NodeOk.A := ⟨impl_NodeOk.f a0 a1 a2 a3 a4 a5 a6 a7 a8 a9 a10 a11 a12, fun r => SoundCall Try.prog C 50 (impl_NodeOk.S a0 a1 a2 a3 a4 a5 a6 a7 a8 a9 a10 a11 a12) 0 (impl_NodeOk.v r) (impl_NodeOk.o r), fun r h =>
 soundCall_of_tree G mixed impl_NodeOk.Q Try.func50 rfl (of_decide_eq_true (by kernel_rfl)) (by rfl) impl_NodeOk.id impl_NodeOk.st impl_NodeOk.v impl_NodeOk.o (fun _ => rfl) impl_NodeOk.tree (fun J K x => impl_NodeOk.e J K x) (impl_NodeOk.begin a0 a1 a2 a3 a4 a5 a6 a7 a8 a9 a10 a11 a12) (fun J K => impl_NodeOk.b a0 a1 a2 a3 a4 a5 a6 a7 a8 a9 a10 a11 a12 J K) h⟩
/-! #### loop.example/g00983/impl.SentBy (21) -/
def impl_SentBy.S (a0 : List S90) (a1 : List Int) (a2 : List Int) (a3 : Int) (a4 : Int) (a5 : Int) (a6 : Int) (a7 : Int) (a8 : Int) (a9 : Int) (a10 : Int) (a11 : List Int) (a12 : Int) : List (PV U) := YtmdgdcjkbggkmaaEv.start C 9 [.agg [.sl 91 a0, .sl 3 a1, .sl 3 a2, .int .i64 a3, .int .i64 a4, .int .i64 a5, .int .i64 a6, .int .i64 a7, .int .i64 a8, .int .i64 a9, .int .i64 a10, .sl 3 a11, .int .i64 a12]] []
abbrev impl_SentBy.X := Empty
def impl_SentBy.id : impl_SentBy.X → Nat := fun _ => 0
def impl_SentBy.st : impl_SentBy.X → List (PV U) := fun _ => []
def impl_SentBy.begin (a0 : List S90) (a1 : List Int) (a2 : List Int) (a3 : Int) (a4 : Int) (a5 : Int) (a6 : Int) (a7 : Int) (a8 : Int) (a9 : Int) (a10 : Int) (a11 : List Int) (a12 : Int) : Tr impl_SentBy.X impl_SentBy.A :=
 .call (impl_NodeOk.told a0 a1 a2 a3 a4 a5 a6 a7 a8 a9 a10 a11 a12) fun t1 => .ite (!t1)
  (.ret (([] : List Int)))
  (.call (impl_MemSent.told a1) fun t2 => .ret t2)
def impl_SentBy.tree : impl_SentBy.X → Tr impl_SentBy.X impl_SentBy.A := fun _ => .fail
def impl_SentBy.f (a0 : List S90) (a1 : List Int) (a2 : List Int) (a3 : Int) (a4 : Int) (a5 : Int) (a6 : Int) (a7 : Int) (a8 : Int) (a9 : Int) (a10 : Int) (a11 : List Int) (a12 : Int) : Option impl_SentBy.A := (impl_SentBy.begin a0 a1 a2 a3 a4 a5 a6 a7 a8 a9 a10 a11 a12).run (lp impl_SentBy.tree)
def impl_SentBy.Q : Plan C := { PL with cuts := [], ords := [], weak := [] }
theorem impl_SentBy.e (J : Nat → St C → Prop) (K : PV U → List (PV U) → Prop) (x : impl_SentBy.X) : Tr.sem (fun x => J (impl_SentBy.id x) (impl_SentBy.st x)) (fun r => K (impl_SentBy.v r) (impl_SentBy.o r)) (impl_SentBy.tree x) = evCut C impl_SentBy.Q (SoundCall Try.prog C) J Try.f21 0 (impl_SentBy.id x) (impl_SentBy.st x) K := by cases x
theorem impl_SentBy.b (a0 : List S90) (a1 : List Int) (a2 : List Int) (a3 : Int) (a4 : Int) (a5 : Int) (a6 : Int) (a7 : Int) (a8 : Int) (a9 : Int) (a10 : Int) (a11 : List Int) (a12 : Int) (J : Nat → St C → Prop) (K : PV U → List (PV U) → Prop) : Tr.sem (fun x => J (impl_SentBy.id x) (impl_SentBy.st x)) (fun r => K (impl_SentBy.v r) (impl_SentBy.o r)) (impl_SentBy.begin a0 a1 a2 a3 a4 a5 a6 a7 a8 a9 a10 a11 a12) = evFn C impl_SentBy.Q (SoundCall Try.prog C) J Try.f21 (impl_SentBy.S a0 a1 a2 a3 a4 a5 a6 a7 a8 a9 a10 a11 a12) 0 K := by kernel_rfl
def impl_SentBy.told (a0 : List S90) (a1 : List Int) (a2 : List Int) (a3 : Int) (a4 : Int) (a5 : Int) (a6 : Int) (a7 : Int) (a8 : Int) (a9 : Int) (a10 : Int) (a11 : List Int) (a12 : Int) : YtmdgdcjkbggkmaaEv.Told impl_SentBy.A := ⟨impl_SentBy.f a0 a1 a2 a3 a4 a5 a6 a7 a8 a9 a10 a11 a12, fun r => SoundCall Try.prog C 21 (impl_SentBy.S a0 a1 a2 a3 a4 a5 a6 a7 a8 a9 a10 a11 a12) 0 (impl_SentBy.v r) (impl_SentBy.o r), fun r h =>
 soundCall_of_tree G mixed impl_SentBy.Q Try.func21 rfl (of_decide_eq_true (by kernel_rfl)) (by rfl) impl_SentBy.id impl_SentBy.st impl_SentBy.v impl_SentBy.o (fun _ => rfl) impl_SentBy.tree (fun J K x => impl_SentBy.e J K x) (impl_SentBy.begin a0 a1 a2 a3 a4 a5 a6 a7 a8 a9 a10 a11 a12) (fun J K => impl_SentBy.b a0 a1 a2 a3 a4 a5 a6 a7 a8 a9 a10 a11 a12 J K) h⟩
/-! #### loop.example/g00983/laws.FnExactSentBy (4) -/
def laws_FnExactSentBy.S (a0 : List S85) (a1 : List Int) (a2 : List Int) (a3 : Int) (a4 : Int) (a5 : Int) (a6 : Int) (a7 : Int) (a8 : Int) (a9 : Int) (a10 : Int) (a11 : List Int) (a12 : Int) : List (PV U) := YtmdgdcjkbggkmaaEv.start C 69 [.agg [.sl 86 a0, .sl 3 a1, .sl 3 a2, .int .i64 a3, .int .i64 a4, .int .i64 a5, .int .i64 a6, .int .i64 a7, .int .i64 a8, .int .i64 a9, .int .i64 a10, .sl 3 a11, .int .i64 a12]] []
abbrev laws_FnExactSentBy.X := Empty
def laws_FnExactSentBy.id : laws_FnExactSentBy.X → Nat := fun _ => 0
def laws_FnExactSentBy.st : laws_FnExactSentBy.X → List (PV U) := fun _ => []
def laws_FnExactSentBy.begin (a0 : List S85) (a1 : List Int) (a2 : List Int) (a3 : Int) (a4 : Int) (a5 : Int) (a6 : Int) (a7 : Int) (a8 : Int) (a9 : Int) (a10 : Int) (a11 : List Int) (a12 : Int) : Tr laws_FnExactSentBy.X laws_FnExactSentBy.A :=
 .call (laws_szNode.told a0 a1 a2 a3 a4 a5 a6 a7 a8 a9 a10 a11 a12 (1048576 : Int)) fun t1 => .ite (decide (t1 < (0 : Int)))
  (.ret true)
  (.call (laws_toNode.told a0 a1 a2 a3 a4 a5 a6 a7 a8 a9 a10 a11 a12) fun t2 => .call (spec_SentBy.told t2.1 t2.2.1 t2.2.2.1 t2.2.2.2.1 t2.2.2.2.2.1 t2.2.2.2.2.2.1 t2.2.2.2.2.2.2.1 t2.2.2.2.2.2.2.2.1 t2.2.2.2.2.2.2.2.2.1 t2.2.2.2.2.2.2.2.2.2.1 t2.2.2.2.2.2.2.2.2.2.2.1 t2.2.2.2.2.2.2.2.2.2.2.2.1 t2.2.2.2.2.2.2.2.2.2.2.2.2) fun t3 => .call (laws_toNode.told a0 a1 a2 a3 a4 a5 a6 a7 a8 a9 a10 a11 a12) fun t4 => .call (impl_SentBy.told t4.1 t4.2.1 t4.2.2.1 t4.2.2.2.1 t4.2.2.2.2.1 t4.2.2.2.2.2.1 t4.2.2.2.2.2.2.1 t4.2.2.2.2.2.2.2.1 t4.2.2.2.2.2.2.2.2.1 t4.2.2.2.2.2.2.2.2.2.1 t4.2.2.2.2.2.2.2.2.2.2.1 t4.2.2.2.2.2.2.2.2.2.2.2.1 t4.2.2.2.2.2.2.2.2.2.2.2.2) fun t5 => .call (laws_eqIntS.told t5 t3) fun t6 => .ite (!t6)
   (.ret false)
   (.last (.call (laws_toNode.told a0 a1 a2 a3 a4 a5 a6 a7 a8 a9 a10 a11 a12) fun t7 => .last (.call (laws_eqNode.told t4.1 t4.2.1 t4.2.2.1 t4.2.2.2.1 t4.2.2.2.2.1 t4.2.2.2.2.2.1 t4.2.2.2.2.2.2.1 t4.2.2.2.2.2.2.2.1 t4.2.2.2.2.2.2.2.2.1 t4.2.2.2.2.2.2.2.2.2.1 t4.2.2.2.2.2.2.2.2.2.2.1 t4.2.2.2.2.2.2.2.2.2.2.2.1 t4.2.2.2.2.2.2.2.2.2.2.2.2 t7.1 t7.2.1 t7.2.2.1 t7.2.2.2.1 t7.2.2.2.2.1 t7.2.2.2.2.2.1 t7.2.2.2.2.2.2.1 t7.2.2.2.2.2.2.2.1 t7.2.2.2.2.2.2.2.2.1 t7.2.2.2.2.2.2.2.2.2.1 t7.2.2.2.2.2.2.2.2.2.2.1 t7.2.2.2.2.2.2.2.2.2.2.2.1 t7.2.2.2.2.2.2.2.2.2.2.2.2) fun t8 => .ite (!t8)
    (.ret false)
    (.call (laws_markNode.told t4.2.2.2.1 t4.2.2.2.2.1 t4.2.2.2.2.2.1 t4.2.2.2.2.2.2.1 t4.2.2.2.2.2.2.2.1 t4.2.2.2.2.2.2.2.2.1 t4.2.2.2.2.2.2.2.2.2.1 t4.2.2.2.2.2.2.2.2.2.2.1 t4.2.2.2.2.2.2.2.2.2.2.2.2 (1 : Int) t4.1 t4.2.1 t4.2.2.1 t4.2.2.2.2.2.2.2.2.2.2.2.1) fun t9 => .ite (decide (t9.1 < (0 : Int)))
     (.ret false)
     (.call (laws_eqIntS.told t5 t3) fun t10 => .ite (!t10)
      (.ret false)
      (.call (laws_markIntS.told (1 : Int) t5) fun t11 => .call (laws_heldIntS.told t11.2 (1 : Int)) fun t12 => .ite (decide (t12 < (0 : Int)))
       (.ret false)
       (.ite (!decide (t12 = t11.1))
        (.ret false)
        (.call (laws_toNode.told a0 a1 a2 a3 a4 a5 a6 a7 a8 a9 a10 a11 a12) fun t13 => .call (impl_SentBy.told t13.1 t13.2.1 t13.2.2.1 t13.2.2.2.1 t13.2.2.2.2.1 t13.2.2.2.2.2.1 t13.2.2.2.2.2.2.1 t13.2.2.2.2.2.2.2.1 t13.2.2.2.2.2.2.2.2.1 t13.2.2.2.2.2.2.2.2.2.1 t13.2.2.2.2.2.2.2.2.2.2.1 t13.2.2.2.2.2.2.2.2.2.2.2.1 t13.2.2.2.2.2.2.2.2.2.2.2.2) fun t14 => .call (laws_eqIntS.told t14 t3) fun t15 => .ite (!t15)
         (.ret false)
         (.call (laws_heldIntS.told t11.2 (1 : Int)) fun t16 => .ite (decide (t16 < (0 : Int)))
          (.ret false)
          (.ite (!decide (t16 = t11.1))
           (.ret false)
           (.ret true))))))))))))
def laws_FnExactSentBy.tree : laws_FnExactSentBy.X → Tr laws_FnExactSentBy.X laws_FnExactSentBy.A := fun _ => .fail
def laws_FnExactSentBy.f (a0 : List S85) (a1 : List Int) (a2 : List Int) (a3 : Int) (a4 : Int) (a5 : Int) (a6 : Int) (a7 : Int) (a8 : Int) (a9 : Int) (a10 : Int) (a11 : List Int) (a12 : Int) : Option laws_FnExactSentBy.A := (laws_FnExactSentBy.begin a0 a1 a2 a3 a4 a5 a6 a7 a8 a9 a10 a11 a12).run (lp laws_FnExactSentBy.tree)
def laws_FnExactSentBy.Q : Plan C := { PL with cuts := [], ords := [(10, [], (.take 0 [1, 2] (.take 1 [0] (.alt 2 (.alt 3 (.take 4 [] .done) .nil) .nil))))], weak := [] }
theorem laws_FnExactSentBy.e (J : Nat → St C → Prop) (K : PV U → List (PV U) → Prop) (x : laws_FnExactSentBy.X) : Tr.sem (fun x => J (laws_FnExactSentBy.id x) (laws_FnExactSentBy.st x)) (fun r => K (laws_FnExactSentBy.v r) (laws_FnExactSentBy.o r)) (laws_FnExactSentBy.tree x) = evCut C laws_FnExactSentBy.Q (SoundCall Try.prog C) J Try.f4 0 (laws_FnExactSentBy.id x) (laws_FnExactSentBy.st x) K := by cases x
theorem laws_FnExactSentBy.b (a0 : List S85) (a1 : List Int) (a2 : List Int) (a3 : Int) (a4 : Int) (a5 : Int) (a6 : Int) (a7 : Int) (a8 : Int) (a9 : Int) (a10 : Int) (a11 : List Int) (a12 : Int) (J : Nat → St C → Prop) (K : PV U → List (PV U) → Prop) : Tr.sem (fun x => J (laws_FnExactSentBy.id x) (laws_FnExactSentBy.st x)) (fun r => K (laws_FnExactSentBy.v r) (laws_FnExactSentBy.o r)) (laws_FnExactSentBy.begin a0 a1 a2 a3 a4 a5 a6 a7 a8 a9 a10 a11 a12) = evFn C laws_FnExactSentBy.Q (SoundCall Try.prog C) J Try.f4 (laws_FnExactSentBy.S a0 a1 a2 a3 a4 a5 a6 a7 a8 a9 a10 a11 a12) 0 K := by kernel_rfl
def laws_FnExactSentBy.told (a0 : List S85) (a1 : List Int) (a2 : List Int) (a3 : Int) (a4 : Int) (a5 : Int) (a6 : Int) (a7 : Int) (a8 : Int) (a9 : Int) (a10 : Int) (a11 : List Int) (a12 : Int) : YtmdgdcjkbggkmaaEv.Told laws_FnExactSentBy.A := ⟨laws_FnExactSentBy.f a0 a1 a2 a3 a4 a5 a6 a7 a8 a9 a10 a11 a12, fun r => SoundCall Try.prog C 4 (laws_FnExactSentBy.S a0 a1 a2 a3 a4 a5 a6 a7 a8 a9 a10 a11 a12) 0 (laws_FnExactSentBy.v r) (laws_FnExactSentBy.o r), fun r h =>
 soundCall_of_tree G mixed laws_FnExactSentBy.Q Try.func4 rfl (of_decide_eq_true (by kernel_rfl)) (by rfl) laws_FnExactSentBy.id laws_FnExactSentBy.st laws_FnExactSentBy.v laws_FnExactSentBy.o (fun _ => rfl) laws_FnExactSentBy.tree (fun J K x => laws_FnExactSentBy.e J K x) (laws_FnExactSentBy.begin a0 a1 a2 a3 a4 a5 a6 a7 a8 a9 a10 a11 a12) (fun J K => laws_FnExactSentBy.b a0 a1 a2 a3 a4 a5 a6 a7 a8 a9 a10 a11 a12 J K) h⟩
end
end Go.Proofs.Ytmdgdcjkbggkmaa.Ev
