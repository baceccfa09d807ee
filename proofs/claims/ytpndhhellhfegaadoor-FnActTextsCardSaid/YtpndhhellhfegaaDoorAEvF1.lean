/- Functions as trees, with their contracts. No conditions. -/
import Derived.Test.YtpndhhellhfegaaDoorAEvF0
namespace Go.Proofs.YtpndhhellhfegaaDoor.Ev
open Go.Proofs.YtpndhhellhfegaaDoorEv Go.RowKit
set_option linter.unusedVariables false
set_option maxRecDepth 100000
noncomputable section
/-! #### loop.example/g00983/spec.DrawActs (5) -/
namespace spec_DrawActs
def S (a0 : List Int) : List (PV U) := YtpndhhellhfegaaDoorEv.start C 26 [.sl 5 a0] []
inductive X where
 | c4 (x0 : List S75) (x1 x2 : List Int) (x3 x4 x5 x6 x7 x8 x9 x10 : Int) (x11 : List Int) (x12 : Int) (x13 : List S75) (x14 x15 : List Int) (x16 x17 x18 x19 x20 x21 x22 x23 : Int) (x24 : List Int) (x25 : Int) (x26 : List Int) (x27 x28 : Int)
def id : X → Nat
 | .c4 .. => 4
def st : X → List (PV U)
 | .c4 x0 x1 x2 x3 x4 x5 x6 x7 x8 x9 x10 x11 x12 x13 x14 x15 x16 x17 x18 x19 x20 x21 x22 x23 x24 x25 x26 x27 x28 => stOf 26 [(2, .box [.own true 76 x0, .own true 3 x1, .own true 3 x2, .int .i64 x3, .int .i64 x4, .int .i64 x5, .int .i64 x6, .int .i64 x7, .int .i64 x8, .int .i64 x9, .int .i64 x10, .own true 3 x11, .int .i64 x12]), (4, .ptr 9 0), (6, .box [.own true 76 x13, .own true 3 x14, .own true 3 x15, .int .i64 x16, .int .i64 x17, .int .i64 x18, .int .i64 x19, .int .i64 x20, .int .i64 x21, .int .i64 x22, .int .i64 x23, .own true 3 x24, .int .i64 x25]), (9, .box [.sl 5 x26, .int .i64 x27, .int .i64 x28])]
def begin (a0 : List Int) : Tr X A :=
 .call (spec_l01New.told a0) fun t1 => .call (spec_l06Program.told t1.1 t1.2.1 t1.2.2) fun t2 => let u2_0 : Tr X A := (.last (.call (spec_l03Vars.told t2.2.1 t2.2.2.1 t2.2.2.2) fun t3 => .last (.call (spec_l12Readings.told t3.2.1 t3.2.2.1 t3.2.2.2) fun t4 => .last (.call (spec_l19Store.told t4.2.1 t4.2.2.1 t4.2.2.2) fun t5 => .last (.call (spec_NodeNew.told t2.1 t3.1 t4.1 t5.1 t5.2.1 t5.2.2.1 t5.2.2.2.1) fun t6 => .last (.jump (.c4 ([] : List S75) ([] : List Int) ([] : List Int) (0 : Int) (0 : Int) (0 : Int) (0 : Int) (0 : Int) (0 : Int) (0 : Int) (0 : Int) ([] : List Int) (0 : Int) t6.1 t6.2.1 t6.2.2.1 t6.2.2.2.1 t6.2.2.2.2.1 t6.2.2.2.2.2.1 t6.2.2.2.2.2.2.1 t6.2.2.2.2.2.2.2.1 t6.2.2.2.2.2.2.2.2.1 t6.2.2.2.2.2.2.2.2.2.1 t6.2.2.2.2.2.2.2.2.2.2.1 t6.2.2.2.2.2.2.2.2.2.2.2.1 t6.2.2.2.2.2.2.2.2.2.2.2.2.1 t5.2.2.2.2.1 t5.2.2.2.2.2.1 t5.2.2.2.2.2.2))))))); .both (.both (.call (spec_l03Vars.told t2.2.1 t2.2.2.1 t2.2.2.2) fun t3 => .both (.call (spec_l12Readings.told t3.2.1 t3.2.2.1 t3.2.2.2) fun t4 => .both (.call (spec_l19Store.told t4.2.1 t4.2.2.1 t4.2.2.2) fun t5 => .both (.call (spec_NodeNew.told t2.1 t3.1 t4.1 t5.1 t5.2.1 t5.2.2.1 t5.2.2.2.1) fun t6 => .last (.last (.jump (.c4 ([] : List S75) ([] : List Int) ([] : List Int) (0 : Int) (0 : Int) (0 : Int) (0 : Int) (0 : Int) (0 : Int) (0 : Int) (0 : Int) ([] : List Int) (0 : Int) t6.1 t6.2.1 t6.2.2.1 t6.2.2.2.1 t6.2.2.2.2.1 t6.2.2.2.2.2.1 t6.2.2.2.2.2.2.1 t6.2.2.2.2.2.2.2.1 t6.2.2.2.2.2.2.2.2.1 t6.2.2.2.2.2.2.2.2.2.1 t6.2.2.2.2.2.2.2.2.2.2.1 t6.2.2.2.2.2.2.2.2.2.2.2.1 t6.2.2.2.2.2.2.2.2.2.2.2.2.1 t5.2.2.2.2.1 t5.2.2.2.2.2.1 t5.2.2.2.2.2.2))))
      (.last (.last (.call (spec_NodeNew.told t2.1 t3.1 t4.1 t5.1 t5.2.1 t5.2.2.1 t5.2.2.2.1) fun t6 => .last (.jump (.c4 ([] : List S75) ([] : List Int) ([] : List Int) (0 : Int) (0 : Int) (0 : Int) (0 : Int) (0 : Int) (0 : Int) (0 : Int) (0 : Int) ([] : List Int) (0 : Int) t6.1 t6.2.1 t6.2.2.1 t6.2.2.2.1 t6.2.2.2.2.1 t6.2.2.2.2.2.1 t6.2.2.2.2.2.2.1 t6.2.2.2.2.2.2.2.1 t6.2.2.2.2.2.2.2.2.1 t6.2.2.2.2.2.2.2.2.2.1 t6.2.2.2.2.2.2.2.2.2.2.1 t6.2.2.2.2.2.2.2.2.2.2.2.1 t6.2.2.2.2.2.2.2.2.2.2.2.2.1 t5.2.2.2.2.1 t5.2.2.2.2.2.1 t5.2.2.2.2.2.2))))))
     (.last (.last (.call (spec_l19Store.told t4.2.1 t4.2.2.1 t4.2.2.2) fun t5 => .last (.call (spec_NodeNew.told t2.1 t3.1 t4.1 t5.1 t5.2.1 t5.2.2.1 t5.2.2.2.1) fun t6 => .last (.jump (.c4 ([] : List S75) ([] : List Int) ([] : List Int) (0 : Int) (0 : Int) (0 : Int) (0 : Int) (0 : Int) (0 : Int) (0 : Int) (0 : Int) ([] : List Int) (0 : Int) t6.1 t6.2.1 t6.2.2.1 t6.2.2.2.1 t6.2.2.2.2.1 t6.2.2.2.2.2.1 t6.2.2.2.2.2.2.1 t6.2.2.2.2.2.2.2.1 t6.2.2.2.2.2.2.2.2.1 t6.2.2.2.2.2.2.2.2.2.1 t6.2.2.2.2.2.2.2.2.2.2.1 t6.2.2.2.2.2.2.2.2.2.2.2.1 t6.2.2.2.2.2.2.2.2.2.2.2.2.1 t5.2.2.2.2.1 t5.2.2.2.2.2.1 t5.2.2.2.2.2.2)))))))
    (.last (.last (.call (spec_l12Readings.told t3.2.1 t3.2.2.1 t3.2.2.2) fun t4 => .last (.call (spec_l19Store.told t4.2.1 t4.2.2.1 t4.2.2.2) fun t5 => .last (.call (spec_NodeNew.told t2.1 t3.1 t4.1 t5.1 t5.2.1 t5.2.2.1 t5.2.2.2.1) fun t6 => .last (.jump (.c4 ([] : List S75) ([] : List Int) ([] : List Int) (0 : Int) (0 : Int) (0 : Int) (0 : Int) (0 : Int) (0 : Int) (0 : Int) (0 : Int) ([] : List Int) (0 : Int) t6.1 t6.2.1 t6.2.2.1 t6.2.2.2.1 t6.2.2.2.2.1 t6.2.2.2.2.2.1 t6.2.2.2.2.2.2.1 t6.2.2.2.2.2.2.2.1 t6.2.2.2.2.2.2.2.2.1 t6.2.2.2.2.2.2.2.2.2.1 t6.2.2.2.2.2.2.2.2.2.2.1 t6.2.2.2.2.2.2.2.2.2.2.2.1 t6.2.2.2.2.2.2.2.2.2.2.2.2.1 t5.2.2.2.2.1 t5.2.2.2.2.2.1 t5.2.2.2.2.2.2))))))))
   (.last (u2_0)))
  (.both (.call (spec_l03Vars.told t2.2.1 t2.2.2.1 t2.2.2.2) fun t3 => let u3_0 : Tr X A := (.last (.call (spec_l12Readings.told t3.2.1 t3.2.2.1 t3.2.2.2) fun t4 => .last (.call (spec_l19Store.told t4.2.1 t4.2.2.1 t4.2.2.2) fun t5 => .last (.call (spec_NodeNew.told t2.1 t3.1 t4.1 t5.1 t5.2.1 t5.2.2.1 t5.2.2.2.1) fun t6 => .last (.jump (.c4 ([] : List S75) ([] : List Int) ([] : List Int) (0 : Int) (0 : Int) (0 : Int) (0 : Int) (0 : Int) (0 : Int) (0 : Int) (0 : Int) ([] : List Int) (0 : Int) t6.1 t6.2.1 t6.2.2.1 t6.2.2.2.1 t6.2.2.2.2.1 t6.2.2.2.2.2.1 t6.2.2.2.2.2.2.1 t6.2.2.2.2.2.2.2.1 t6.2.2.2.2.2.2.2.2.1 t6.2.2.2.2.2.2.2.2.2.1 t6.2.2.2.2.2.2.2.2.2.2.1 t6.2.2.2.2.2.2.2.2.2.2.2.1 t6.2.2.2.2.2.2.2.2.2.2.2.2.1 t5.2.2.2.2.1 t5.2.2.2.2.2.1 t5.2.2.2.2.2.2)))))); .both (.both (.call (spec_l12Readings.told t3.2.1 t3.2.2.1 t3.2.2.2) fun t4 => .both (.call (spec_l19Store.told t4.2.1 t4.2.2.1 t4.2.2.2) fun t5 => .both (.call (spec_NodeNew.told t2.1 t3.1 t4.1 t5.1 t5.2.1 t5.2.2.1 t5.2.2.2.1) fun t6 => .last (.last (.jump (.c4 ([] : List S75) ([] : List Int) ([] : List Int) (0 : Int) (0 : Int) (0 : Int) (0 : Int) (0 : Int) (0 : Int) (0 : Int) (0 : Int) ([] : List Int) (0 : Int) t6.1 t6.2.1 t6.2.2.1 t6.2.2.2.1 t6.2.2.2.2.1 t6.2.2.2.2.2.1 t6.2.2.2.2.2.2.1 t6.2.2.2.2.2.2.2.1 t6.2.2.2.2.2.2.2.2.1 t6.2.2.2.2.2.2.2.2.2.1 t6.2.2.2.2.2.2.2.2.2.2.1 t6.2.2.2.2.2.2.2.2.2.2.2.1 t6.2.2.2.2.2.2.2.2.2.2.2.2.1 t5.2.2.2.2.1 t5.2.2.2.2.2.1 t5.2.2.2.2.2.2))))
       (.last (.last (.call (spec_NodeNew.told t2.1 t3.1 t4.1 t5.1 t5.2.1 t5.2.2.1 t5.2.2.2.1) fun t6 => .last (.jump (.c4 ([] : List S75) ([] : List Int) ([] : List Int) (0 : Int) (0 : Int) (0 : Int) (0 : Int) (0 : Int) (0 : Int) (0 : Int) (0 : Int) ([] : List Int) (0 : Int) t6.1 t6.2.1 t6.2.2.1 t6.2.2.2.1 t6.2.2.2.2.1 t6.2.2.2.2.2.1 t6.2.2.2.2.2.2.1 t6.2.2.2.2.2.2.2.1 t6.2.2.2.2.2.2.2.2.1 t6.2.2.2.2.2.2.2.2.2.1 t6.2.2.2.2.2.2.2.2.2.2.1 t6.2.2.2.2.2.2.2.2.2.2.2.1 t6.2.2.2.2.2.2.2.2.2.2.2.2.1 t5.2.2.2.2.1 t5.2.2.2.2.2.1 t5.2.2.2.2.2.2))))))
      (.last (.last (.call (spec_l19Store.told t4.2.1 t4.2.2.1 t4.2.2.2) fun t5 => .last (.call (spec_NodeNew.told t2.1 t3.1 t4.1 t5.1 t5.2.1 t5.2.2.1 t5.2.2.2.1) fun t6 => .last (.jump (.c4 ([] : List S75) ([] : List Int) ([] : List Int) (0 : Int) (0 : Int) (0 : Int) (0 : Int) (0 : Int) (0 : Int) (0 : Int) (0 : Int) ([] : List Int) (0 : Int) t6.1 t6.2.1 t6.2.2.1 t6.2.2.2.1 t6.2.2.2.2.1 t6.2.2.2.2.2.1 t6.2.2.2.2.2.2.1 t6.2.2.2.2.2.2.2.1 t6.2.2.2.2.2.2.2.2.1 t6.2.2.2.2.2.2.2.2.2.1 t6.2.2.2.2.2.2.2.2.2.2.1 t6.2.2.2.2.2.2.2.2.2.2.2.1 t6.2.2.2.2.2.2.2.2.2.2.2.2.1 t5.2.2.2.2.1 t5.2.2.2.2.2.1 t5.2.2.2.2.2.2)))))))
     (.last (u3_0)))
    (.both (.call (spec_l12Readings.told t3.2.1 t3.2.2.1 t3.2.2.2) fun t4 => let u4_0 : Tr X A := (.last (.call (spec_l19Store.told t4.2.1 t4.2.2.1 t4.2.2.2) fun t5 => .last (.call (spec_NodeNew.told t2.1 t3.1 t4.1 t5.1 t5.2.1 t5.2.2.1 t5.2.2.2.1) fun t6 => .last (.jump (.c4 ([] : List S75) ([] : List Int) ([] : List Int) (0 : Int) (0 : Int) (0 : Int) (0 : Int) (0 : Int) (0 : Int) (0 : Int) (0 : Int) ([] : List Int) (0 : Int) t6.1 t6.2.1 t6.2.2.1 t6.2.2.2.1 t6.2.2.2.2.1 t6.2.2.2.2.2.1 t6.2.2.2.2.2.2.1 t6.2.2.2.2.2.2.2.1 t6.2.2.2.2.2.2.2.2.1 t6.2.2.2.2.2.2.2.2.2.1 t6.2.2.2.2.2.2.2.2.2.2.1 t6.2.2.2.2.2.2.2.2.2.2.2.1 t6.2.2.2.2.2.2.2.2.2.2.2.2.1 t5.2.2.2.2.1 t5.2.2.2.2.2.1 t5.2.2.2.2.2.2))))); let u4_1 : Tr X A := (.call (spec_l19Store.told t4.2.1 t4.2.2.1 t4.2.2.2) fun t5 => .both (.call (spec_NodeNew.told t2.1 t3.1 t4.1 t5.1 t5.2.1 t5.2.2.1 t5.2.2.2.1) fun t6 => .last (.last (.jump (.c4 ([] : List S75) ([] : List Int) ([] : List Int) (0 : Int) (0 : Int) (0 : Int) (0 : Int) (0 : Int) (0 : Int) (0 : Int) (0 : Int) ([] : List Int) (0 : Int) t6.1 t6.2.1 t6.2.2.1 t6.2.2.2.1 t6.2.2.2.2.1 t6.2.2.2.2.2.1 t6.2.2.2.2.2.2.1 t6.2.2.2.2.2.2.2.1 t6.2.2.2.2.2.2.2.2.1 t6.2.2.2.2.2.2.2.2.2.1 t6.2.2.2.2.2.2.2.2.2.2.1 t6.2.2.2.2.2.2.2.2.2.2.2.1 t6.2.2.2.2.2.2.2.2.2.2.2.2.1 t5.2.2.2.2.1 t5.2.2.2.2.2.1 t5.2.2.2.2.2.2)))) (.last (.last (.call (spec_NodeNew.told t2.1 t3.1 t4.1 t5.1 t5.2.1 t5.2.2.1 t5.2.2.2.1) fun t6 => .last (.jump (.c4 ([] : List S75) ([] : List Int) ([] : List Int) (0 : Int) (0 : Int) (0 : Int) (0 : Int) (0 : Int) (0 : Int) (0 : Int) (0 : Int) ([] : List Int) (0 : Int) t6.1 t6.2.1 t6.2.2.1 t6.2.2.2.1 t6.2.2.2.2.1 t6.2.2.2.2.2.1 t6.2.2.2.2.2.2.1 t6.2.2.2.2.2.2.2.1 t6.2.2.2.2.2.2.2.2.1 t6.2.2.2.2.2.2.2.2.2.1 t6.2.2.2.2.2.2.2.2.2.2.1 t6.2.2.2.2.2.2.2.2.2.2.2.1 t6.2.2.2.2.2.2.2.2.2.2.2.2.1 t5.2.2.2.2.1 t5.2.2.2.2.2.1 t5.2.2.2.2.2.2)))))); .both (.both (u4_1)
       (.last (u4_0)))
      (.both (u4_1)
       (.last (.both (u4_0)
        (u4_0)))))
     (.last (.both (u3_0)
      (.last (.call (spec_l12Readings.told t3.2.1 t3.2.2.1 t3.2.2.2) fun t4 => let u4_0 : Tr X A := (.last (.call (spec_l19Store.told t4.2.1 t4.2.2.1 t4.2.2.2) fun t5 => .last (.call (spec_NodeNew.told t2.1 t3.1 t4.1 t5.1 t5.2.1 t5.2.2.1 t5.2.2.2.1) fun t6 => .last (.jump (.c4 ([] : List S75) ([] : List Int) ([] : List Int) (0 : Int) (0 : Int) (0 : Int) (0 : Int) (0 : Int) (0 : Int) (0 : Int) (0 : Int) ([] : List Int) (0 : Int) t6.1 t6.2.1 t6.2.2.1 t6.2.2.2.1 t6.2.2.2.2.1 t6.2.2.2.2.2.1 t6.2.2.2.2.2.2.1 t6.2.2.2.2.2.2.2.1 t6.2.2.2.2.2.2.2.2.1 t6.2.2.2.2.2.2.2.2.2.1 t6.2.2.2.2.2.2.2.2.2.2.1 t6.2.2.2.2.2.2.2.2.2.2.2.1 t6.2.2.2.2.2.2.2.2.2.2.2.2.1 t5.2.2.2.2.1 t5.2.2.2.2.2.1 t5.2.2.2.2.2.2))))); .both (u4_0)
       (u4_0)))))))
   (.last (.both (u2_0)
    (.last (.call (spec_l03Vars.told t2.2.1 t2.2.2.1 t2.2.2.2) fun t3 => .both (.last (.call (spec_l12Readings.told t3.2.1 t3.2.2.1 t3.2.2.2) fun t4 => .last (.call (spec_l19Store.told t4.2.1 t4.2.2.1 t4.2.2.2) fun t5 => .last (.call (spec_NodeNew.told t2.1 t3.1 t4.1 t5.1 t5.2.1 t5.2.2.1 t5.2.2.2.1) fun t6 => .last (.jump (.c4 ([] : List S75) ([] : List Int) ([] : List Int) (0 : Int) (0 : Int) (0 : Int) (0 : Int) (0 : Int) (0 : Int) (0 : Int) (0 : Int) ([] : List Int) (0 : Int) t6.1 t6.2.1 t6.2.2.1 t6.2.2.2.1 t6.2.2.2.2.1 t6.2.2.2.2.2.1 t6.2.2.2.2.2.2.1 t6.2.2.2.2.2.2.2.1 t6.2.2.2.2.2.2.2.2.1 t6.2.2.2.2.2.2.2.2.2.1 t6.2.2.2.2.2.2.2.2.2.2.1 t6.2.2.2.2.2.2.2.2.2.2.2.1 t6.2.2.2.2.2.2.2.2.2.2.2.2.1 t5.2.2.2.2.1 t5.2.2.2.2.2.1 t5.2.2.2.2.2.2))))))
     (.last (.call (spec_l12Readings.told t3.2.1 t3.2.2.1 t3.2.2.2) fun t4 => let u4_0 : Tr X A := (.last (.call (spec_l19Store.told t4.2.1 t4.2.2.1 t4.2.2.2) fun t5 => .last (.call (spec_NodeNew.told t2.1 t3.1 t4.1 t5.1 t5.2.1 t5.2.2.1 t5.2.2.2.1) fun t6 => .last (.jump (.c4 ([] : List S75) ([] : List Int) ([] : List Int) (0 : Int) (0 : Int) (0 : Int) (0 : Int) (0 : Int) (0 : Int) (0 : Int) (0 : Int) ([] : List Int) (0 : Int) t6.1 t6.2.1 t6.2.2.1 t6.2.2.2.1 t6.2.2.2.2.1 t6.2.2.2.2.2.1 t6.2.2.2.2.2.2.1 t6.2.2.2.2.2.2.2.1 t6.2.2.2.2.2.2.2.2.1 t6.2.2.2.2.2.2.2.2.2.1 t6.2.2.2.2.2.2.2.2.2.2.1 t6.2.2.2.2.2.2.2.2.2.2.2.1 t6.2.2.2.2.2.2.2.2.2.2.2.2.1 t5.2.2.2.2.1 t5.2.2.2.2.2.1 t5.2.2.2.2.2.2))))); .both (u4_0)
      (u4_0))))))))
def tree : X → Tr X A
 | .c4 x0 x1 x2 x3 x4 x5 x6 x7 x8 x9 x10 x11 x12 x13 x14 x15 x16 x17 x18 x19 x20 x21 x22 x23 x24 x25 x26 x27 x28 =>
 let u0_0 : Tr X A := (.last (.call (spec_l38Acts.told x26 x27 x28) fun t1 => .last (.ret (x13, x14, x15, x16, x17, x18, x19, x20, x21, x22, x23, x24, x25, t1.1)))); .both (u0_0)
  (u0_0)
def f (a0 : List Int) : Option A := (begin a0).run (lp tree)
def Q : Plan C := { PL with cuts := [(4, [2, 4, 6, 9])], ords := [(3, [2, 4, 6, 12], (.take 1 [] (.take 3 [] (.take 5 [] (.alt 0 (.alt 2 (.alt 4 (.alt 6 (.alt 7 (.take 8 [] (.take 9 [] (.take 10 [] (.alt 11 (.alt 12 (.take 13 [] .done) .nil) .nil)))) (.alt 11 (.alt 7 (.take 8 [] (.take 9 [] (.take 10 [] (.alt 12 (.take 13 [] .done) .nil)))) .nil) .nil)) (.alt 11 (.alt 6 (.alt 7 (.take 8 [] (.take 9 [] (.take 10 [] (.alt 12 (.take 13 [] .done) .nil)))) .nil) .nil) .nil)) (.alt 11 (.alt 4 (.alt 6 (.alt 7 (.take 8 [] (.take 9 [] (.take 10 [] (.alt 12 (.take 13 [] .done) .nil)))) .nil) .nil) .nil) .nil)) (.alt 11 (.alt 2 (.alt 4 (.alt 6 (.alt 7 (.take 8 [] (.take 9 [] (.take 10 [] (.alt 12 (.take 13 [] .done) .nil)))) .nil) .nil) .nil) .nil) .nil)) (.alt 2 (.alt 0 (.alt 4 (.alt 6 (.alt 7 (.take 8 [] (.take 9 [] (.take 10 [] (.alt 11 (.alt 12 (.take 13 [] .done) .nil) .nil)))) (.alt 11 (.alt 7 (.take 8 [] (.take 9 [] (.take 10 [] (.alt 12 (.take 13 [] .done) .nil)))) .nil) .nil)) (.alt 11 (.alt 6 (.alt 7 (.take 8 [] (.take 9 [] (.take 10 [] (.alt 12 (.take 13 [] .done) .nil)))) .nil) .nil) .nil)) (.alt 11 (.alt 4 (.alt 6 (.alt 7 (.take 8 [] (.take 9 [] (.take 10 [] (.alt 12 (.take 13 [] .done) .nil)))) .nil) .nil) .nil) .nil)) (.alt 4 (.alt 0 (.alt 6 (.alt 7 (.take 8 [] (.take 9 [] (.take 10 [] (.alt 11 (.alt 12 (.take 13 [] .done) .nil) .nil)))) (.alt 11 (.alt 7 (.take 8 [] (.take 9 [] (.take 10 [] (.alt 12 (.take 13 [] .done) .nil)))) .nil) .nil)) (.alt 11 (.alt 6 (.alt 7 (.take 8 [] (.take 9 [] (.take 10 [] (.alt 12 (.take 13 [] .done) .nil)))) .nil) .nil) .nil)) (.alt 6 (.take 0 [1, 2, 3, 4, 5, 6, 11] (.alt 7 (.take 8 [] (.take 9 [] (.take 10 [] (.alt 11 (.alt 12 (.take 13 [] .done) .nil) .nil)))) (.alt 11 (.alt 7 (.take 8 [] (.take 9 [] (.take 10 [] (.alt 12 (.take 13 [] .done) .nil)))) .nil) .nil))) (.alt 11 (.alt 0 (.alt 6 (.alt 7 (.take 8 [] (.take 9 [] (.take 10 [] (.alt 12 (.take 13 [] .done) .nil)))) .nil) .nil) (.alt 6 (.take 0 [1, 2, 3, 4, 5, 6, 11] (.alt 7 (.take 8 [] (.take 9 [] (.take 10 [] (.alt 12 (.take 13 [] .done) .nil)))) .nil)) .nil)) .nil))) (.alt 11 (.alt 0 (.alt 4 (.alt 6 (.alt 7 (.take 8 [] (.take 9 [] (.take 10 [] (.alt 12 (.take 13 [] .done) .nil)))) .nil) .nil) .nil) (.alt 4 (.alt 0 (.alt 6 (.alt 7 (.take 8 [] (.take 9 [] (.take 10 [] (.alt 12 (.take 13 [] .done) .nil)))) .nil) .nil) (.alt 6 (.take 0 [1, 2, 3, 4, 5, 6, 11] (.alt 7 (.take 8 [] (.take 9 [] (.take 10 [] (.alt 12 (.take 13 [] .done) .nil)))) .nil)) .nil)) .nil)) .nil))) (.alt 11 (.alt 0 (.alt 2 (.alt 4 (.alt 6 (.alt 7 (.take 8 [] (.take 9 [] (.take 10 [] (.alt 12 (.take 13 [] .done) .nil)))) .nil) .nil) .nil) .nil) (.alt 2 (.alt 0 (.alt 4 (.alt 6 (.alt 7 (.take 8 [] (.take 9 [] (.take 10 [] (.alt 12 (.take 13 [] .done) .nil)))) .nil) .nil) .nil) (.alt 4 (.alt 0 (.alt 6 (.alt 7 (.take 8 [] (.take 9 [] (.take 10 [] (.alt 12 (.take 13 [] .done) .nil)))) .nil) .nil) (.alt 6 (.take 0 [1, 2, 3, 4, 5, 6, 11] (.alt 7 (.take 8 [] (.take 9 [] (.take 10 [] (.alt 12 (.take 13 [] .done) .nil)))) .nil)) .nil)) .nil)) .nil)) .nil))))))), (4, [2, 3], (.take 1 [] (.alt 0 (.alt 2 (.alt 3 (.take 4 [] .done) .nil) .nil) (.alt 2 (.take 0 [1, 2] (.alt 3 (.take 4 [] .done) .nil)) .nil))))] }
theorem e : CutEq Pg C Q Tryd.f5 0 id st v o tree := fun J K x => by cases x <;> kernel_rfl
def told (a0 : List Int) : YtpndhhellhfegaaDoorEv.Told A := ⟨f a0, fun r => SoundCall Pg C 5 (S a0) 0 (v r) (o r), fun r h => sdCut v o Tryd.func5 rfl (of_decide_eq_true (by kernel_rfl)) (by rfl) (fun _ => rfl) e (fun J K => by kernel_rfl) h⟩
end spec_DrawActs
/-! #### loop.example/g00983/impl.within (32) -/
namespace impl_within
def S (a0 a1 a2 : Int) : List (PV U) := YtpndhhellhfegaaDoorEv.start C 15 [.int .i64 a0, .int .i64 a1, .int .i64 a2] []
def begin (a0 a1 a2 : Int) : Tr Empty A :=
 .ite (decide (a0 ≥ a1))
  (.ret ((decide (a0 ≤ a2))))
  (.ret false)
def f (a0 a1 a2 : Int) : Option A := (begin a0 a1 a2).run (lp noTree)
def told (a0 a1 a2 : Int) : YtpndhhellhfegaaDoorEv.Told A := ⟨f a0 a1 a2, fun r => SoundCall Pg C 32 (S a0 a1 a2) 0 (v r) (o r), fun r h => sdFlat (Q := PL) v o Tryd.func32 rfl (of_decide_eq_true (by kernel_rfl)) (by rfl) (fun _ => rfl) (fun J K => by kernel_rfl) h⟩
end impl_within
/-! #### loop.example/g00983/impl.isHarvest (33) -/
namespace impl_isHarvest
def S (a0 : Int) : List (PV U) := YtpndhhellhfegaaDoorEv.start C 5 [.int .i64 a0] []
def begin (a0 : Int) : Tr Empty A :=
 .call (impl_within.told a0 (0 : Int) (1000 : Int)) fun t1 => .ret t1
def f (a0 : Int) : Option A := (begin a0).run (lp noTree)
def told (a0 : Int) : YtpndhhellhfegaaDoorEv.Told A := ⟨f a0, fun r => SoundCall Pg C 33 (S a0) 0 (v r) (o r), fun r h => sdFlat (Q := PL) v o Tryd.func33 rfl (of_decide_eq_true (by kernel_rfl)) (by rfl) (fun _ => rfl) (fun J K => by kernel_rfl) h⟩
end impl_isHarvest
/-! #### loop.example/g00983/impl.SpanOk (34) -/
namespace impl_SpanOk
def S (a0 a1 : Int) : List (PV U) := YtpndhhellhfegaaDoorEv.start C 18 [.agg [.int .i64 a0, .int .i64 a1]] []
def begin (a0 a1 : Int) : Tr Empty A :=
 .ite (decide (a0 ≥ (0 : Int)))
  (.ite (decide (a0 ≤ a1))
   (.ret ((decide (a1 ≤ (1000000 : Int)))))
   (.ret false))
  (.ret false)
def f (a0 a1 : Int) : Option A := (begin a0 a1).run (lp noTree)
def told (a0 a1 : Int) : YtpndhhellhfegaaDoorEv.Told A := ⟨f a0 a1, fun r => SoundCall Pg C 34 (S a0 a1) 0 (v r) (o r), fun r h => sdFlat (Q := PL) v o Tryd.func34 rfl (of_decide_eq_true (by kernel_rfl)) (by rfl) (fun _ => rfl) (fun J K => by kernel_rfl) h⟩
end impl_SpanOk
/-! #### loop.example/g00983/impl.IsValue (35) -/
namespace impl_IsValue
def S (a0 : Int) : List (PV U) := YtpndhhellhfegaaDoorEv.start C 5 [.int .i64 a0] []
def begin (a0 : Int) : Tr Empty A :=
 .call (impl_within.told a0 (-1000000 : Int) (1000000 : Int)) fun t1 => .ret t1
def f (a0 : Int) : Option A := (begin a0).run (lp noTree)
def told (a0 : Int) : YtpndhhellhfegaaDoorEv.Told A := ⟨f a0, fun r => SoundCall Pg C 35 (S a0) 0 (v r) (o r), fun r h => sdFlat (Q := PL) v o Tryd.func35 rfl (of_decide_eq_true (by kernel_rfl)) (by rfl) (fun _ => rfl) (fun J K => by kernel_rfl) h⟩
end impl_IsValue
/-! #### loop.example/g00983/impl.ActOk (15) -/
namespace impl_ActOk
def S (a0 a1 a2 : Int) : List (PV U) := YtpndhhellhfegaaDoorEv.start C 60 [.agg [.int .i64 a0, .int .i64 a1, .int .i64 a2]] []
def begin (a0 a1 a2 : Int) : Tr Empty A :=
 .ite (decide (a0 = (1 : Int)))
  (.call (impl_within.told a1 (1 : Int) (50 : Int)) fun t1 => .ite t1
   (.call (impl_isHarvest.told a2) fun t2 => .ret t2)
   (.ret false))
  (.ite (decide (a0 = (2 : Int)))
   (.ite (decide (a1 ≥ (0 : Int)))
    (.ite (decide (a1 ≤ a2))
     (.ret ((decide (a2 ≤ (10000 : Int)))))
     (.ret false))
    (.ret false))
   (.ite (decide (a0 = (3 : Int)))
    (.call (impl_within.told a1 (0 : Int) (24 : Int)) fun t1 => .ite t1
     (.call (impl_within.told a2 (0 : Int) (1 : Int)) fun t2 => .ret t2)
     (.ret false))
    (.ite (decide (a0 = (4 : Int)))
     (.call (impl_SpanOk.told a1 a2) fun t1 => .ret t1)
     (.ite (decide (a0 = (5 : Int)))
      (.call (impl_IsValue.told a1) fun t1 => .ite t1
       (.ret ((decide (a2 = (0 : Int)))))
       (.ret false))
      (.ret false)))))
def f (a0 a1 a2 : Int) : Option A := (begin a0 a1 a2).run (lp noTree)
def told (a0 a1 a2 : Int) : YtpndhhellhfegaaDoorEv.Told A := ⟨f a0 a1 a2, fun r => SoundCall Pg C 15 (S a0 a1 a2) 0 (v r) (o r), fun r h => sdFlat (Q := PL) v o Tryd.func15 rfl (of_decide_eq_true (by kernel_rfl)) (by rfl) (fun _ => rfl) (fun J K => by kernel_rfl) h⟩
end impl_ActOk
/-! #### strconv.Itoa (53) -/
namespace strconv_Itoa
def S (a0 : Int) : List (PV U) := YtpndhhellhfegaaDoorEv.start C 1 [.int .i64 a0] []
def f (a0 : Int) : Option A := if -9223372036854775808 ≤ a0 ∧ a0 ≤ 9223372036854775807 then some ⟨(Lib.itoa a0).toArray⟩ else none
def told (a0 : Int) : YtpndhhellhfegaaDoorEv.Told A := ⟨f a0, fun r => SoundCall Pg C 53 (S a0) 0 (v r) (o r), fun r h => by
  unfold f at h
  split at h
  · rename_i hc
    cases h
    exact text_sound (C := C) ⟨_, Tryd.func53, rfl, rfl⟩ (fun w ht => (Go.Proofs.Tryd.strconv_Itoa a0 hc.1 hc.2 w ht.pow).mono (by rintro e w' ⟨rfl, k, os, rfl⟩; exact ⟨rfl, Lib.below_grow _ _ (Nat.le_refl _) _ _⟩))
  · cases h⟩
end strconv_Itoa
/-! #### loop.example/g00983/impl.FormatInt (36) -/
namespace impl_FormatInt
def S (a0 : Int) : List (PV U) := YtpndhhellhfegaaDoorEv.start C 5 [.int .i64 a0] []
def begin (a0 : Int) : Tr Empty A :=
 .call (strconv_Itoa.told a0) fun t1 => .ret t1
def f (a0 : Int) : Option A := (begin a0).run (lp noTree)
def told (a0 : Int) : YtpndhhellhfegaaDoorEv.Told A := ⟨f a0, fun r => SoundCall Pg C 36 (S a0) 0 (v r) (o r), fun r h => sdFlat (Q := PL) v o Tryd.func36 rfl (of_decide_eq_true (by kernel_rfl)) (by rfl) (fun _ => rfl) (fun J K => by kernel_rfl) h⟩
end impl_FormatInt
/-! #### loop.example/g00983/impl.spaced (16) -/
namespace impl_spaced
def S (a0 : ByteArray) (a1 : List Int) : List (PV U) := YtpndhhellhfegaaDoorEv.start C 22 [.str a0, .sl 3 a1] []
inductive X where
 | c3 (x0 : ByteArray) (x1 : List Int) (x2 x3 : Int)
def id : X → Nat
 | .c3 .. => 3
def st : X → List (PV U)
 | .c3 x0 x1 x2 x3 => stOf 22 [(5, .str x0), (9, .sl 3 x1), (10, .int .i64 x2), (11, .int .i64 x3)]
def begin (a0 : ByteArray) (a1 : List Int) : Tr X A :=
 .jump (.c3 a0 a1 (List.length a1 : Int) (0 : Int))
def tree : X → Tr X A
 | .c3 x0 x1 x2 x3 =>
 .ite (decide (x3 < x2))
  (.need ((0 : Int) ≤ x3 ∧ x3 < (List.length x1 : Int)) (.call (impl_FormatInt.told (rdI x1 x3)) fun t1 => .need (((⟨#[32]⟩ : ByteArray).size : Int) + t1.size ≤ room) (.need ((x0.size : Int) + ((⟨#[32]⟩ : ByteArray) ++ t1).size ≤ room) (.jump (.c3 (x0 ++ ((⟨#[32]⟩ : ByteArray) ++ t1)) x1 x2 (wr (x3 + (1 : Int))))))))
  (.ret x0)
def f (a0 : ByteArray) (a1 : List Int) : Option A := (begin a0 a1).run (lp tree)
def Q : Plan C := { PL with cuts := [(3, [5, 9, 10, 11])] }
theorem e : CutEq Pg C Q Tryd.f16 0 id st v o tree := fun J K x => by cases x <;> kernel_rfl
def told (a0 : ByteArray) (a1 : List Int) : YtpndhhellhfegaaDoorEv.Told A := ⟨f a0 a1, fun r => SoundCall Pg C 16 (S a0 a1) 0 (v r) (o r), fun r h => sdCut v o Tryd.func16 rfl (of_decide_eq_true (by kernel_rfl)) (by rfl) (fun _ => rfl) e (fun J K => by kernel_rfl) h⟩
end impl_spaced
/-! #### loop.example/g00983/impl.actNames (17) -/
namespace impl_actNames
def S : List (PV U) := YtpndhhellhfegaaDoorEv.start C 2 [] []
def begin : Tr Empty A :=
 .val ([(⟨#[]⟩ : ByteArray), (⟨#[116, 105, 99, 107]⟩ : ByteArray), (⟨#[100, 97, 114, 107]⟩ : ByteArray), (⟨#[117, 112, 108, 105, 110, 107]⟩ : ByteArray), (⟨#[99, 108, 111, 99, 107]⟩ : ByteArray), (⟨#[114, 101, 97, 100, 105, 110, 103]⟩ : ByteArray)] : List ByteArray) fun v1 => .ret v1
def f : Option A := (begin).run (lp noTree)
def told : YtpndhhellhfegaaDoorEv.Told A := ⟨f, fun r => SoundCall Pg C 17 (S) 0 (v r) (o r), fun r h => sdFlat (Q := PL) v o Tryd.func17 rfl (of_decide_eq_true (by kernel_rfl)) (by rfl) (fun _ => rfl) (fun J K => by kernel_rfl) h⟩
end impl_actNames
/-! #### loop.example/g00983/impl.FormatAct (6) -/
namespace impl_FormatAct
def S (a0 a1 a2 : Int) : List (PV U) := YtpndhhellhfegaaDoorEv.start C 27 [.agg [.int .i64 a0, .int .i64 a1, .int .i64 a2]] []
def begin (a0 a1 a2 : Int) : Tr Empty A :=
 .call (impl_ActOk.told a0 a1 a2) fun t1 => let u1_0 : Tr Empty A := (.last (.last (.call (impl_actNames.told) fun t2 => .need ((0 : Int) ≤ a0 ∧ a0 < (List.length t2 : Int)) (.last (.call (impl_spaced.told (rdY t2 a0) ([a1, a2])) fun t3 => .ret (t3, true)))))); .ite (!t1)
  (.ret ((⟨#[]⟩ : ByteArray), false))
  (.ite (decide (a0 = (5 : Int)))
   (.call (impl_spaced.told (⟨#[114, 101, 97, 100, 105, 110, 103]⟩ : ByteArray) ([a1])) fun t2 => .ret (t2, true))
   (.both (.call (impl_actNames.told) fun t2 => let u2_0 : Tr Empty A := (.last (.call (impl_spaced.told (rdY t2 a0) ([a1, a2])) fun t3 => .ret (t3, true))); let u2_1 : Tr Empty A := (.last (u2_0)); .both (.need ((0 : Int) ≤ a0 ∧ a0 < (List.length t2 : Int)) (.both (u2_1)
      (u2_1)))
     (.last (.need ((0 : Int) ≤ a0 ∧ a0 < (List.length t2 : Int)) (u2_0))))
    (.both (.both (.call (impl_actNames.told) fun t2 => let u2_0 : Tr Empty A := (.last (.last (.call (impl_spaced.told (rdY t2 a0) ([a1, a2])) fun t3 => .ret (t3, true)))); .need ((0 : Int) ≤ a0 ∧ a0 < (List.length t2 : Int)) (.both (u2_0)
       (u2_0)))
      (u1_0))
     (u1_0))))
def f (a0 a1 a2 : Int) : Option A := (begin a0 a1 a2).run (lp noTree)
def Q : Plan C := { PL with ords := [(5, [9], (.take 1 [] (.take 5 [] (.take 7 [] (.take 6 [0, 1, 2, 3, 4, 5, 7, 8] (.take 8 [0, 1, 2, 3, 4, 5, 6, 7] (.alt 0 (.alt 2 (.take 3 [] (.alt 4 (.alt 9 (.alt 10 (.take 11 [] (.take 12 [] .done)) .nil) .nil) (.alt 9 (.take 4 [0, 1, 2, 3, 5, 6, 7, 8, 9] (.alt 10 (.take 11 [] (.take 12 [] .done)) .nil)) .nil))) (.alt 9 (.take 2 [0, 1, 5, 6, 7, 8, 9] (.take 3 [] (.take 4 [0, 1, 2, 3, 5, 6, 7, 8, 9] (.alt 10 (.take 11 [] (.take 12 [] .done)) .nil)))) .nil)) (.alt 2 (.alt 0 (.take 3 [] (.alt 4 (.alt 9 (.alt 10 (.take 11 [] (.take 12 [] .done)) .nil) .nil) (.alt 9 (.take 4 [0, 1, 2, 3, 5, 6, 7, 8, 9] (.alt 10 (.take 11 [] (.take 12 [] .done)) .nil)) .nil))) (.alt 9 (.alt 0 (.take 3 [] (.take 4 [0, 1, 2, 3, 5, 6, 7, 8, 9] (.alt 10 (.take 11 [] (.take 12 [] .done)) .nil))) .nil) .nil)) (.alt 9 (.take 2 [0, 1, 5, 6, 7, 8, 9] (.alt 0 (.take 3 [] (.take 4 [0, 1, 2, 3, 5, 6, 7, 8, 9] (.alt 10 (.take 11 [] (.take 12 [] .done)) .nil))) .nil)) .nil)))))))))] }
def told (a0 a1 a2 : Int) : YtpndhhellhfegaaDoorEv.Told A := ⟨f a0 a1 a2, fun r => SoundCall Pg C 6 (S a0 a1 a2) 0 (v r) (o r), fun r h => sdFlat (Q := Q) v o Tryd.func6 rfl (of_decide_eq_true (by kernel_rfl)) (by rfl) (fun _ => rfl) (fun J K => by kernel_rfl) h⟩
end impl_FormatAct
/-! #### loop.example/g00983/impl.SplitFields (18) -/
namespace impl_SplitFields
def S (a0 : ByteArray) : List (PV U) := YtpndhhellhfegaaDoorEv.start C 1 [.str a0] []
def f (a0 : ByteArray) : Option A := some (splitRes a0.data.toList)
def told (a0 : ByteArray) : YtpndhhellhfegaaDoorEv.Told A := ⟨f a0, fun r => SoundCall Pg C 18 (S a0) 0 (v r) (o r), fun r h => by
  cases h
  exact split_sound (C := C) (e := 9) (toT := fun x : ByteArray => x) (ys := (splitRes a0.data.toList).1) ⟨_, Tryd.func18, rfl, rfl⟩ (fun _ => rfl) (fun w ht => by
    have hm : List.map (fun x : ByteArray => x) (splitRes a0.data.toList).1 = (splitRes a0.data.toList).1 := List.map_id' _
    refine (impl_SplitFields_call a0 w ht.space).mono ?_
    rintro e w' ⟨v, he, hr, hb⟩
    exact ⟨v, he, hm.symm ▸ hr, hb⟩)⟩
end impl_SplitFields
/-! #### slices.Index[[]string,string] (19) -/
namespace slices_Index_string
def S (a0 : List ByteArray) (a1 : ByteArray) : List (PV U) := YtpndhhellhfegaaDoorEv.start C 19 [.sl 9 a0, .str a1] []
inductive X where
 | c2 (x0 : List ByteArray) (x1 : ByteArray) (x2 x3 : Int)
def id : X → Nat
 | .c2 .. => 2
def st : X → List (PV U)
 | .c2 x0 x1 x2 x3 => stOf 19 [(0, .sl 9 x0), (1, .str x1), (7, .int .i64 x2), (8, .int .i64 x3)]
def begin (a0 : List ByteArray) (a1 : ByteArray) : Tr X A :=
 .jump (.c2 a0 a1 (List.length a0 : Int) (0 : Int))
def tree : X → Tr X A
 | .c2 x0 x1 x2 x3 =>
 .ite (decide (x3 < x2))
  (.need ((0 : Int) ≤ x3 ∧ x3 < (List.length x0 : Int)) (.ite (x1 == (rdY x0 x3))
   (.ret x3)
   (.jump (.c2 x0 x1 x2 (wr (x3 + (1 : Int)))))))
  (.ret ((-1 : Int)))
def f (a0 : List ByteArray) (a1 : ByteArray) : Option A := (begin a0 a1).run (lp tree)
def Q : Plan C := { PL with cuts := [(2, [0, 1, 7, 8])] }
theorem e : CutEq Pg C Q Tryd.f19 0 id st v o tree := fun J K x => by cases x <;> kernel_rfl
def told (a0 : List ByteArray) (a1 : ByteArray) : YtpndhhellhfegaaDoorEv.Told A := ⟨f a0 a1, fun r => SoundCall Pg C 19 (S a0 a1) 0 (v r) (o r), fun r h => sdCut v o Tryd.func19 rfl (of_decide_eq_true (by kernel_rfl)) (by rfl) (fun _ => rfl) e (fun J K => by kernel_rfl) h⟩
end slices_Index_string
/-! #### strconv.Atoi (20) -/
namespace strconv_Atoi
def S (a0 : ByteArray) : List (PV U) := YtpndhhellhfegaaDoorEv.start C 1 [.str a0] []
def f (a0 : ByteArray) : Option A := if a0.size ≤ 281474976710656 then some (atoiNum a0.data.toList) else none
def told (a0 : ByteArray) : YtpndhhellhfegaaDoorEv.Told A := ⟨f a0, fun r => SoundCall Pg C 20 (S a0) 0 (v r) (o r), fun r h => by
  unfold f at h
  split at h
  · rename_i hc
    cases h
    exact pair_sound (C := C) ⟨_, Tryd.func20, rfl, rfl⟩ (fun w ht => strconv_Atoi_call a0 hc w ht.syn ht.rng)
  · cases h⟩
end strconv_Atoi
/-! #### strings.Join (21) -/
namespace strings_Join
def S (a0 : List ByteArray) (a1 : ByteArray) : List (PV U) := YtpndhhellhfegaaDoorEv.start C 2 [.sl 9 a0, .str a1] []
def f (a0 : List ByteArray) (a1 : ByteArray) : Option A := if a0.length ≤ 140737488355328 ∧ (Lib.join (List.map (fun x : ByteArray => x.data.toList) a0) a1.data.toList).length ≤ 140737488355328 then some ⟨(Lib.join (List.map (fun x : ByteArray => x.data.toList) a0) a1.data.toList).toArray⟩ else none
def told (a0 : List ByteArray) (a1 : ByteArray) : YtpndhhellhfegaaDoorEv.Told A := ⟨f a0 a1, fun r => SoundCall Pg C 21 (S a0 a1) 0 (v r) (o r), fun r h => by
  unfold f at h
  split at h
  · rename_i hc
    cases h
    exact join_sound (C := C) (e := 9) (toT := fun x : ByteArray => x) ⟨_, Tryd.func21, rfl, rfl⟩ (fun _ => rfl)
      (fun hx a c w _ => by
        have hx : a0 = [] := hx
        subst hx
        refine (Go.Proofs.Tryd.strings_Join_none a c a1 w).mono ?_
        rintro e w' ⟨rfl, rfl⟩
        exact ⟨rfl, Below.refl _ _⟩)
      (fun b o c w _ hcell hb hcap => (Go.Proofs.Tryd.strings_Join b o c a0 a1 w (fun j x hx => hcell j x (show (List.map (fun x : ByteArray => x) (a0 : List ByteArray))[j]? = some x from by rw [List.map_id']; exact hx)) hb hc.1 hcap hc.2).mono (by rintro e w' ⟨rfl, hb⟩; exact ⟨rfl, hb⟩))
  · cases h⟩
end strings_Join
/-! #### loop.example/g00983/impl.ParseAct (7) -/
namespace impl_ParseAct
def S (a0 : ByteArray) : List (PV U) := YtpndhhellhfegaaDoorEv.start C 62 [.str a0] []
inductive X where
 | c5 (x0 x1 x2 : Int) (x3 : List ByteArray) (x4 x5 x6 : Int)
 | c8 (x0 x1 x2 : Int) (x3 : List ByteArray) (x4 x5 x6 : Int)
def id : X → Nat
 | .c5 .. => 5
 | .c8 .. => 8
def st : X → List (PV U)
 | .c5 x0 x1 x2 x3 x4 x5 x6 => stOf 62 [(2, .box [.int .i64 x0, .int .i64 x1, .int .i64 x2]), (4, .own true 9 x3), (6, .box [.int .i64 x4, .int .i64 x5, .int .i64 x6])]
 | .c8 x0 x1 x2 x3 x4 x5 x6 => stOf 62 [(2, .box [.int .i64 x0, .int .i64 x1, .int .i64 x2]), (4, .own true 9 x3), (6, .box [.int .i64 x4, .int .i64 x5, .int .i64 x6])]
def begin (a0 : ByteArray) : Tr X A :=
 .call (impl_SplitFields.told a0) fun t1 => let u1_0 : Tr X A := (.ret ((0 : Int), (0 : Int), (0 : Int), false)); .ite (!t1.2)
  (u1_0)
  (.ite (decide ((List.length t1.1 : Int) < (2 : Int)))
   (u1_0)
   (.need ((0 : Int) ≤ (0 : Int) ∧ (0 : Int) < (List.length t1.1 : Int)) (.both (.call (impl_actNames.told) fun t2 => .both (.call (slices_Index_string.told t2 (rdY t1.1 (0 : Int))) fun t3 => let u3_0 : Tr X A := (.last (.last (.jump (.c5 (0 : Int) (0 : Int) (0 : Int) t1.1 t3 (0 : Int) (0 : Int))))); .both (u3_0)
      (.last (u3_0)))
     (.last (.last (.call (slices_Index_string.told t2 (rdY t1.1 (0 : Int))) fun t3 => .last (.last (.jump (.c5 (0 : Int) (0 : Int) (0 : Int) t1.1 t3 (0 : Int) (0 : Int))))))))
    (.last (.last (.call (impl_actNames.told) fun t2 => .last (.call (slices_Index_string.told t2 (rdY t1.1 (0 : Int))) fun t3 => .last (.last (.jump (.c5 (0 : Int) (0 : Int) (0 : Int) t1.1 t3 (0 : Int) (0 : Int)))))))))))
def tree : X → Tr X A
 | .c5 x0 x1 x2 x3 x4 x5 x6 =>
 .need ((0 : Int) ≤ (1 : Int) ∧ (1 : Int) < (List.length x3 : Int)) (.call (strconv_Atoi.told (rdY x3 (1 : Int))) fun t1 => .ite (decide ((List.length x3 : Int) > (2 : Int)))
  (.need ((0 : Int) ≤ (2 : Int) ∧ (2 : Int) < (List.length x3 : Int)) (.call (strconv_Atoi.told (rdY x3 (2 : Int))) fun t2 => .jump (.c8 x0 x1 x2 x3 x4 t1 t2)))
  (.jump (.c8 x0 x1 x2 x3 x4 t1 x6)))
 | .c8 x0 x1 x2 x3 x4 x5 x6 =>
 .call (impl_FormatAct.told x4 x5 x6) fun t1 => .ite (!t1.2)
  (.ret ((0 : Int), (0 : Int), (0 : Int), false))
  (.call (strings_Join.told x3 (⟨#[32]⟩ : ByteArray)) fun t2 => .ite (t1.1 != t2)
   (.ret ((0 : Int), (0 : Int), (0 : Int), false))
   (.ret (x4, x5, x6, true)))
def f (a0 : ByteArray) : Option A := (begin a0).run (lp tree)
def Q : Plan C := { PL with cuts := [(5, [2, 4, 6, 55, 56, 57, 58]), (8, [2, 4, 6, 55, 56, 57, 58])], ords := [(4, [5, 7], (.take 1 [] (.take 2 [] (.take 3 [0, 1, 2, 6] (.alt 0 (.alt 4 (.alt 5 (.alt 6 (.alt 7 .done .nil) .nil) (.alt 6 (.alt 5 (.alt 7 .done .nil) .nil) .nil)) (.alt 6 (.alt 4 (.alt 5 (.alt 7 .done .nil) .nil) .nil) .nil)) (.alt 6 (.alt 0 (.alt 4 (.alt 5 (.alt 7 .done .nil) .nil) .nil) .nil) .nil))))))] }
theorem e : CutEq Pg C Q Tryd.f7 0 id st v o tree := fun J K x => by cases x <;> kernel_rfl
def told (a0 : ByteArray) : YtpndhhellhfegaaDoorEv.Told A := ⟨f a0, fun r => SoundCall Pg C 7 (S a0) 0 (v r) (o r), fun r h => sdCut v o Tryd.func7 rfl (of_decide_eq_true (by kernel_rfl)) (by rfl) (fun _ => rfl) e (fun J K => by kernel_rfl) h⟩
end impl_ParseAct
/-! #### loop.example/g00983/laws.FnActTexts (3) -/
namespace laws_FnActTexts
def S (a0 : List Int) : List (PV U) := YtpndhhellhfegaaDoorEv.start C 52 [.sl 5 a0] []
inductive X where
 | c5 (x0 : List S43) (x1 : Int)
def id : X → Nat
 | .c5 .. => 5
def st : X → List (PV U)
 | .c5 x0 x1 => stOf 52 [(4, .own true 44 x0), (5, .int .i64 x1)]
def begin (a0 : List Int) : Tr X A :=
 .call (laws_big.told a0) fun t1 => .ite t1
  (.ret true)
  (.call (spec_DrawActs.told a0) fun t2 => .jump (.c5 t2.2.2.2.2.2.2.2.2.2.2.2.2.2 (0 : Int)))
def tree : X → Tr X A
 | .c5 x0 x1 =>
 .ite (decide (x1 < (List.length x0 : Int)))
  (.need ((0 : Int) ≤ x1 ∧ x1 < (List.length x0 : Int)) (.call (impl_FormatAct.told ((rdS43 x0 x1).f0) ((rdS43 x0 x1).f1) ((rdS43 x0 x1).f2)) fun t1 => .need (((⟨#[32, 32]⟩ : ByteArray).size : Int) + t1.1.size ≤ room) (.need ((((⟨#[32, 32]⟩ : ByteArray) ++ t1.1).size : Int) + (⟨#[32]⟩ : ByteArray).size ≤ room) (.call (impl_ParseAct.told (((⟨#[32, 32]⟩ : ByteArray) ++ t1.1) ++ (⟨#[32]⟩ : ByteArray))) fun t2 => .ite (!t1.2)
   (.last (.ret false))
   (.ite (!t2.2.2.2)
    (.last (.ret false))
    (.need ((0 : Int) ≤ x1 ∧ x1 < (List.length x0 : Int)) (.last (.val ((!(decide (t2.1 = (rdS43 x0 x1).f0) && (decide (t2.2.1 = (rdS43 x0 x1).f1) && (decide (t2.2.2.1 = (rdS43 x0 x1).f2) && true)))) : Bool) fun v3 => .ite v3
     (.ret false)
     (.jump (.c5 x0 (wr (x1 + (1 : Int)))))))))))))
  (.ret true)
def f (a0 : List Int) : Option A := (begin a0).run (lp tree)
def Q : Plan C := { PL with cuts := [(5, [4, 5])], ords := [(9, [], (.take 0 [] (.take 1 [] (.take 2 [] (.take 3 [] (.take 4 [] (.take 5 [] (.take 6 [] (.take 8 [] (.take 9 [] (.take 10 [] (.take 7 [0, 1, 2, 3, 4, 5, 6, 8, 9, 10, 11] (.take 11 [0, 1, 2, 3, 4, 5, 6, 7, 8, 9, 10] (.alt 12 (.take 13 [] .done) .nil))))))))))))))] }
theorem e : CutEq Pg C Q Tryd.f3 0 id st v o tree := fun J K x => by cases x <;> kernel_rfl
def told (a0 : List Int) : YtpndhhellhfegaaDoorEv.Told A := ⟨f a0, fun r => SoundCall Pg C 3 (S a0) 0 (v r) (o r), fun r h => sdCut v o Tryd.func3 rfl (of_decide_eq_true (by kernel_rfl)) (by rfl) (fun _ => rfl) e (fun J K => by kernel_rfl) h⟩
end laws_FnActTexts
end
end Go.Proofs.YtpndhhellhfegaaDoor.Ev
