/- Functions as trees, with their contracts. No conditions. -/
import Derived.Test.YtpndhhellhfegaaGreatDoorFEvF1
namespace Go.Proofs.YtpndhhellhfegaaGreatDoor.Ev
open Go.Proofs.YtpndhhellhfegaaGreatDoorEv Go.RowKit
set_option linter.unusedVariables false
set_option maxRecDepth 100000
noncomputable section
/-! #### loop.example/g00983/laws.FnExactFormatNode (3) -/
namespace laws_FnExactFormatNode
def S (a0 : List S126) (a1 a2 : List Int) (a3 a4 a5 a6 a7 a8 a9 a10 : Int) (a11 : List Int) (a12 : Int) : List (PV U) := YtpndhhellhfegaaGreatDoorEv.start C 69 [.agg [.sl 127 a0, .sl 3 a1, .sl 3 a2, .int .i64 a3, .int .i64 a4, .int .i64 a5, .int .i64 a6, .int .i64 a7, .int .i64 a8, .int .i64 a9, .int .i64 a10, .sl 3 a11, .int .i64 a12]] []
def begin (a0 : List S126) (a1 a2 : List Int) (a3 a4 a5 a6 a7 a8 a9 a10 : Int) (a11 : List Int) (a12 : Int) : Tr Empty A :=
 .call (laws_szNode.told a0 a1 a2 a3 a4 a5 a6 a7 a8 a9 a10 a11 a12 (1048576 : Int)) fun t1 => .ite (decide (t1 < (0 : Int)))
  (.ret true)
  (.call (laws_toNode.told a0 a1 a2 a3 a4 a5 a6 a7 a8 a9 a10 a11 a12) fun t2 => .call (spec_FormatNode.told t2.1 t2.2.1 t2.2.2.1 t2.2.2.2.1 t2.2.2.2.2.1 t2.2.2.2.2.2.1 t2.2.2.2.2.2.2.1 t2.2.2.2.2.2.2.2.1 t2.2.2.2.2.2.2.2.2.1 t2.2.2.2.2.2.2.2.2.2.1 t2.2.2.2.2.2.2.2.2.2.2.1 t2.2.2.2.2.2.2.2.2.2.2.2.1 t2.2.2.2.2.2.2.2.2.2.2.2.2) fun t3 => .call (laws_toNode.told a0 a1 a2 a3 a4 a5 a6 a7 a8 a9 a10 a11 a12) fun t4 => .call (impl_FormatNode.told t4.1 t4.2.1 t4.2.2.1 t4.2.2.2.1 t4.2.2.2.2.1 t4.2.2.2.2.2.1 t4.2.2.2.2.2.2.1 t4.2.2.2.2.2.2.2.1 t4.2.2.2.2.2.2.2.2.1 t4.2.2.2.2.2.2.2.2.2.1 t4.2.2.2.2.2.2.2.2.2.2.1 t4.2.2.2.2.2.2.2.2.2.2.2.1 t4.2.2.2.2.2.2.2.2.2.2.2.2) fun t5 => .call (laws_eqStringS.told t5 t3) fun t6 => .ite (!t6)
   (.ret false)
   (.last (.call (laws_toNode.told a0 a1 a2 a3 a4 a5 a6 a7 a8 a9 a10 a11 a12) fun t7 => .last (.call (laws_eqNode.told t4.1 t4.2.1 t4.2.2.1 t4.2.2.2.1 t4.2.2.2.2.1 t4.2.2.2.2.2.1 t4.2.2.2.2.2.2.1 t4.2.2.2.2.2.2.2.1 t4.2.2.2.2.2.2.2.2.1 t4.2.2.2.2.2.2.2.2.2.1 t4.2.2.2.2.2.2.2.2.2.2.1 t4.2.2.2.2.2.2.2.2.2.2.2.1 t4.2.2.2.2.2.2.2.2.2.2.2.2 t7.1 t7.2.1 t7.2.2.1 t7.2.2.2.1 t7.2.2.2.2.1 t7.2.2.2.2.2.1 t7.2.2.2.2.2.2.1 t7.2.2.2.2.2.2.2.1 t7.2.2.2.2.2.2.2.2.1 t7.2.2.2.2.2.2.2.2.2.1 t7.2.2.2.2.2.2.2.2.2.2.1 t7.2.2.2.2.2.2.2.2.2.2.2.1 t7.2.2.2.2.2.2.2.2.2.2.2.2) fun t8 => .ite (!t8)
    (.ret false)
    (.call (laws_markNode.told t4.2.2.2.1 t4.2.2.2.2.1 t4.2.2.2.2.2.1 t4.2.2.2.2.2.2.1 t4.2.2.2.2.2.2.2.1 t4.2.2.2.2.2.2.2.2.1 t4.2.2.2.2.2.2.2.2.2.1 t4.2.2.2.2.2.2.2.2.2.2.1 t4.2.2.2.2.2.2.2.2.2.2.2.2 (1 : Int) t4.1 t4.2.1 t4.2.2.1 t4.2.2.2.2.2.2.2.2.2.2.2.1) fun t9 => .ite (decide (t9.1 < (0 : Int)))
     (.ret false)
     (.call (laws_eqStringS.told t5 t3) fun t10 => .ite (!t10)
      (.ret false)
      (.call (laws_markStringS.told (1 : Int) t5) fun t11 => .call (laws_heldStringS.told t11.2 (1 : Int)) fun t12 => .ite (decide (t12 < (0 : Int)))
       (.ret false)
       (.ite (!decide (t12 = t11.1))
        (.ret false)
        (.call (laws_toNode.told a0 a1 a2 a3 a4 a5 a6 a7 a8 a9 a10 a11 a12) fun t13 => .call (impl_FormatNode.told t13.1 t13.2.1 t13.2.2.1 t13.2.2.2.1 t13.2.2.2.2.1 t13.2.2.2.2.2.1 t13.2.2.2.2.2.2.1 t13.2.2.2.2.2.2.2.1 t13.2.2.2.2.2.2.2.2.1 t13.2.2.2.2.2.2.2.2.2.1 t13.2.2.2.2.2.2.2.2.2.2.1 t13.2.2.2.2.2.2.2.2.2.2.2.1 t13.2.2.2.2.2.2.2.2.2.2.2.2) fun t14 => .call (laws_eqStringS.told t14 t3) fun t15 => .ite (!t15)
         (.ret false)
         (.call (laws_heldStringS.told t11.2 (1 : Int)) fun t16 => .ite (decide (t16 < (0 : Int)))
          (.ret false)
          (.ite (!decide (t16 = t11.1))
           (.ret false)
           (.ret true))))))))))))
def f (a0 : List S126) (a1 a2 : List Int) (a3 a4 a5 a6 a7 a8 a9 a10 : Int) (a11 : List Int) (a12 : Int) : Option A := (begin a0 a1 a2 a3 a4 a5 a6 a7 a8 a9 a10 a11 a12).run (lp noTree)
def Q : Plan C := { PL with ords := [(10, [], (.take 0 [1, 2] (.take 1 [0] (.alt 2 (.alt 3 (.take 4 [] .done) .nil) .nil))))] }
def told (a0 : List S126) (a1 a2 : List Int) (a3 a4 a5 a6 a7 a8 a9 a10 : Int) (a11 : List Int) (a12 : Int) : YtpndhhellhfegaaGreatDoorEv.Told A := ⟨f a0 a1 a2 a3 a4 a5 a6 a7 a8 a9 a10 a11 a12, fun r => SoundCall Pg C 3 (S a0 a1 a2 a3 a4 a5 a6 a7 a8 a9 a10 a11 a12) 0 (v r) (o r), fun r h => sdFlat (Q := Q) v o Tryz.func3 rfl (of_decide_eq_true (by kernel_rfl)) (by rfl) (fun _ => rfl) (fun J K => by kernel_rfl) h⟩
end laws_FnExactFormatNode
end
end Go.Proofs.YtpndhhellhfegaaGreatDoor.Ev
