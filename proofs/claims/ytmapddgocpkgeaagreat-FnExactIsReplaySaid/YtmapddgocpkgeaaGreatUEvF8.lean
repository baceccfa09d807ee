/- Functions as trees, with their contracts. No conditions. -/
import Derived.Test.YtmapddgocpkgeaaGreatUEvF7
namespace Go.Proofs.YtmapddgocpkgeaaGreat.Ev
open Go.Proofs.YtmapddgocpkgeaaGreat.aa Go.RowKit
set_option linter.unusedVariables false
set_option maxRecDepth 100000
noncomputable section
namespace eX
def S (a0:List gd) (a1 a2:List Int) (a3 a4 a5 a6 a7 a8 a9 a10:Int) (a11:List Int) (a12 a13 a14 a15:Int):List (PV U):=aa.start C 104 [.agg [.sl 191 a0,.sl 3 a1,.sl 3 a2,.int .i64 a3,.int .i64 a4,.int .i64 a5,.int .i64 a6,.int .i64 a7,.int .i64 a8,.int .i64 a9,.int .i64 a10,.sl 3 a11,.int .i64 a12],.agg [.int .i64 a13,.int .i64 a14,.int .i64 a15]] []
inductive X where
 | c7 (x0:List gd) (x1 x2:List Int) (x3 x4 x5 x6 x7 x8 x9 x10:Int) (x11:List Int) (x12 x13 x14 x15:Int) (x16:List aC) (x17 x18:List Int) (x19 x20 x21 x22 x23 x24 x25 x26:Int) (x27:List Int) (x28 x29:Int) (x30:List aC) (x31 x32:List Int) (x33 x34 x35 x36 x37 x38 x39 x40:Int) (x41:List Int) (x42:Int)
 | c8 (x0:List gd) (x1 x2:List Int) (x3 x4 x5 x6 x7 x8 x9 x10:Int) (x11:List Int) (x12 x13 x14 x15:Int) (x16:List aC) (x17 x18:List Int) (x19 x20 x21 x22 x23 x24 x25 x26:Int) (x27:List Int) (x28 x29:Int) (x30:List aC) (x31 x32:List Int) (x33 x34 x35 x36 x37 x38 x39 x40:Int) (x41:List Int) (x42:Int) (x43:List aC) (x44 x45:List Int) (x46 x47 x48 x49 x50 x51 x52 x53:Int) (x54:List Int) (x55 x56:Int)
 | EA (x0:List aC) (x1 x2:List Int) (x3 x4 x5 x6 x7 x8 x9 x10:Int) (x11:List Int) (x12 x13:Int) (x14:List aC) (x15 x16:List Int) (x17 x18 x19 x20 x21 x22 x23 x24:Int) (x25:List Int) (x26 x27:Int) (x28:List aC) (x29 x30:List Int) (x31 x32 x33 x34 x35 x36 x37 x38:Int) (x39:List Int) (x40 x41:Int)
def id:X→Nat
 | .c7 .. =>7
 | .c8 .. =>8
 | .EA .. =>25
def st:X→List (PV U)
 | .c7 x0 x1 x2 x3 x4 x5 x6 x7 x8 x9 x10 x11 x12 x13 x14 x15 x16 x17 x18 x19 x20 x21 x22 x23 x24 x25 x26 x27 x28 x29 x30 x31 x32 x33 x34 x35 x36 x37 x38 x39 x40 x41 x42=>iC 104 [(2,.box [.sl 191 x0,.sl 3 x1,.sl 3 x2,.int .i64 x3,.int .i64 x4,.int .i64 x5,.int .i64 x6,.int .i64 x7,.int .i64 x8,.int .i64 x9,.int .i64 x10,.sl 3 x11,.int .i64 x12]),(3,.box [.int .i64 x13,.int .i64 x14,.int .i64 x15]),(6,.box [.own true 164 x16,.own true 3 x17,.own true 3 x18,.int .i64 x19,.int .i64 x20,.int .i64 x21,.int .i64 x22,.int .i64 x23,.int .i64 x24,.int .i64 x25,.int .i64 x26,.own true 3 x27,.int .i64 x28]),(7,.int .i64 x29),(8,.box [.own true 164 x30,.own true 3 x31,.own true 3 x32,.int .i64 x33,.int .i64 x34,.int .i64 x35,.int .i64 x36,.int .i64 x37,.int .i64 x38,.int .i64 x39,.int .i64 x40,.own true 3 x41,.int .i64 x42])]
 | .c8 x0 x1 x2 x3 x4 x5 x6 x7 x8 x9 x10 x11 x12 x13 x14 x15 x16 x17 x18 x19 x20 x21 x22 x23 x24 x25 x26 x27 x28 x29 x30 x31 x32 x33 x34 x35 x36 x37 x38 x39 x40 x41 x42 x43 x44 x45 x46 x47 x48 x49 x50 x51 x52 x53 x54 x55 x56=>iC 104 [(2,.box [.sl 191 x0,.sl 3 x1,.sl 3 x2,.int .i64 x3,.int .i64 x4,.int .i64 x5,.int .i64 x6,.int .i64 x7,.int .i64 x8,.int .i64 x9,.int .i64 x10,.sl 3 x11,.int .i64 x12]),(3,.box [.int .i64 x13,.int .i64 x14,.int .i64 x15]),(6,.box [.own true 164 x16,.own true 3 x17,.own true 3 x18,.int .i64 x19,.int .i64 x20,.int .i64 x21,.int .i64 x22,.int .i64 x23,.int .i64 x24,.int .i64 x25,.int .i64 x26,.own true 3 x27,.int .i64 x28]),(7,.int .i64 x29),(8,.box [.own true 164 x30,.own true 3 x31,.own true 3 x32,.int .i64 x33,.int .i64 x34,.int .i64 x35,.int .i64 x36,.int .i64 x37,.int .i64 x38,.int .i64 x39,.int .i64 x40,.own true 3 x41,.int .i64 x42]),(9,.box [.own true 164 x43,.own true 3 x44,.own true 3 x45,.int .i64 x46,.int .i64 x47,.int .i64 x48,.int .i64 x49,.int .i64 x50,.int .i64 x51,.int .i64 x52,.int .i64 x53,.own true 3 x54,.int .i64 x55]),(10,.int .i64 x56)]
 | .EA x0 x1 x2 x3 x4 x5 x6 x7 x8 x9 x10 x11 x12 x13 x14 x15 x16 x17 x18 x19 x20 x21 x22 x23 x24 x25 x26 x27 x28 x29 x30 x31 x32 x33 x34 x35 x36 x37 x38 x39 x40 x41=>iC 104 [(6,.box [.own true 164 x0,.own true 3 x1,.own true 3 x2,.int .i64 x3,.int .i64 x4,.int .i64 x5,.int .i64 x6,.int .i64 x7,.int .i64 x8,.int .i64 x9,.int .i64 x10,.own true 3 x11,.int .i64 x12]),(7,.int .i64 x13),(9,.box [.own true 164 x14,.own true 3 x15,.own true 3 x16,.int .i64 x17,.int .i64 x18,.int .i64 x19,.int .i64 x20,.int .i64 x21,.int .i64 x22,.int .i64 x23,.int .i64 x24,.own true 3 x25,.int .i64 x26]),(12,.int .i64 x27),(14,.box [.own true 164 x28,.own true 3 x29,.own true 3 x30,.int .i64 x31,.int .i64 x32,.int .i64 x33,.int .i64 x34,.int .i64 x35,.int .i64 x36,.int .i64 x37,.int .i64 x38,.own true 3 x39,.int .i64 x40]),(15,.int .i64 x41)]
def begin (a0:List gd) (a1 a2:List Int) (a3 a4 a5 a6 a7 a8 a9 a10:Int) (a11:List Int) (a12 a13 a14 a15:Int):Tr X A:=
 .call (gW.told a0 a1 a2 a3 a4 a5 a6 a7 a8 a9 a10 a11 a12 (1048576:Int)) fun t1=> .ite (decide (t1<(0:Int)))
  (.ret true)
  (.both (.call (dw.told a0 a1 a2 a3 a4 a5 a6 a7 a8 a9 a10 a11 a12) fun t2=> .both (.call (gY.told a13 a14 a15) fun t3=> .both (.call (bf.told t2.1 t2.2.1 t2.2.2.1 t2.2.2.2.1 t2.2.2.2.2.1 t2.2.2.2.2.2.1 t2.2.2.2.2.2.2.1 t2.2.2.2.2.2.2.2.1 t2.2.2.2.2.2.2.2.2.1 t2.2.2.2.2.2.2.2.2.2.1 t2.2.2.2.2.2.2.2.2.2.2.1 t2.2.2.2.2.2.2.2.2.2.2.2.1 t2.2.2.2.2.2.2.2.2.2.2.2.2 t3.1 t3.2.1 t3.2.2) fun t4=> .last (.last (.call (dw.told a0 a1 a2 a3 a4 a5 a6 a7 a8 a9 a10 a11 a12) fun t5=> .jump (.c7 a0 a1 a2 a3 a4 a5 a6 a7 a8 a9 a10 a11 a12 a13 a14 a15 t4.1 t4.2.1 t4.2.2.1 t4.2.2.2.1 t4.2.2.2.2.1 t4.2.2.2.2.2.1 t4.2.2.2.2.2.2.1 t4.2.2.2.2.2.2.2.1 t4.2.2.2.2.2.2.2.2.1 t4.2.2.2.2.2.2.2.2.2.1 t4.2.2.2.2.2.2.2.2.2.2.1 t4.2.2.2.2.2.2.2.2.2.2.2.1 t4.2.2.2.2.2.2.2.2.2.2.2.2.1 t4.2.2.2.2.2.2.2.2.2.2.2.2.2 t5.1 t5.2.1 t5.2.2.1 t5.2.2.2.1 t5.2.2.2.2.1 t5.2.2.2.2.2.1 t5.2.2.2.2.2.2.1 t5.2.2.2.2.2.2.2.1 t5.2.2.2.2.2.2.2.2.1 t5.2.2.2.2.2.2.2.2.2.1 t5.2.2.2.2.2.2.2.2.2.2.1 t5.2.2.2.2.2.2.2.2.2.2.2.1 t5.2.2.2.2.2.2.2.2.2.2.2.2))))
   (.last (.last (.call (bf.told t2.1 t2.2.1 t2.2.2.1 t2.2.2.2.1 t2.2.2.2.2.1 t2.2.2.2.2.2.1 t2.2.2.2.2.2.2.1 t2.2.2.2.2.2.2.2.1 t2.2.2.2.2.2.2.2.2.1 t2.2.2.2.2.2.2.2.2.2.1 t2.2.2.2.2.2.2.2.2.2.2.1 t2.2.2.2.2.2.2.2.2.2.2.2.1 t2.2.2.2.2.2.2.2.2.2.2.2.2 t3.1 t3.2.1 t3.2.2) fun t4=> .last (.call (dw.told a0 a1 a2 a3 a4 a5 a6 a7 a8 a9 a10 a11 a12) fun t5=> .jump (.c7 a0 a1 a2 a3 a4 a5 a6 a7 a8 a9 a10 a11 a12 a13 a14 a15 t4.1 t4.2.1 t4.2.2.1 t4.2.2.2.1 t4.2.2.2.2.1 t4.2.2.2.2.2.1 t4.2.2.2.2.2.2.1 t4.2.2.2.2.2.2.2.1 t4.2.2.2.2.2.2.2.2.1 t4.2.2.2.2.2.2.2.2.2.1 t4.2.2.2.2.2.2.2.2.2.2.1 t4.2.2.2.2.2.2.2.2.2.2.2.1 t4.2.2.2.2.2.2.2.2.2.2.2.2.1 t4.2.2.2.2.2.2.2.2.2.2.2.2.2 t5.1 t5.2.1 t5.2.2.1 t5.2.2.2.1 t5.2.2.2.2.1 t5.2.2.2.2.2.1 t5.2.2.2.2.2.2.1 t5.2.2.2.2.2.2.2.1 t5.2.2.2.2.2.2.2.2.1 t5.2.2.2.2.2.2.2.2.2.1 t5.2.2.2.2.2.2.2.2.2.2.1 t5.2.2.2.2.2.2.2.2.2.2.2.1 t5.2.2.2.2.2.2.2.2.2.2.2.2))))))
    (.last (.last (.call (gY.told a13 a14 a15) fun t3=> .last (.call (bf.told t2.1 t2.2.1 t2.2.2.1 t2.2.2.2.1 t2.2.2.2.2.1 t2.2.2.2.2.2.1 t2.2.2.2.2.2.2.1 t2.2.2.2.2.2.2.2.1 t2.2.2.2.2.2.2.2.2.1 t2.2.2.2.2.2.2.2.2.2.1 t2.2.2.2.2.2.2.2.2.2.2.1 t2.2.2.2.2.2.2.2.2.2.2.2.1 t2.2.2.2.2.2.2.2.2.2.2.2.2 t3.1 t3.2.1 t3.2.2) fun t4=> .last (.call (dw.told a0 a1 a2 a3 a4 a5 a6 a7 a8 a9 a10 a11 a12) fun t5=> .jump (.c7 a0 a1 a2 a3 a4 a5 a6 a7 a8 a9 a10 a11 a12 a13 a14 a15 t4.1 t4.2.1 t4.2.2.1 t4.2.2.2.1 t4.2.2.2.2.1 t4.2.2.2.2.2.1 t4.2.2.2.2.2.2.1 t4.2.2.2.2.2.2.2.1 t4.2.2.2.2.2.2.2.2.1 t4.2.2.2.2.2.2.2.2.2.1 t4.2.2.2.2.2.2.2.2.2.2.1 t4.2.2.2.2.2.2.2.2.2.2.2.1 t4.2.2.2.2.2.2.2.2.2.2.2.2.1 t4.2.2.2.2.2.2.2.2.2.2.2.2.2 t5.1 t5.2.1 t5.2.2.1 t5.2.2.2.1 t5.2.2.2.2.1 t5.2.2.2.2.2.1 t5.2.2.2.2.2.2.1 t5.2.2.2.2.2.2.2.1 t5.2.2.2.2.2.2.2.2.1 t5.2.2.2.2.2.2.2.2.2.1 t5.2.2.2.2.2.2.2.2.2.2.1 t5.2.2.2.2.2.2.2.2.2.2.2.1 t5.2.2.2.2.2.2.2.2.2.2.2.2)))))))
   (.last (.last (.call (dw.told a0 a1 a2 a3 a4 a5 a6 a7 a8 a9 a10 a11 a12) fun t2=> .last (.call (gY.told a13 a14 a15) fun t3=> .last (.call (bf.told t2.1 t2.2.1 t2.2.2.1 t2.2.2.2.1 t2.2.2.2.2.1 t2.2.2.2.2.2.1 t2.2.2.2.2.2.2.1 t2.2.2.2.2.2.2.2.1 t2.2.2.2.2.2.2.2.2.1 t2.2.2.2.2.2.2.2.2.2.1 t2.2.2.2.2.2.2.2.2.2.2.1 t2.2.2.2.2.2.2.2.2.2.2.2.1 t2.2.2.2.2.2.2.2.2.2.2.2.2 t3.1 t3.2.1 t3.2.2) fun t4=> .last (.call (dw.told a0 a1 a2 a3 a4 a5 a6 a7 a8 a9 a10 a11 a12) fun t5=> .jump (.c7 a0 a1 a2 a3 a4 a5 a6 a7 a8 a9 a10 a11 a12 a13 a14 a15 t4.1 t4.2.1 t4.2.2.1 t4.2.2.2.1 t4.2.2.2.2.1 t4.2.2.2.2.2.1 t4.2.2.2.2.2.2.1 t4.2.2.2.2.2.2.2.1 t4.2.2.2.2.2.2.2.2.1 t4.2.2.2.2.2.2.2.2.2.1 t4.2.2.2.2.2.2.2.2.2.2.1 t4.2.2.2.2.2.2.2.2.2.2.2.1 t4.2.2.2.2.2.2.2.2.2.2.2.2.1 t4.2.2.2.2.2.2.2.2.2.2.2.2.2 t5.1 t5.2.1 t5.2.2.1 t5.2.2.2.1 t5.2.2.2.2.1 t5.2.2.2.2.2.1 t5.2.2.2.2.2.2.1 t5.2.2.2.2.2.2.2.1 t5.2.2.2.2.2.2.2.2.1 t5.2.2.2.2.2.2.2.2.2.1 t5.2.2.2.2.2.2.2.2.2.2.1 t5.2.2.2.2.2.2.2.2.2.2.2.1 t5.2.2.2.2.2.2.2.2.2.2.2.2))))))))
def tree:X→Tr X A
 | .c7 x0 x1 x2 x3 x4 x5 x6 x7 x8 x9 x10 x11 x12 x13 x14 x15 x16 x17 x18 x19 x20 x21 x22 x23 x24 x25 x26 x27 x28 x29 x30 x31 x32 x33 x34 x35 x36 x37 x38 x39 x40 x41 x42=>
 .both (.call (gY.told x13 x14 x15) fun t1=> .both (.call (dm.told x30 x31 x32 x33 x34 x35 x36 x37 x38 x39 x40 x41 x42 t1.1 t1.2.1 t1.2.2) fun t2=> .last (.last (.jump (.c8 x0 x1 x2 x3 x4 x5 x6 x7 x8 x9 x10 x11 x12 x13 x14 x15 x16 x17 x18 x19 x20 x21 x22 x23 x24 x25 x26 x27 x28 x29 x30 x31 x32 x33 x34 x35 x36 x37 x38 x39 x40 x41 x42 t2.1 t2.2.1 t2.2.2.1 t2.2.2.2.1 t2.2.2.2.2.1 t2.2.2.2.2.2.1 t2.2.2.2.2.2.2.1 t2.2.2.2.2.2.2.2.1 t2.2.2.2.2.2.2.2.2.1 t2.2.2.2.2.2.2.2.2.2.1 t2.2.2.2.2.2.2.2.2.2.2.1 t2.2.2.2.2.2.2.2.2.2.2.2.1 t2.2.2.2.2.2.2.2.2.2.2.2.2.1 t2.2.2.2.2.2.2.2.2.2.2.2.2.2))))
  (.last (.last (.call (dm.told x30 x31 x32 x33 x34 x35 x36 x37 x38 x39 x40 x41 x42 t1.1 t1.2.1 t1.2.2) fun t2=> .last (.jump (.c8 x0 x1 x2 x3 x4 x5 x6 x7 x8 x9 x10 x11 x12 x13 x14 x15 x16 x17 x18 x19 x20 x21 x22 x23 x24 x25 x26 x27 x28 x29 x30 x31 x32 x33 x34 x35 x36 x37 x38 x39 x40 x41 x42 t2.1 t2.2.1 t2.2.2.1 t2.2.2.2.1 t2.2.2.2.2.1 t2.2.2.2.2.2.1 t2.2.2.2.2.2.2.1 t2.2.2.2.2.2.2.2.1 t2.2.2.2.2.2.2.2.2.1 t2.2.2.2.2.2.2.2.2.2.1 t2.2.2.2.2.2.2.2.2.2.2.1 t2.2.2.2.2.2.2.2.2.2.2.2.1 t2.2.2.2.2.2.2.2.2.2.2.2.2.1 t2.2.2.2.2.2.2.2.2.2.2.2.2.2))))))
  (.last (.last (.call (gY.told x13 x14 x15) fun t1=> .last (.call (dm.told x30 x31 x32 x33 x34 x35 x36 x37 x38 x39 x40 x41 x42 t1.1 t1.2.1 t1.2.2) fun t2=> .last (.jump (.c8 x0 x1 x2 x3 x4 x5 x6 x7 x8 x9 x10 x11 x12 x13 x14 x15 x16 x17 x18 x19 x20 x21 x22 x23 x24 x25 x26 x27 x28 x29 x30 x31 x32 x33 x34 x35 x36 x37 x38 x39 x40 x41 x42 t2.1 t2.2.1 t2.2.2.1 t2.2.2.2.1 t2.2.2.2.2.1 t2.2.2.2.2.2.1 t2.2.2.2.2.2.2.1 t2.2.2.2.2.2.2.2.1 t2.2.2.2.2.2.2.2.2.1 t2.2.2.2.2.2.2.2.2.2.1 t2.2.2.2.2.2.2.2.2.2.2.1 t2.2.2.2.2.2.2.2.2.2.2.2.1 t2.2.2.2.2.2.2.2.2.2.2.2.2.1 t2.2.2.2.2.2.2.2.2.2.2.2.2.2))))))
 | .c8 x0 x1 x2 x3 x4 x5 x6 x7 x8 x9 x10 x11 x12 x13 x14 x15 x16 x17 x18 x19 x20 x21 x22 x23 x24 x25 x26 x27 x28 x29 x30 x31 x32 x33 x34 x35 x36 x37 x38 x39 x40 x41 x42 x43 x44 x45 x46 x47 x48 x49 x50 x51 x52 x53 x54 x55 x56=>
 .call (eP.told x43 x44 x45 x46 x47 x48 x49 x50 x51 x52 x53 x54 x55 x16 x17 x18 x19 x20 x21 x22 x23 x24 x25 x26 x27 x28) fun t1=> .ite (!t1)
  (.ret false)
  (.ite (!decide (x56=x29))
   (.ret false)
   (.last (.call (dw.told x0 x1 x2 x3 x4 x5 x6 x7 x8 x9 x10 x11 x12) fun t2=> .last (.call (eP.told x30 x31 x32 x33 x34 x35 x36 x37 x38 x39 x40 x41 x42 t2.1 t2.2.1 t2.2.2.1 t2.2.2.2.1 t2.2.2.2.2.1 t2.2.2.2.2.2.1 t2.2.2.2.2.2.2.1 t2.2.2.2.2.2.2.2.1 t2.2.2.2.2.2.2.2.2.1 t2.2.2.2.2.2.2.2.2.2.1 t2.2.2.2.2.2.2.2.2.2.2.1 t2.2.2.2.2.2.2.2.2.2.2.2.1 t2.2.2.2.2.2.2.2.2.2.2.2.2) fun t3=> .ite (!t3)
    (.ret false)
    (.call (gk.told x33 x34 x35 x36 x37 x38 x39 x40 x42 (1:Int) x30 x31 x32 x41) fun t4=> .ite (decide (t4.1<(0:Int)))
     (.ret false)
     (.call (eP.told x43 x44 x45 x46 x47 x48 x49 x50 x51 x52 x53 x54 x55 x16 x17 x18 x19 x20 x21 x22 x23 x24 x25 x26 x27 x28) fun t5=> .ite (!t5)
      (.ret false)
      (.ite (!decide (x56=x29))
       (.ret false)
       (.call (gk.told x46 x47 x48 x49 x50 x51 x52 x53 x55 (1:Int) x43 x44 x45 x54) fun t6=> .call (fV.told t6.2.1 t6.2.2.1 t6.2.2.2.1 x46 x47 x48 x49 x50 x51 x52 x53 t6.2.2.2.2 x55 (1:Int)) fun t7=> .ite (decide (t7<(0:Int)))
        (.ret false)
        (.ite (!decide (t7=t6.1))
         (.ret false)
         (.both (.call (dw.told x0 x1 x2 x3 x4 x5 x6 x7 x8 x9 x10 x11 x12) fun t8=> .both (.call (gY.told x13 x14 x15) fun t9=> .both (.call (dm.told t8.1 t8.2.1 t8.2.2.1 t8.2.2.2.1 t8.2.2.2.2.1 t8.2.2.2.2.2.1 t8.2.2.2.2.2.2.1 t8.2.2.2.2.2.2.2.1 t8.2.2.2.2.2.2.2.2.1 t8.2.2.2.2.2.2.2.2.2.1 t8.2.2.2.2.2.2.2.2.2.2.1 t8.2.2.2.2.2.2.2.2.2.2.2.1 t8.2.2.2.2.2.2.2.2.2.2.2.2 t9.1 t9.2.1 t9.2.2) fun t10=> .last (.last (.jump (.EA x16 x17 x18 x19 x20 x21 x22 x23 x24 x25 x26 x27 x28 x29 t6.2.1 t6.2.2.1 t6.2.2.2.1 x46 x47 x48 x49 x50 x51 x52 x53 t6.2.2.2.2 x55 t6.1 t10.1 t10.2.1 t10.2.2.1 t10.2.2.2.1 t10.2.2.2.2.1 t10.2.2.2.2.2.1 t10.2.2.2.2.2.2.1 t10.2.2.2.2.2.2.2.1 t10.2.2.2.2.2.2.2.2.1 t10.2.2.2.2.2.2.2.2.2.1 t10.2.2.2.2.2.2.2.2.2.2.1 t10.2.2.2.2.2.2.2.2.2.2.2.1 t10.2.2.2.2.2.2.2.2.2.2.2.2.1 t10.2.2.2.2.2.2.2.2.2.2.2.2.2))))
          (.last (.last (.call (dm.told t8.1 t8.2.1 t8.2.2.1 t8.2.2.2.1 t8.2.2.2.2.1 t8.2.2.2.2.2.1 t8.2.2.2.2.2.2.1 t8.2.2.2.2.2.2.2.1 t8.2.2.2.2.2.2.2.2.1 t8.2.2.2.2.2.2.2.2.2.1 t8.2.2.2.2.2.2.2.2.2.2.1 t8.2.2.2.2.2.2.2.2.2.2.2.1 t8.2.2.2.2.2.2.2.2.2.2.2.2 t9.1 t9.2.1 t9.2.2) fun t10=> .last (.jump (.EA x16 x17 x18 x19 x20 x21 x22 x23 x24 x25 x26 x27 x28 x29 t6.2.1 t6.2.2.1 t6.2.2.2.1 x46 x47 x48 x49 x50 x51 x52 x53 t6.2.2.2.2 x55 t6.1 t10.1 t10.2.1 t10.2.2.1 t10.2.2.2.1 t10.2.2.2.2.1 t10.2.2.2.2.2.1 t10.2.2.2.2.2.2.1 t10.2.2.2.2.2.2.2.1 t10.2.2.2.2.2.2.2.2.1 t10.2.2.2.2.2.2.2.2.2.1 t10.2.2.2.2.2.2.2.2.2.2.1 t10.2.2.2.2.2.2.2.2.2.2.2.1 t10.2.2.2.2.2.2.2.2.2.2.2.2.1 t10.2.2.2.2.2.2.2.2.2.2.2.2.2))))))
           (.last (.last (.call (gY.told x13 x14 x15) fun t9=> .last (.call (dm.told t8.1 t8.2.1 t8.2.2.1 t8.2.2.2.1 t8.2.2.2.2.1 t8.2.2.2.2.2.1 t8.2.2.2.2.2.2.1 t8.2.2.2.2.2.2.2.1 t8.2.2.2.2.2.2.2.2.1 t8.2.2.2.2.2.2.2.2.2.1 t8.2.2.2.2.2.2.2.2.2.2.1 t8.2.2.2.2.2.2.2.2.2.2.2.1 t8.2.2.2.2.2.2.2.2.2.2.2.2 t9.1 t9.2.1 t9.2.2) fun t10=> .last (.jump (.EA x16 x17 x18 x19 x20 x21 x22 x23 x24 x25 x26 x27 x28 x29 t6.2.1 t6.2.2.1 t6.2.2.2.1 x46 x47 x48 x49 x50 x51 x52 x53 t6.2.2.2.2 x55 t6.1 t10.1 t10.2.1 t10.2.2.1 t10.2.2.2.1 t10.2.2.2.2.1 t10.2.2.2.2.2.1 t10.2.2.2.2.2.2.1 t10.2.2.2.2.2.2.2.1 t10.2.2.2.2.2.2.2.2.1 t10.2.2.2.2.2.2.2.2.2.1 t10.2.2.2.2.2.2.2.2.2.2.1 t10.2.2.2.2.2.2.2.2.2.2.2.1 t10.2.2.2.2.2.2.2.2.2.2.2.2.1 t10.2.2.2.2.2.2.2.2.2.2.2.2.2)))))))
          (.last (.last (.call (dw.told x0 x1 x2 x3 x4 x5 x6 x7 x8 x9 x10 x11 x12) fun t8=> .last (.call (gY.told x13 x14 x15) fun t9=> .last (.call (dm.told t8.1 t8.2.1 t8.2.2.1 t8.2.2.2.1 t8.2.2.2.2.1 t8.2.2.2.2.2.1 t8.2.2.2.2.2.2.1 t8.2.2.2.2.2.2.2.1 t8.2.2.2.2.2.2.2.2.1 t8.2.2.2.2.2.2.2.2.2.1 t8.2.2.2.2.2.2.2.2.2.2.1 t8.2.2.2.2.2.2.2.2.2.2.2.1 t8.2.2.2.2.2.2.2.2.2.2.2.2 t9.1 t9.2.1 t9.2.2) fun t10=> .last (.jump (.EA x16 x17 x18 x19 x20 x21 x22 x23 x24 x25 x26 x27 x28 x29 t6.2.1 t6.2.2.1 t6.2.2.2.1 x46 x47 x48 x49 x50 x51 x52 x53 t6.2.2.2.2 x55 t6.1 t10.1 t10.2.1 t10.2.2.1 t10.2.2.2.1 t10.2.2.2.2.1 t10.2.2.2.2.2.1 t10.2.2.2.2.2.2.1 t10.2.2.2.2.2.2.2.1 t10.2.2.2.2.2.2.2.2.1 t10.2.2.2.2.2.2.2.2.2.1 t10.2.2.2.2.2.2.2.2.2.2.1 t10.2.2.2.2.2.2.2.2.2.2.2.1 t10.2.2.2.2.2.2.2.2.2.2.2.2.1 t10.2.2.2.2.2.2.2.2.2.2.2.2.2)))))))))))))))))
 | .EA x0 x1 x2 x3 x4 x5 x6 x7 x8 x9 x10 x11 x12 x13 x14 x15 x16 x17 x18 x19 x20 x21 x22 x23 x24 x25 x26 x27 x28 x29 x30 x31 x32 x33 x34 x35 x36 x37 x38 x39 x40 x41=>
 .call (eP.told x28 x29 x30 x31 x32 x33 x34 x35 x36 x37 x38 x39 x40 x0 x1 x2 x3 x4 x5 x6 x7 x8 x9 x10 x11 x12) fun t1=> .ite (!t1)
  (.ret false)
  (.ite (!decide (x41=x13))
   (.ret false)
   (.call (fV.told x14 x15 x16 x17 x18 x19 x20 x21 x22 x23 x24 x25 x26 (1:Int)) fun t2=> .ite (decide (t2<(0:Int)))
    (.ret false)
    (.ite (!decide (t2=x27))
     (.ret false)
     (.ret true))))
def f (a0:List gd) (a1 a2:List Int) (a3 a4 a5 a6 a7 a8 a9 a10:Int) (a11:List Int) (a12 a13 a14 a15:Int):Option A:=(begin a0 a1 a2 a3 a4 a5 a6 a7 a8 a9 a10 a11 a12 a13 a14 a15).run (lp tree)
def Q:bA C:={PL with cb:=[(7,[2,3,6,7,8,43,44,45,58,59,60,61,64,65,66,92,93,94]),(8,[2,3,6,7,8,9,10,43,44,45,58,59,60,61,64,65,66,92,93,94]),(25,[6,7,9,12,14,15,92,93,94])],ca:=[(5,[9],(.take 0 [2,8] (.take 2 [0,1,8] (.alt 1 (.alt 3 (.alt 4 (.take 5 [] (.take 6 [] (.take 7 [] (.alt 8 (.alt 9 (.take 10 [] .done) .nil) .nil)))) (.alt 8 (.alt 4 (.take 5 [] (.take 6 [] (.take 7 [] (.alt 9 (.take 10 [] .done) .nil)))) .nil) .nil)) (.alt 8 (.alt 3 (.alt 4 (.take 5 [] (.take 6 [] (.take 7 [] (.alt 9 (.take 10 [] .done) .nil)))) .nil) .nil) .nil)) (.alt 8 (.alt 1 (.alt 3 (.alt 4 (.take 5 [] (.take 6 [] (.take 7 [] (.alt 9 (.take 10 [] .done) .nil)))) .nil) .nil) .nil) .nil))))),(7,[8],(.take 0 [1,2,7] (.take 1 [0,7] (.alt 2 (.alt 3 (.take 4 [] (.take 5 [] (.take 6 [] (.alt 7 (.alt 8 (.take 9 [] .done) .nil) .nil)))) (.alt 7 (.alt 3 (.take 4 [] (.take 5 [] (.take 6 [] (.alt 8 (.take 9 [] .done) .nil)))) .nil) .nil)) (.alt 7 (.alt 2 (.alt 3 (.take 4 [] (.take 5 [] (.take 6 [] (.alt 8 (.take 9 [] .done) .nil)))) .nil) .nil) .nil))))),(10,[],(.take 0 [1,2] (.take 1 [0] (.alt 2 (.alt 3 (.take 4 [] .done) .nil) .nil)))),(24,[9],(.take 0 [2,8] (.take 2 [0,1,8] (.alt 1 (.alt 3 (.alt 4 (.take 5 [] (.take 6 [] (.take 7 [] (.alt 8 (.alt 9 (.take 10 [] .done) .nil) .nil)))) (.alt 8 (.alt 4 (.take 5 [] (.take 6 [] (.take 7 [] (.alt 9 (.take 10 [] .done) .nil)))) .nil) .nil)) (.alt 8 (.alt 3 (.alt 4 (.take 5 [] (.take 6 [] (.take 7 [] (.alt 9 (.take 10 [] .done) .nil)))) .nil) .nil) .nil)) (.alt 8 (.alt 1 (.alt 3 (.alt 4 (.take 5 [] (.take 6 [] (.take 7 [] (.alt 9 (.take 10 [] .done) .nil)))) .nil) .nil) .nil) .nil)))))],bV:=[]}
theorem e:aW Pg C Q Tryz.f5 0 id st v o tree:=fun J K x=>by cases x<;>kernel_rfl
theorem b (a0:List gd) (a1 a2:List Int) (a3 a4 a5 a6 a7 a8 a9 a10:Int) (a11:List Int) (a12 a13 a14 a15:Int):aX Pg C Q Tryz.f5 0 id st v o (S a0 a1 a2 a3 a4 a5 a6 a7 a8 a9 a10 a11 a12 a13 a14 a15) (begin a0 a1 a2 a3 a4 a5 a6 a7 a8 a9 a10 a11 a12 a13 a14 a15):=fun J K=>by kernel_rfl
def told (a0:List gd) (a1 a2:List Int) (a3 a4 a5 a6 a7 a8 a9 a10:Int) (a11:List Int) (a12 a13 a14 a15:Int):aa.Told A:=⟨f a0 a1 a2 a3 a4 a5 a6 a7 a8 a9 a10 a11 a12 a13 a14 a15,fun r=>al Pg C 5 (S a0 a1 a2 a3 a4 a5 a6 a7 a8 a9 a10 a11 a12 a13 a14 a15) 0 (v r) (o r),fun r h=>ah G mixed Q Tryz.func5 rfl (of_decide_eq_true (by kernel_rfl)) (by rfl) id st v o (fun _=>rfl) tree e (begin a0 a1 a2 a3 a4 a5 a6 a7 a8 a9 a10 a11 a12 a13 a14 a15) (b a0 a1 a2 a3 a4 a5 a6 a7 a8 a9 a10 a11 a12 a13 a14 a15) h⟩
end eX
namespace iP
def S (a0:List kR) (a1:Int):List (PV U):=aa.start C 12 [.sl 64 a0,.int .i64 a1] []
abbrev X:=Empty
def id:X→Nat:=fun _=>0
def st:X→List (PV U):=fun _=>[]
def begin (a0:List kR) (a1:Int):Tr X A:=
 .ite (decide ((wr (a1-(List.length a0:Int)))<(0:Int)))
  (.ret ((-1:Int)))
  (.ret ((wr (a1-(List.length a0:Int)))))
def tree:X→Tr X A:=fun _=> .fail
def f (a0:List kR) (a1:Int):Option A:=(begin a0 a1).run (lp tree)
def Q:bA C:={PL with cb:=[],ca:=[],bV:=[]}
theorem e:aW Pg C Q Tryz.f26 0 id st v o tree:=fun J K x=>by cases x
theorem b (a0:List kR) (a1:Int):aX Pg C Q Tryz.f26 0 id st v o (S a0 a1) (begin a0 a1):=fun J K=>by kernel_rfl
def told (a0:List kR) (a1:Int):aa.Told A:=⟨f a0 a1,fun r=>al Pg C 26 (S a0 a1) 0 (v r) (o r),fun r h=>ah G mixed Q Tryz.func26 rfl (of_decide_eq_true (by kernel_rfl)) (by rfl) id st v o (fun _=>rfl) tree e (begin a0 a1) (b a0 a1) h⟩
end iP
namespace fj
def S (a0:List kR):List (PV U):=aa.start C 23 [.sl 64 a0] []
inductive X where
 | c3 (x0 x1:List kR) (x2:Int)
def id:X→Nat
 | .c3 .. =>3
def st:X→List (PV U)
 | .c3 x0 x1 x2=>iC 23 [(0,.sl 64 x0),(3,.own true 67 x1),(4,.int .i64 x2)]
def begin (a0:List kR):Tr X A:=
 .bH ((0:Int)≤(List.length a0:Int)∧(List.length a0:Int)≤(List.length a0:Int)∧(List.length a0:Int)*(24:Nat)≤room) (.jump (.c3 a0 (List.replicate (Int.toNat (List.length a0:Int)) z63) (0:Int)))
def tree:X→Tr X A
 | .c3 x0 x1 x2=>
 .ite (decide (x2<(List.length x0:Int)))
  (.bH ((0:Int)≤x2∧x2<(List.length x0:Int)) (.call (gY.told ((l8 x0 x2).f0) ((l8 x0 x2).f1) ((l8 x0 x2).f2)) fun t1=> .bH ((0:Int)≤x2∧x2<(List.length x1:Int)) (.jump (.c3 x0 (List.set x1 (Int.toNat x2) (⟨t1.1,t1.2.1,t1.2.2⟩:kR)) (wr (x2+(1:Int)))))))
  (.ret x1)
def f (a0:List kR):Option A:=(begin a0).run (lp tree)
def Q:bA C:={PL with cb:=[(3,[0,3,4])],ca:=[],bV:=[]}
theorem e:aW Pg C Q Tryz.f28 0 id st v o tree:=fun J K x=>by cases x<;>kernel_rfl
theorem b (a0:List kR):aX Pg C Q Tryz.f28 0 id st v o (S a0) (begin a0):=fun J K=>by kernel_rfl
def told (a0:List kR):aa.Told A:=⟨f a0,fun r=>al Pg C 28 (S a0) 0 (v r) (o r),fun r h=>ah G mixed Q Tryz.func28 rfl (of_decide_eq_true (by kernel_rfl)) (by rfl) id st v o (fun _=>rfl) tree e (begin a0) (b a0) h⟩
end fj
namespace dE
def S (a0:List aC) (a1 a2:List Int) (a3 a4 a5 a6 a7 a8 a9 a10:Int) (a11:List Int) (a12:Int) (a13:List kR):List (PV U):=aa.start C 46 [.agg [.sl 164 a0,.sl 3 a1,.sl 3 a2,.int .i64 a3,.int .i64 a4,.int .i64 a5,.int .i64 a6,.int .i64 a7,.int .i64 a8,.int .i64 a9,.int .i64 a10,.sl 3 a11,.int .i64 a12],.sl 67 a13] []
inductive X where
 | c6 (x0:List kR) (x1:List aC) (x2 x3:List Int) (x4 x5 x6 x7 x8 x9 x10 x11:Int) (x12:List Int) (x13:Int) (x14:List aC) (x15 x16:List Int) (x17 x18 x19 x20 x21 x22 x23 x24:Int) (x25:List Int) (x26:Int) (x27:List Int) (x28:Int)
def id:X→Nat
 | .c6 .. =>6
def st:X→List (PV U)
 | .c6 x0 x1 x2 x3 x4 x5 x6 x7 x8 x9 x10 x11 x12 x13 x14 x15 x16 x17 x18 x19 x20 x21 x22 x23 x24 x25 x26 x27 x28=>iC 46 [(1,.sl 67 x0),(4,.box [.own true 164 x1,.own true 3 x2,.own true 3 x3,.int .i64 x4,.int .i64 x5,.int .i64 x6,.int .i64 x7,.int .i64 x8,.int .i64 x9,.int .i64 x10,.int .i64 x11,.own true 3 x12,.int .i64 x13]),(6,.box [.own true 164 x14,.own true 3 x15,.own true 3 x16,.int .i64 x17,.int .i64 x18,.int .i64 x19,.int .i64 x20,.int .i64 x21,.int .i64 x22,.int .i64 x23,.int .i64 x24,.own true 3 x25,.int .i64 x26]),(7,.own true 3 x27),(8,.int .i64 x28)]
def begin (a0:List aC) (a1 a2:List Int) (a3 a4 a5 a6 a7 a8 a9 a10:Int) (a11:List Int) (a12:Int) (a13:List kR):Tr X A:=
 .call (aS.told a0 a1 a2 a3 a4 a5 a6 a7 a8 a9 a10 a11 a12) fun t1=> .call (bk.told a0 a1 a2 a3 a4 a5 a6 a7 a8 a9 a10 a11 a12) fun t2=>let u2_0:Tr X A:=(.ret (t1.1,t1.2.1,t1.2.2.1,t1.2.2.2.1,t1.2.2.2.2.1,t1.2.2.2.2.2.1,t1.2.2.2.2.2.2.1,t1.2.2.2.2.2.2.2.1,t1.2.2.2.2.2.2.2.2.1,t1.2.2.2.2.2.2.2.2.2.1,t1.2.2.2.2.2.2.2.2.2.2.1,t1.2.2.2.2.2.2.2.2.2.2.2.1,t1.2.2.2.2.2.2.2.2.2.2.2.2,([]:List Int))); .ite (!t2)
  (u2_0)
  (.ite (decide ((List.length a13:Int)>(30:Int)))
   (u2_0)
   (.jump (.c6 a13 ([]:List aC) ([]:List Int) ([]:List Int) (0:Int) (0:Int) (0:Int) (0:Int) (0:Int) (0:Int) (0:Int) (0:Int) ([]:List Int) (0:Int) t1.1 t1.2.1 t1.2.2.1 t1.2.2.2.1 t1.2.2.2.2.1 t1.2.2.2.2.2.1 t1.2.2.2.2.2.2.1 t1.2.2.2.2.2.2.2.1 t1.2.2.2.2.2.2.2.2.1 t1.2.2.2.2.2.2.2.2.2.1 t1.2.2.2.2.2.2.2.2.2.2.1 t1.2.2.2.2.2.2.2.2.2.2.2.1 t1.2.2.2.2.2.2.2.2.2.2.2.2 ([]:List Int) (0:Int))))
def tree:X→Tr X A
 | .c6 x0 x1 x2 x3 x4 x5 x6 x7 x8 x9 x10 x11 x12 x13 x14 x15 x16 x17 x18 x19 x20 x21 x22 x23 x24 x25 x26 x27 x28=>
 .ite (decide (x28<(List.length x0:Int)))
  (.bH ((0:Int)≤x28∧x28<(List.length x0:Int)) (.both (.call (bf.told x14 x15 x16 x17 x18 x19 x20 x21 x22 x23 x24 x25 x26 ((l8 x0 x28).f0) ((l8 x0 x28).f1) ((l8 x0 x28).f2)) fun t1=> .last (.last (.bH (((List.length x27:Int)+(List.length ([t1.2.2.2.2.2.2.2.2.2.2.2.2.2]):Int))*(8:Nat)≤room) (.jump (.c6 x0 x1 x2 x3 x4 x5 x6 x7 x8 x9 x10 x11 x12 x13 t1.1 t1.2.1 t1.2.2.1 t1.2.2.2.1 t1.2.2.2.2.1 t1.2.2.2.2.2.1 t1.2.2.2.2.2.2.1 t1.2.2.2.2.2.2.2.1 t1.2.2.2.2.2.2.2.2.1 t1.2.2.2.2.2.2.2.2.2.1 t1.2.2.2.2.2.2.2.2.2.2.1 t1.2.2.2.2.2.2.2.2.2.2.2.1 t1.2.2.2.2.2.2.2.2.2.2.2.2.1 (x27++[t1.2.2.2.2.2.2.2.2.2.2.2.2.2]) (wr (x28+(1:Int))))))))
   (.last (.last (.call (bf.told x14 x15 x16 x17 x18 x19 x20 x21 x22 x23 x24 x25 x26 ((l8 x0 x28).f0) ((l8 x0 x28).f1) ((l8 x0 x28).f2)) fun t1=> .last (.bH (((List.length x27:Int)+(List.length ([t1.2.2.2.2.2.2.2.2.2.2.2.2.2]):Int))*(8:Nat)≤room) (.jump (.c6 x0 x1 x2 x3 x4 x5 x6 x7 x8 x9 x10 x11 x12 x13 t1.1 t1.2.1 t1.2.2.1 t1.2.2.2.1 t1.2.2.2.2.1 t1.2.2.2.2.2.1 t1.2.2.2.2.2.2.1 t1.2.2.2.2.2.2.2.1 t1.2.2.2.2.2.2.2.2.1 t1.2.2.2.2.2.2.2.2.2.1 t1.2.2.2.2.2.2.2.2.2.2.1 t1.2.2.2.2.2.2.2.2.2.2.2.1 t1.2.2.2.2.2.2.2.2.2.2.2.2.1 (x27++[t1.2.2.2.2.2.2.2.2.2.2.2.2.2]) (wr (x28+(1:Int)))))))))))
  (.ret (x14,x15,x16,x17,x18,x19,x20,x21,x22,x23,x24,x25,x26,x27))
def f (a0:List aC) (a1 a2:List Int) (a3 a4 a5 a6 a7 a8 a9 a10:Int) (a11:List Int) (a12:Int) (a13:List kR):Option A:=(begin a0 a1 a2 a3 a4 a5 a6 a7 a8 a9 a10 a11 a12 a13).run (lp tree)
def Q:bA C:={PL with cb:=[(6,[1,4,6,7,8])],ca:=[(8,[10],(.take 1 [] (.take 2 [] (.take 3 [] (.take 0 [1,2,3,4,9] (.take 4 [0,1,2,3,9] (.alt 5 (.take 6 [] (.take 7 [] (.take 8 [] (.alt 9 (.alt 10 (.take 11 [] .done) .nil) .nil)))) (.alt 9 (.alt 5 (.take 6 [] (.take 7 [] (.take 8 [] (.alt 10 (.take 11 [] .done) .nil)))) .nil) .nil))))))))],bV:=[]}
theorem e:aW Pg C Q Tryz.f27 0 id st v o tree:=fun J K x=>by cases x<;>kernel_rfl
theorem b (a0:List aC) (a1 a2:List Int) (a3 a4 a5 a6 a7 a8 a9 a10:Int) (a11:List Int) (a12:Int) (a13:List kR):aX Pg C Q Tryz.f27 0 id st v o (S a0 a1 a2 a3 a4 a5 a6 a7 a8 a9 a10 a11 a12 a13) (begin a0 a1 a2 a3 a4 a5 a6 a7 a8 a9 a10 a11 a12 a13):=fun J K=>by kernel_rfl
def told (a0:List aC) (a1 a2:List Int) (a3 a4 a5 a6 a7 a8 a9 a10:Int) (a11:List Int) (a12:Int) (a13:List kR):aa.Told A:=⟨f a0 a1 a2 a3 a4 a5 a6 a7 a8 a9 a10 a11 a12 a13,fun r=>al Pg C 27 (S a0 a1 a2 a3 a4 a5 a6 a7 a8 a9 a10 a11 a12 a13) 0 (v r) (o r),fun r h=>ah G mixed Q Tryz.func27 rfl (of_decide_eq_true (by kernel_rfl)) (by rfl) id st v o (fun _=>rfl) tree e (begin a0 a1 a2 a3 a4 a5 a6 a7 a8 a9 a10 a11 a12 a13) (b a0 a1 a2 a3 a4 a5 a6 a7 a8 a9 a10 a11 a12 a13) h⟩
end dE
namespace dj
def S (a0:List aC) (a1 a2:List Int) (a3 a4 a5 a6 a7 a8 a9 a10:Int) (a11:List Int) (a12:Int) (a13:List kR):List (PV U):=aa.start C 44 [.agg [.sl 164 a0,.sl 3 a1,.sl 3 a2,.int .i64 a3,.int .i64 a4,.int .i64 a5,.int .i64 a6,.int .i64 a7,.int .i64 a8,.int .i64 a9,.int .i64 a10,.sl 3 a11,.int .i64 a12],.sl 67 a13] []
inductive X where
 | c6 (x0:List aC) (x1 x2:List Int) (x3 x4 x5 x6 x7 x8 x9 x10:Int) (x11:List Int) (x12:Int) (x13:List aC) (x14 x15:List Int) (x16 x17 x18 x19 x20 x21 x22 x23:Int) (x24:List Int) (x25:Int) (x26:List Int) (x27:List kR) (x28 x29:Int)
def id:X→Nat
 | .c6 .. =>6
def st:X→List (PV U)
 | .c6 x0 x1 x2 x3 x4 x5 x6 x7 x8 x9 x10 x11 x12 x13 x14 x15 x16 x17 x18 x19 x20 x21 x22 x23 x24 x25 x26 x27 x28 x29=>iC 44 [(4,.box [.own true 164 x0,.own true 3 x1,.own true 3 x2,.int .i64 x3,.int .i64 x4,.int .i64 x5,.int .i64 x6,.int .i64 x7,.int .i64 x8,.int .i64 x9,.int .i64 x10,.own true 3 x11,.int .i64 x12]),(6,.box [.own true 164 x13,.own true 3 x14,.own true 3 x15,.int .i64 x16,.int .i64 x17,.int .i64 x18,.int .i64 x19,.int .i64 x20,.int .i64 x21,.int .i64 x22,.int .i64 x23,.own true 3 x24,.int .i64 x25]),(7,.own true 3 x26),(24,.sl 67 x27),(25,.int .i64 x28),(26,.int .i64 x29)]
def begin (a0:List aC) (a1 a2:List Int) (a3 a4 a5 a6 a7 a8 a9 a10:Int) (a11:List Int) (a12:Int) (a13:List kR):Tr X A:=
 .call (bh.told a0 a1 a2 a3 a4 a5 a6 a7 a8 a9 a10 a11 a12) fun t1=> .call (bF.told a0 a1 a2 a3 a4 a5 a6 a7 a8 a9 a10 a11 a12) fun t2=>let u2_0:Tr X A:=(.ret (t1.1,t1.2.1,t1.2.2.1,t1.2.2.2.1,t1.2.2.2.2.1,t1.2.2.2.2.2.1,t1.2.2.2.2.2.2.1,t1.2.2.2.2.2.2.2.1,t1.2.2.2.2.2.2.2.2.1,t1.2.2.2.2.2.2.2.2.2.1,t1.2.2.2.2.2.2.2.2.2.2.1,t1.2.2.2.2.2.2.2.2.2.2.2.1,t1.2.2.2.2.2.2.2.2.2.2.2.2,([]:List Int))); .ite (!t2)
  (u2_0)
  (.ite (decide ((List.length a13:Int)>(30:Int)))
   (u2_0)
   (.jump (.c6 ([]:List aC) ([]:List Int) ([]:List Int) (0:Int) (0:Int) (0:Int) (0:Int) (0:Int) (0:Int) (0:Int) (0:Int) ([]:List Int) (0:Int) t1.1 t1.2.1 t1.2.2.1 t1.2.2.2.1 t1.2.2.2.2.1 t1.2.2.2.2.2.1 t1.2.2.2.2.2.2.1 t1.2.2.2.2.2.2.2.1 t1.2.2.2.2.2.2.2.2.1 t1.2.2.2.2.2.2.2.2.2.1 t1.2.2.2.2.2.2.2.2.2.2.1 t1.2.2.2.2.2.2.2.2.2.2.2.1 t1.2.2.2.2.2.2.2.2.2.2.2.2 ([]:List Int) a13 (List.length a13:Int) (0:Int))))
def tree:X→Tr X A
 | .c6 x0 x1 x2 x3 x4 x5 x6 x7 x8 x9 x10 x11 x12 x13 x14 x15 x16 x17 x18 x19 x20 x21 x22 x23 x24 x25 x26 x27 x28 x29=>
 .ite (decide (x29<x28))
  (.bH ((0:Int)≤x29∧x29<(List.length x27:Int)) (.call (dm.told x13 x14 x15 x16 x17 x18 x19 x20 x21 x22 x23 x24 x25 ((l8 x27 x29).f0) ((l8 x27 x29).f1) ((l8 x27 x29).f2)) fun t1=> .bH (((List.length x26:Int)+(List.length ([t1.2.2.2.2.2.2.2.2.2.2.2.2.2]):Int))*(8:Nat)≤room) (.jump (.c6 x0 x1 x2 x3 x4 x5 x6 x7 x8 x9 x10 x11 x12 t1.1 t1.2.1 t1.2.2.1 t1.2.2.2.1 t1.2.2.2.2.1 t1.2.2.2.2.2.1 t1.2.2.2.2.2.2.1 t1.2.2.2.2.2.2.2.1 t1.2.2.2.2.2.2.2.2.1 t1.2.2.2.2.2.2.2.2.2.1 t1.2.2.2.2.2.2.2.2.2.2.1 t1.2.2.2.2.2.2.2.2.2.2.2.1 t1.2.2.2.2.2.2.2.2.2.2.2.2.1 (x26++[t1.2.2.2.2.2.2.2.2.2.2.2.2.2]) x27 x28 (wr (x29+(1:Int)))))))
  (.ret (x13,x14,x15,x16,x17,x18,x19,x20,x21,x22,x23,x24,x25,x26))
def f (a0:List aC) (a1 a2:List Int) (a3 a4 a5 a6 a7 a8 a9 a10:Int) (a11:List Int) (a12:Int) (a13:List kR):Option A:=(begin a0 a1 a2 a3 a4 a5 a6 a7 a8 a9 a10 a11 a12 a13).run (lp tree)
def Q:bA C:={PL with cb:=[(6,[4,6,7,24,25,26])],ca:=[],bV:=[]}
theorem e:aW Pg C Q Tryz.f29 0 id st v o tree:=fun J K x=>by cases x<;>kernel_rfl
theorem b (a0:List aC) (a1 a2:List Int) (a3 a4 a5 a6 a7 a8 a9 a10:Int) (a11:List Int) (a12:Int) (a13:List kR):aX Pg C Q Tryz.f29 0 id st v o (S a0 a1 a2 a3 a4 a5 a6 a7 a8 a9 a10 a11 a12 a13) (begin a0 a1 a2 a3 a4 a5 a6 a7 a8 a9 a10 a11 a12 a13):=fun J K=>by kernel_rfl
def told (a0:List aC) (a1 a2:List Int) (a3 a4 a5 a6 a7 a8 a9 a10:Int) (a11:List Int) (a12:Int) (a13:List kR):aa.Told A:=⟨f a0 a1 a2 a3 a4 a5 a6 a7 a8 a9 a10 a11 a12 a13,fun r=>al Pg C 29 (S a0 a1 a2 a3 a4 a5 a6 a7 a8 a9 a10 a11 a12 a13) 0 (v r) (o r),fun r h=>ah G mixed Q Tryz.func29 rfl (of_decide_eq_true (by kernel_rfl)) (by rfl) id st v o (fun _=>rfl) tree e (begin a0 a1 a2 a3 a4 a5 a6 a7 a8 a9 a10 a11 a12 a13) (b a0 a1 a2 a3 a4 a5 a6 a7 a8 a9 a10 a11 a12 a13) h⟩
end dj
namespace jt
def S (a0 a1 a2 a3 a4 a5:Int):List (PV U):=aa.start C 20 [.agg [.int .i64 a0,.int .i64 a1,.int .i64 a2],.agg [.int .i64 a3,.int .i64 a4,.int .i64 a5]] []
abbrev X:=Empty
def id:X→Nat:=fun _=>0
def st:X→List (PV U):=fun _=>[]
def begin (a0 a1 a2 a3 a4 a5:Int):Tr X A:=
 .ite (!decide (a0=a3))
  (.ret false)
  (.ite (!decide (a1=a4))
   (.ret false)
   (.ite (!decide (a2=a5))
    (.ret false)
    (.ret true)))
def tree:X→Tr X A:=fun _=> .fail
def f (a0 a1 a2 a3 a4 a5:Int):Option A:=(begin a0 a1 a2 a3 a4 a5).run (lp tree)
def Q:bA C:={PL with cb:=[],ca:=[],bV:=[]}
theorem e:aW Pg C Q Tryz.f84 0 id st v o tree:=fun J K x=>by cases x
theorem b (a0 a1 a2 a3 a4 a5:Int):aX Pg C Q Tryz.f84 0 id st v o (S a0 a1 a2 a3 a4 a5) (begin a0 a1 a2 a3 a4 a5):=fun J K=>by kernel_rfl
def told (a0 a1 a2 a3 a4 a5:Int):aa.Told A:=⟨f a0 a1 a2 a3 a4 a5,fun r=>al Pg C 84 (S a0 a1 a2 a3 a4 a5) 0 (v r) (o r),fun r h=>ah G mixed Q Tryz.func84 rfl (of_decide_eq_true (by kernel_rfl)) (by rfl) id st v o (fun _=>rfl) tree e (begin a0 a1 a2 a3 a4 a5) (b a0 a1 a2 a3 a4 a5) h⟩
end jt
namespace gB
def S (a0 a1:List kR):List (PV U):=aa.start C 27 [.sl 67 a0,.sl 67 a1] []
inductive X where
 | c4 (x0 x1:List kR) (x2:Int)
def id:X→Nat
 | .c4 .. =>4
def st:X→List (PV U)
 | .c4 x0 x1 x2=>iC 27 [(0,.sl 67 x0),(1,.sl 67 x1),(5,.int .i64 x2)]
def begin (a0 a1:List kR):Tr X A:=
 .ite (!decide ((List.length a0:Int)=(List.length a1:Int)))
  (.ret false)
  (.jump (.c4 a0 a1 (0:Int)))
def tree:X→Tr X A
 | .c4 x0 x1 x2=>
 .ite (decide (x2<(List.length x0:Int)))
  (.bH ((0:Int)≤x2∧x2<(List.length x0:Int)) (.bH ((0:Int)≤x2∧x2<(List.length x1:Int)) (.last (.call (jt.told ((l8 x0 x2).f0) ((l8 x0 x2).f1) ((l8 x0 x2).f2) ((l8 x1 x2).f0) ((l8 x1 x2).f1) ((l8 x1 x2).f2)) fun t1=> .ite (!t1)
   (.ret false)
   (.jump (.c4 x0 x1 (wr (x2+(1:Int)))))))))
  (.ret true)
def f (a0 a1:List kR):Option A:=(begin a0 a1).run (lp tree)
def Q:bA C:={PL with cb:=[(4,[0,1,5])],ca:=[(6,[],(.take 0 [] (.take 1 [] (.take 2 [] (.take 4 [] (.take 5 [] (.take 6 [] (.take 3 [0,1,2,4,5,6,7] (.take 7 [0,1,2,3,4,5,6] (.alt 8 (.take 9 [] .done) .nil))))))))))],bV:=[]}
theorem e:aW Pg C Q Tryz.f31 0 id st v o tree:=fun J K x=>by cases x<;>kernel_rfl
theorem b (a0 a1:List kR):aX Pg C Q Tryz.f31 0 id st v o (S a0 a1) (begin a0 a1):=fun J K=>by kernel_rfl
def told (a0 a1:List kR):aa.Told A:=⟨f a0 a1,fun r=>al Pg C 31 (S a0 a1) 0 (v r) (o r),fun r h=>ah G mixed Q Tryz.func31 rfl (of_decide_eq_true (by kernel_rfl)) (by rfl) id st v o (fun _=>rfl) tree e (begin a0 a1) (b a0 a1) h⟩
end gB
namespace iE
def S (a0:Int) (a1:List kR):List (PV U):=aa.start C 34 [.nj (34,[]),.int .i64 a0] [.own true 67 a1]
inductive X where
 | c2 (x0 x1:Int) (x2:List kR)
def id:X→Nat
 | .c2 .. =>2
def st:X→List (PV U)
 | .c2 x0 x1 x2=>iC 35 [(0,.nj (34,[])),(1,.int .i64 x0),(5,.int .i64 x1),(34,.own true 67 x2)]
def begin (a0:Int) (a1:List kR):Tr X A:=
 .jump (.c2 a0 (0:Int) a1)
def tree:X→Tr X A
 | .c2 x0 x1 x2=>
 .ite (decide (x1<(List.length x2:Int)))
  (.bH ((0:Int)≤x1∧x1<(List.length x2:Int)) (.bH ((0:Int)≤x1∧x1<(List.length (List.set x2 (Int.toNat x1) (⟨x0,(l8 x2 x1).f1,(l8 x2 x1).f2⟩:kR)):Int)) (.val ((List.set (List.set x2 (Int.toNat x1) (⟨x0,(l8 x2 x1).f1,(l8 x2 x1).f2⟩:kR)) (Int.toNat x1) (⟨(l8 (List.set x2 (Int.toNat x1) (⟨x0,(l8 x2 x1).f1,(l8 x2 x1).f2⟩:kR)) x1).f0,(wr (x0+(1:Int))),(l8 (List.set x2 (Int.toNat x1) (⟨x0,(l8 x2 x1).f1,(l8 x2 x1).f2⟩:kR)) x1).f2⟩:kR)):List kR) fun v1=> .bH ((0:Int)≤x1∧x1<(List.length v1:Int)) (.val ((List.set v1 (Int.toNat x1) (⟨(l8 v1 x1).f0,(l8 v1 x1).f1,(wr ((wr (x0+(1:Int)))+(1:Int)))⟩:kR)):List kR) fun v2=> .jump (.c2 (wr ((wr ((wr (x0+(1:Int)))+(1:Int)))+(1:Int))) (wr (x1+(1:Int))) v2)))))
  (.ret (x0,x2))
def f (a0:Int) (a1:List kR):Option A:=(begin a0 a1).run (lp tree)
def Q:bA C:={PL with cb:=[(2,[0,1,5,34])],ca:=[],bV:=[]}
theorem e:aW Pg C Q Tryz.f32 1 id st v o tree:=fun J K x=>by cases x<;>kernel_rfl
theorem b (a0:Int) (a1:List kR):aX Pg C Q Tryz.f32 1 id st v o (S a0 a1) (begin a0 a1):=fun J K=>by kernel_rfl
def told (a0:Int) (a1:List kR):aa.Told A:=⟨f a0 a1,fun r=>al Pg C 32 (S a0 a1) 1 (v r) (o r),fun r h=>ah G mixed Q Tryz.func32 rfl (of_decide_eq_true (by kernel_rfl)) (by rfl) id st v o (fun _=>rfl) tree e (begin a0 a1) (b a0 a1) h⟩
end iE
namespace fA
def S (a0:List gd) (a1 a2:List Int) (a3 a4 a5 a6 a7 a8 a9 a10:Int) (a11:List Int) (a12:Int) (a13:List kR):List (PV U):=aa.start C 135 [.agg [.sl 191 a0,.sl 3 a1,.sl 3 a2,.int .i64 a3,.int .i64 a4,.int .i64 a5,.int .i64 a6,.int .i64 a7,.int .i64 a8,.int .i64 a9,.int .i64 a10,.sl 3 a11,.int .i64 a12],.sl 64 a13] []
abbrev X:=Empty
def id:X→Nat:=fun _=>0
def st:X→List (PV U):=fun _=>[]
def begin (a0:List gd) (a1 a2:List Int) (a3 a4 a5 a6 a7 a8 a9 a10:Int) (a11:List Int) (a12:Int) (a13:List kR):Tr X A:=
 .call (gW.told a0 a1 a2 a3 a4 a5 a6 a7 a8 a9 a10 a11 a12 (1048576:Int)) fun t1=> .ite (decide (t1<(0:Int)))
  (.ret true)
  (.call (iP.told a13 t1) fun t2=> .ite (decide (t2<(0:Int)))
   (.ret true)
   (.call (dw.told a0 a1 a2 a3 a4 a5 a6 a7 a8 a9 a10 a11 a12) fun t3=> .call (fj.told a13) fun t4=> .call (dE.told t3.1 t3.2.1 t3.2.2.1 t3.2.2.2.1 t3.2.2.2.2.1 t3.2.2.2.2.2.1 t3.2.2.2.2.2.2.1 t3.2.2.2.2.2.2.2.1 t3.2.2.2.2.2.2.2.2.1 t3.2.2.2.2.2.2.2.2.2.1 t3.2.2.2.2.2.2.2.2.2.2.1 t3.2.2.2.2.2.2.2.2.2.2.2.1 t3.2.2.2.2.2.2.2.2.2.2.2.2 t4) fun t5=> .call (dw.told a0 a1 a2 a3 a4 a5 a6 a7 a8 a9 a10 a11 a12) fun t6=> .call (fj.told a13) fun t7=> .call (dj.told t6.1 t6.2.1 t6.2.2.1 t6.2.2.2.1 t6.2.2.2.2.1 t6.2.2.2.2.2.1 t6.2.2.2.2.2.2.1 t6.2.2.2.2.2.2.2.1 t6.2.2.2.2.2.2.2.2.1 t6.2.2.2.2.2.2.2.2.2.1 t6.2.2.2.2.2.2.2.2.2.2.1 t6.2.2.2.2.2.2.2.2.2.2.2.1 t6.2.2.2.2.2.2.2.2.2.2.2.2 t7) fun t8=> .call (eP.told t8.1 t8.2.1 t8.2.2.1 t8.2.2.2.1 t8.2.2.2.2.1 t8.2.2.2.2.2.1 t8.2.2.2.2.2.2.1 t8.2.2.2.2.2.2.2.1 t8.2.2.2.2.2.2.2.2.1 t8.2.2.2.2.2.2.2.2.2.1 t8.2.2.2.2.2.2.2.2.2.2.1 t8.2.2.2.2.2.2.2.2.2.2.2.1 t8.2.2.2.2.2.2.2.2.2.2.2.2.1 t5.1 t5.2.1 t5.2.2.1 t5.2.2.2.1 t5.2.2.2.2.1 t5.2.2.2.2.2.1 t5.2.2.2.2.2.2.1 t5.2.2.2.2.2.2.2.1 t5.2.2.2.2.2.2.2.2.1 t5.2.2.2.2.2.2.2.2.2.1 t5.2.2.2.2.2.2.2.2.2.2.1 t5.2.2.2.2.2.2.2.2.2.2.2.1 t5.2.2.2.2.2.2.2.2.2.2.2.2.1) fun t9=> .ite (!t9)
    (.ret false)
    (.call (cZ.told t8.2.2.2.2.2.2.2.2.2.2.2.2.2 t5.2.2.2.2.2.2.2.2.2.2.2.2.2) fun t10=> .ite (!t10)
     (.ret false)
     (.last (.call (dw.told a0 a1 a2 a3 a4 a5 a6 a7 a8 a9 a10 a11 a12) fun t11=> .last (.call (eP.told t6.1 t6.2.1 t6.2.2.1 t6.2.2.2.1 t6.2.2.2.2.1 t6.2.2.2.2.2.1 t6.2.2.2.2.2.2.1 t6.2.2.2.2.2.2.2.1 t6.2.2.2.2.2.2.2.2.1 t6.2.2.2.2.2.2.2.2.2.1 t6.2.2.2.2.2.2.2.2.2.2.1 t6.2.2.2.2.2.2.2.2.2.2.2.1 t6.2.2.2.2.2.2.2.2.2.2.2.2 t11.1 t11.2.1 t11.2.2.1 t11.2.2.2.1 t11.2.2.2.2.1 t11.2.2.2.2.2.1 t11.2.2.2.2.2.2.1 t11.2.2.2.2.2.2.2.1 t11.2.2.2.2.2.2.2.2.1 t11.2.2.2.2.2.2.2.2.2.1 t11.2.2.2.2.2.2.2.2.2.2.1 t11.2.2.2.2.2.2.2.2.2.2.2.1 t11.2.2.2.2.2.2.2.2.2.2.2.2) fun t12=> .ite (!t12)
      (.ret false)
      (.call (fj.told a13) fun t13=> .call (gB.told t7 t13) fun t14=> .ite (!t14)
       (.ret false)
       (.call (gk.told t6.2.2.2.1 t6.2.2.2.2.1 t6.2.2.2.2.2.1 t6.2.2.2.2.2.2.1 t6.2.2.2.2.2.2.2.1 t6.2.2.2.2.2.2.2.2.1 t6.2.2.2.2.2.2.2.2.2.1 t6.2.2.2.2.2.2.2.2.2.2.1 t6.2.2.2.2.2.2.2.2.2.2.2.2 (1:Int) t6.1 t6.2.1 t6.2.2.1 t6.2.2.2.2.2.2.2.2.2.2.2.1) fun t15=> .call (iE.told t15.1 t7) fun t16=> .ite (decide (t16.1<(0:Int)))
        (.ret false)
        (.call (eP.told t8.1 t8.2.1 t8.2.2.1 t8.2.2.2.1 t8.2.2.2.2.1 t8.2.2.2.2.2.1 t8.2.2.2.2.2.2.1 t8.2.2.2.2.2.2.2.1 t8.2.2.2.2.2.2.2.2.1 t8.2.2.2.2.2.2.2.2.2.1 t8.2.2.2.2.2.2.2.2.2.2.1 t8.2.2.2.2.2.2.2.2.2.2.2.1 t8.2.2.2.2.2.2.2.2.2.2.2.2.1 t5.1 t5.2.1 t5.2.2.1 t5.2.2.2.1 t5.2.2.2.2.1 t5.2.2.2.2.2.1 t5.2.2.2.2.2.2.1 t5.2.2.2.2.2.2.2.1 t5.2.2.2.2.2.2.2.2.1 t5.2.2.2.2.2.2.2.2.2.1 t5.2.2.2.2.2.2.2.2.2.2.1 t5.2.2.2.2.2.2.2.2.2.2.2.1 t5.2.2.2.2.2.2.2.2.2.2.2.2.1) fun t17=> .ite (!t17)
         (.ret false)
         (.call (cZ.told t8.2.2.2.2.2.2.2.2.2.2.2.2.2 t5.2.2.2.2.2.2.2.2.2.2.2.2.2) fun t18=> .ite (!t18)
          (.ret false)
          (.call (gk.told t8.2.2.2.1 t8.2.2.2.2.1 t8.2.2.2.2.2.1 t8.2.2.2.2.2.2.1 t8.2.2.2.2.2.2.2.1 t8.2.2.2.2.2.2.2.2.1 t8.2.2.2.2.2.2.2.2.2.1 t8.2.2.2.2.2.2.2.2.2.2.1 t8.2.2.2.2.2.2.2.2.2.2.2.2.1 (1:Int) t8.1 t8.2.1 t8.2.2.1 t8.2.2.2.2.2.2.2.2.2.2.2.1) fun t19=> .call (dZ.told t19.1 t8.2.2.2.2.2.2.2.2.2.2.2.2.2) fun t20=> .call (fV.told t19.2.1 t19.2.2.1 t19.2.2.2.1 t8.2.2.2.1 t8.2.2.2.2.1 t8.2.2.2.2.2.1 t8.2.2.2.2.2.2.1 t8.2.2.2.2.2.2.2.1 t8.2.2.2.2.2.2.2.2.1 t8.2.2.2.2.2.2.2.2.2.1 t8.2.2.2.2.2.2.2.2.2.2.1 t19.2.2.2.2 t8.2.2.2.2.2.2.2.2.2.2.2.2.1 (1:Int)) fun t21=> .ite (decide (t21<(0:Int)))
           (.ret false)
           (.call (dG.told t20.2 t21) fun t22=> .ite (decide (t22<(0:Int)))
            (.ret false)
            (.ite (!decide (t22=t20.1))
             (.ret false)
             (.call (dw.told a0 a1 a2 a3 a4 a5 a6 a7 a8 a9 a10 a11 a12) fun t23=> .call (fj.told a13) fun t24=> .call (dj.told t23.1 t23.2.1 t23.2.2.1 t23.2.2.2.1 t23.2.2.2.2.1 t23.2.2.2.2.2.1 t23.2.2.2.2.2.2.1 t23.2.2.2.2.2.2.2.1 t23.2.2.2.2.2.2.2.2.1 t23.2.2.2.2.2.2.2.2.2.1 t23.2.2.2.2.2.2.2.2.2.2.1 t23.2.2.2.2.2.2.2.2.2.2.2.1 t23.2.2.2.2.2.2.2.2.2.2.2.2 t24) fun t25=> .call (eP.told t25.1 t25.2.1 t25.2.2.1 t25.2.2.2.1 t25.2.2.2.2.1 t25.2.2.2.2.2.1 t25.2.2.2.2.2.2.1 t25.2.2.2.2.2.2.2.1 t25.2.2.2.2.2.2.2.2.1 t25.2.2.2.2.2.2.2.2.2.1 t25.2.2.2.2.2.2.2.2.2.2.1 t25.2.2.2.2.2.2.2.2.2.2.2.1 t25.2.2.2.2.2.2.2.2.2.2.2.2.1 t5.1 t5.2.1 t5.2.2.1 t5.2.2.2.1 t5.2.2.2.2.1 t5.2.2.2.2.2.1 t5.2.2.2.2.2.2.1 t5.2.2.2.2.2.2.2.1 t5.2.2.2.2.2.2.2.2.1 t5.2.2.2.2.2.2.2.2.2.1 t5.2.2.2.2.2.2.2.2.2.2.1 t5.2.2.2.2.2.2.2.2.2.2.2.1 t5.2.2.2.2.2.2.2.2.2.2.2.2.1) fun t26=> .ite (!t26)
              (.ret false)
              (.call (cZ.told t25.2.2.2.2.2.2.2.2.2.2.2.2.2 t5.2.2.2.2.2.2.2.2.2.2.2.2.2) fun t27=> .ite (!t27)
               (.ret false)
               (.call (fV.told t19.2.1 t19.2.2.1 t19.2.2.2.1 t8.2.2.2.1 t8.2.2.2.2.1 t8.2.2.2.2.2.1 t8.2.2.2.2.2.2.1 t8.2.2.2.2.2.2.2.1 t8.2.2.2.2.2.2.2.2.1 t8.2.2.2.2.2.2.2.2.2.1 t8.2.2.2.2.2.2.2.2.2.2.1 t19.2.2.2.2 t8.2.2.2.2.2.2.2.2.2.2.2.2.1 (1:Int)) fun t28=> .ite (decide (t28<(0:Int)))
                (.ret false)
                (.call (dG.told t20.2 t28) fun t29=> .ite (decide (t29<(0:Int)))
                 (.ret false)
                 (.ite (!decide (t29=t20.1))
                  (.ret false)
                  (.ret true)))))))))))))))))))
def tree:X→Tr X A:=fun _=> .fail
def f (a0:List gd) (a1 a2:List Int) (a3 a4 a5 a6 a7 a8 a9 a10:Int) (a11:List Int) (a12:Int) (a13:List kR):Option A:=(begin a0 a1 a2 a3 a4 a5 a6 a7 a8 a9 a10 a11 a12 a13).run (lp tree)
def Q:bA C:={PL with cb:=[],ca:=[(14,[],(.take 0 [1,2] (.take 1 [0] (.alt 2 (.alt 3 (.take 4 [] .done) .nil) .nil))))],bV:=[]}
theorem e:aW Pg C Q Tryz.f6 0 id st v o tree:=fun J K x=>by cases x
theorem b (a0:List gd) (a1 a2:List Int) (a3 a4 a5 a6 a7 a8 a9 a10:Int) (a11:List Int) (a12:Int) (a13:List kR):aX Pg C Q Tryz.f6 0 id st v o (S a0 a1 a2 a3 a4 a5 a6 a7 a8 a9 a10 a11 a12 a13) (begin a0 a1 a2 a3 a4 a5 a6 a7 a8 a9 a10 a11 a12 a13):=fun J K=>by kernel_rfl
def told (a0:List gd) (a1 a2:List Int) (a3 a4 a5 a6 a7 a8 a9 a10:Int) (a11:List Int) (a12:Int) (a13:List kR):aa.Told A:=⟨f a0 a1 a2 a3 a4 a5 a6 a7 a8 a9 a10 a11 a12 a13,fun r=>al Pg C 6 (S a0 a1 a2 a3 a4 a5 a6 a7 a8 a9 a10 a11 a12 a13) 0 (v r) (o r),fun r h=>ah G mixed Q Tryz.func6 rfl (of_decide_eq_true (by kernel_rfl)) (by rfl) id st v o (fun _=>rfl) tree e (begin a0 a1 a2 a3 a4 a5 a6 a7 a8 a9 a10 a11 a12 a13) (b a0 a1 a2 a3 a4 a5 a6 a7 a8 a9 a10 a11 a12 a13) h⟩
end fA
namespace dq
def S (a0 a1:List Int):List (PV U):=aa.start C 40 [.sl 3 a0,.sl 3 a1] []
inductive X where
 | c2 (x0 x1:List Int) (x2:Int)
def id:X→Nat
 | .c2 .. =>2
def st:X→List (PV U)
 | .c2 x0 x1 x2=>iC 40 [(0,.sl 3 x0),(1,.sl 3 x1),(5,.int .i64 x2)]
def begin (a0 a1:List Int):Tr X A:=
 .jump (.c2 a0 a1 (0:Int))
def tree:X→Tr X A
 | .c2 x0 x1 x2=>
 let u0_0:Tr X A:=(.ite (decide (x2≥(List.length x0:Int))) (.ret x2) (.ite (decide (x2≥(List.length x1:Int))) (.ret x2) (.bH ((0:Int)≤x2∧x2<(List.length x0:Int)) (.bH ((0:Int)≤x2∧x2<(List.length x1:Int)) (.ite (!decide ((dh x0 x2)=(dh x1 x2))) (.ret x2) (.jump (.c2 x0 x1 (wr (x2+(1:Int)))))))))); .ite (decide (x2<(List.length x0:Int)))
  (u0_0)
  (.ite (decide (x2<(List.length x1:Int)))
   (u0_0)
   (.ret ((-1:Int))))
def f (a0 a1:List Int):Option A:=(begin a0 a1).run (lp tree)
def Q:bA C:={PL with cb:=[(2,[0,1,5])],ca:=[(4,[],(.take 0 [] (.take 1 [] (.take 2 [] (.take 3 [] (.take 4 [] (.take 5 [] (.take 6 [] (.take 7 [] (.take 8 [] (.take 9 [] (.take 10 [] (.take 11 [] (.take 12 [] (.take 13 [] (.take 15 [] (.take 16 [] (.take 17 [] (.take 14 [0,1,2,3,4,5,6,7,8,9,10,11,12,13,15,16,17,18] (.take 18 [0,1,2,3,4,5,6,7,8,9,10,11,12,13,14,15,16,17] (.take 19 [] (.take 20 [] .done))))))))))))))))))))))],bV:=[]}
theorem e:aW Pg C Q Tryz.f137 0 id st v o tree:=fun J K x=>by cases x<;>kernel_rfl
theorem b (a0 a1:List Int):aX Pg C Q Tryz.f137 0 id st v o (S a0 a1) (begin a0 a1):=fun J K=>by kernel_rfl
def told (a0 a1:List Int):aa.Told A:=⟨f a0 a1,fun r=>al Pg C 137 (S a0 a1) 0 (v r) (o r),fun r h=>ah G mixed Q Tryz.func137 rfl (of_decide_eq_true (by kernel_rfl)) (by rfl) id st v o (fun _=>rfl) tree e (begin a0 a1) (b a0 a1) h⟩
end dq
namespace jI
def S (a0 a1:List Int):List (PV U):=aa.start C 9 [.sl 3 a0,.sl 3 a1] []
abbrev X:=Empty
def id:X→Nat:=fun _=>0
def st:X→List (PV U):=fun _=>[]
def begin (a0 a1:List Int):Tr X A:=
 .call (dq.told a0 a1) fun t1=> .ret ((decide (t1<(0:Int))))
def tree:X→Tr X A:=fun _=> .fail
def f (a0 a1:List Int):Option A:=(begin a0 a1).run (lp tree)
def Q:bA C:={PL with cb:=[],ca:=[],bV:=[]}
theorem e:aW Pg C Q Tryz.f85 0 id st v o tree:=fun J K x=>by cases x
theorem b (a0 a1:List Int):aX Pg C Q Tryz.f85 0 id st v o (S a0 a1) (begin a0 a1):=fun J K=>by kernel_rfl
def told (a0 a1:List Int):aa.Told A:=⟨f a0 a1,fun r=>al Pg C 85 (S a0 a1) 0 (v r) (o r),fun r h=>ah G mixed Q Tryz.func85 rfl (of_decide_eq_true (by kernel_rfl)) (by rfl) id st v o (fun _=>rfl) tree e (begin a0 a1) (b a0 a1) h⟩
end jI
namespace ic
def S (a0:List aC) (a1 a2:List Int) (a3 a4 a5 a6 a7 a8 a9 a10:Int) (a11:List Int) (a12:Int) (a13:List kR) (a14:List Int):List (PV U):=aa.start C 26 [.agg [.sl 164 a0,.sl 3 a1,.sl 3 a2,.int .i64 a3,.int .i64 a4,.int .i64 a5,.int .i64 a6,.int .i64 a7,.int .i64 a8,.int .i64 a9,.int .i64 a10,.sl 3 a11,.int .i64 a12],.sl 67 a13,.sl 3 a14] []
abbrev X:=Empty
def id:X→Nat:=fun _=>0
def st:X→List (PV U):=fun _=>[]
def begin (a0:List aC) (a1 a2:List Int) (a3 a4 a5 a6 a7 a8 a9 a10:Int) (a11:List Int) (a12:Int) (a13:List kR) (a14:List Int):Tr X A:=
 .call (bk.told a0 a1 a2 a3 a4 a5 a6 a7 a8 a9 a10 a11 a12) fun t1=> .ite (!t1)
  (.ret false)
  (.ite (decide ((List.length a13:Int)>(30:Int)))
   (.ret false)
   (.call (dE.told a0 a1 a2 a3 a4 a5 a6 a7 a8 a9 a10 a11 a12 a13) fun t2=> .call (jI.told t2.2.2.2.2.2.2.2.2.2.2.2.2.2 a14) fun t3=> .ret t3))
def tree:X→Tr X A:=fun _=> .fail
def f (a0:List aC) (a1 a2:List Int) (a3 a4 a5 a6 a7 a8 a9 a10:Int) (a11:List Int) (a12:Int) (a13:List kR) (a14:List Int):Option A:=(begin a0 a1 a2 a3 a4 a5 a6 a7 a8 a9 a10 a11 a12 a13 a14).run (lp tree)
def Q:bA C:={PL with cb:=[],ca:=[],bV:=[]}
theorem e:aW Pg C Q Tryz.f35 0 id st v o tree:=fun J K x=>by cases x
theorem b (a0:List aC) (a1 a2:List Int) (a3 a4 a5 a6 a7 a8 a9 a10:Int) (a11:List Int) (a12:Int) (a13:List kR) (a14:List Int):aX Pg C Q Tryz.f35 0 id st v o (S a0 a1 a2 a3 a4 a5 a6 a7 a8 a9 a10 a11 a12 a13 a14) (begin a0 a1 a2 a3 a4 a5 a6 a7 a8 a9 a10 a11 a12 a13 a14):=fun J K=>by kernel_rfl
def told (a0:List aC) (a1 a2:List Int) (a3 a4 a5 a6 a7 a8 a9 a10:Int) (a11:List Int) (a12:Int) (a13:List kR) (a14:List Int):aa.Told A:=⟨f a0 a1 a2 a3 a4 a5 a6 a7 a8 a9 a10 a11 a12 a13 a14,fun r=>al Pg C 35 (S a0 a1 a2 a3 a4 a5 a6 a7 a8 a9 a10 a11 a12 a13 a14) 0 (v r) (o r),fun r h=>ah G mixed Q Tryz.func35 rfl (of_decide_eq_true (by kernel_rfl)) (by rfl) id st v o (fun _=>rfl) tree e (begin a0 a1 a2 a3 a4 a5 a6 a7 a8 a9 a10 a11 a12 a13 a14) (b a0 a1 a2 a3 a4 a5 a6 a7 a8 a9 a10 a11 a12 a13 a14) h⟩
end ic
namespace ib
def S (a0:List aC) (a1 a2:List Int) (a3 a4 a5 a6 a7 a8 a9 a10:Int) (a11:List Int) (a12:Int) (a13:List kR) (a14:List Int):List (PV U):=aa.start C 27 [.agg [.sl 164 a0,.sl 3 a1,.sl 3 a2,.int .i64 a3,.int .i64 a4,.int .i64 a5,.int .i64 a6,.int .i64 a7,.int .i64 a8,.int .i64 a9,.int .i64 a10,.sl 3 a11,.int .i64 a12],.sl 67 a13,.sl 3 a14] []
abbrev X:=Empty
def id:X→Nat:=fun _=>0
def st:X→List (PV U):=fun _=>[]
def begin (a0:List aC) (a1 a2:List Int) (a3 a4 a5 a6 a7 a8 a9 a10:Int) (a11:List Int) (a12:Int) (a13:List kR) (a14:List Int):Tr X A:=
 .call (dj.told a0 a1 a2 a3 a4 a5 a6 a7 a8 a9 a10 a11 a12 a13) fun t1=> .call (bF.told a0 a1 a2 a3 a4 a5 a6 a7 a8 a9 a10 a11 a12) fun t2=> .ite t2
  (.ite (decide ((List.length a13:Int)≤(30:Int)))
   (.call (bR.told t1.2.2.2.2.2.2.2.2.2.2.2.2.2 a14) fun t3=> .ret t3)
   (.ret false))
  (.ret false)
def tree:X→Tr X A:=fun _=> .fail
def f (a0:List aC) (a1 a2:List Int) (a3 a4 a5 a6 a7 a8 a9 a10:Int) (a11:List Int) (a12:Int) (a13:List kR) (a14:List Int):Option A:=(begin a0 a1 a2 a3 a4 a5 a6 a7 a8 a9 a10 a11 a12 a13 a14).run (lp tree)
def Q:bA C:={PL with cb:=[],ca:=[],bV:=[]}
theorem e:aW Pg C Q Tryz.f37 0 id st v o tree:=fun J K x=>by cases x
theorem b (a0:List aC) (a1 a2:List Int) (a3 a4 a5 a6 a7 a8 a9 a10:Int) (a11:List Int) (a12:Int) (a13:List kR) (a14:List Int):aX Pg C Q Tryz.f37 0 id st v o (S a0 a1 a2 a3 a4 a5 a6 a7 a8 a9 a10 a11 a12 a13 a14) (begin a0 a1 a2 a3 a4 a5 a6 a7 a8 a9 a10 a11 a12 a13 a14):=fun J K=>by kernel_rfl
def told (a0:List aC) (a1 a2:List Int) (a3 a4 a5 a6 a7 a8 a9 a10:Int) (a11:List Int) (a12:Int) (a13:List kR) (a14:List Int):aa.Told A:=⟨f a0 a1 a2 a3 a4 a5 a6 a7 a8 a9 a10 a11 a12 a13 a14,fun r=>al Pg C 37 (S a0 a1 a2 a3 a4 a5 a6 a7 a8 a9 a10 a11 a12 a13 a14) 0 (v r) (o r),fun r h=>ah G mixed Q Tryz.func37 rfl (of_decide_eq_true (by kernel_rfl)) (by rfl) id st v o (fun _=>rfl) tree e (begin a0 a1 a2 a3 a4 a5 a6 a7 a8 a9 a10 a11 a12 a13 a14) (b a0 a1 a2 a3 a4 a5 a6 a7 a8 a9 a10 a11 a12 a13 a14) h⟩
end ib
namespace eQ
def S (a0:List gd) (a1 a2:List Int) (a3 a4 a5 a6 a7 a8 a9 a10:Int) (a11:List Int) (a12:Int) (a13:List kR) (a14:List Int):List (PV U):=aa.start C 61 [.agg [.sl 191 a0,.sl 3 a1,.sl 3 a2,.int .i64 a3,.int .i64 a4,.int .i64 a5,.int .i64 a6,.int .i64 a7,.int .i64 a8,.int .i64 a9,.int .i64 a10,.sl 3 a11,.int .i64 a12],.sl 64 a13,.sl 3 a14] []
abbrev X:=Empty
def id:X→Nat:=fun _=>0
def st:X→List (PV U):=fun _=>[]
def begin (a0:List gd) (a1 a2:List Int) (a3 a4 a5 a6 a7 a8 a9 a10:Int) (a11:List Int) (a12:Int) (a13:List kR) (a14:List Int):Tr X A:=
 .ite (decide ((List.length a14:Int)>(1048576:Int)))
  (.ret true)
  (.call (gW.told a0 a1 a2 a3 a4 a5 a6 a7 a8 a9 a10 a11 a12 (1048576:Int)) fun t1=> .ite (decide (t1<(0:Int)))
   (.ret true)
   (.call (iP.told a13 t1) fun t2=> .ite (decide (t2<(0:Int)))
    (.ret true)
    (.call (dw.told a0 a1 a2 a3 a4 a5 a6 a7 a8 a9 a10 a11 a12) fun t3=> .call (fj.told a13) fun t4=> .call (dA.told a14) fun t5=> .call (ic.told t3.1 t3.2.1 t3.2.2.1 t3.2.2.2.1 t3.2.2.2.2.1 t3.2.2.2.2.2.1 t3.2.2.2.2.2.2.1 t3.2.2.2.2.2.2.2.1 t3.2.2.2.2.2.2.2.2.1 t3.2.2.2.2.2.2.2.2.2.1 t3.2.2.2.2.2.2.2.2.2.2.1 t3.2.2.2.2.2.2.2.2.2.2.2.1 t3.2.2.2.2.2.2.2.2.2.2.2.2 t4 t5) fun t6=> .call (dw.told a0 a1 a2 a3 a4 a5 a6 a7 a8 a9 a10 a11 a12) fun t7=> .call (fj.told a13) fun t8=> .call (dA.told a14) fun t9=> .call (ib.told t7.1 t7.2.1 t7.2.2.1 t7.2.2.2.1 t7.2.2.2.2.1 t7.2.2.2.2.2.1 t7.2.2.2.2.2.2.1 t7.2.2.2.2.2.2.2.1 t7.2.2.2.2.2.2.2.2.1 t7.2.2.2.2.2.2.2.2.2.1 t7.2.2.2.2.2.2.2.2.2.2.1 t7.2.2.2.2.2.2.2.2.2.2.2.1 t7.2.2.2.2.2.2.2.2.2.2.2.2 t8 t9) fun t10=> .ite (t10 !=t6)
     (.ret false)
     (.last (.call (dw.told a0 a1 a2 a3 a4 a5 a6 a7 a8 a9 a10 a11 a12) fun t11=> .last (.call (eP.told t7.1 t7.2.1 t7.2.2.1 t7.2.2.2.1 t7.2.2.2.2.1 t7.2.2.2.2.2.1 t7.2.2.2.2.2.2.1 t7.2.2.2.2.2.2.2.1 t7.2.2.2.2.2.2.2.2.1 t7.2.2.2.2.2.2.2.2.2.1 t7.2.2.2.2.2.2.2.2.2.2.1 t7.2.2.2.2.2.2.2.2.2.2.2.1 t7.2.2.2.2.2.2.2.2.2.2.2.2 t11.1 t11.2.1 t11.2.2.1 t11.2.2.2.1 t11.2.2.2.2.1 t11.2.2.2.2.2.1 t11.2.2.2.2.2.2.1 t11.2.2.2.2.2.2.2.1 t11.2.2.2.2.2.2.2.2.1 t11.2.2.2.2.2.2.2.2.2.1 t11.2.2.2.2.2.2.2.2.2.2.1 t11.2.2.2.2.2.2.2.2.2.2.2.1 t11.2.2.2.2.2.2.2.2.2.2.2.2) fun t12=> .ite (!t12)
      (.ret false)
      (.call (fj.told a13) fun t13=> .call (gB.told t8 t13) fun t14=> .ite (!t14)
       (.ret false)
       (.call (dA.told a14) fun t15=> .call (cZ.told t9 t15) fun t16=> .ite (!t16)
        (.ret false)
        (.ret true)))))))))
def tree:X→Tr X A:=fun _=> .fail
def f (a0:List gd) (a1 a2:List Int) (a3 a4 a5 a6 a7 a8 a9 a10:Int) (a11:List Int) (a12:Int) (a13:List kR) (a14:List Int):Option A:=(begin a0 a1 a2 a3 a4 a5 a6 a7 a8 a9 a10 a11 a12 a13 a14).run (lp tree)
def Q:bA C:={PL with cb:=[],ca:=[(17,[],(.take 0 [1,2] (.take 1 [0] (.alt 2 (.alt 3 (.take 4 [] .done) .nil) .nil))))],bV:=[]}
theorem e:aW Pg C Q Tryz.f7 0 id st v o tree:=fun J K x=>by cases x
theorem b (a0:List gd) (a1 a2:List Int) (a3 a4 a5 a6 a7 a8 a9 a10:Int) (a11:List Int) (a12:Int) (a13:List kR) (a14:List Int):aX Pg C Q Tryz.f7 0 id st v o (S a0 a1 a2 a3 a4 a5 a6 a7 a8 a9 a10 a11 a12 a13 a14) (begin a0 a1 a2 a3 a4 a5 a6 a7 a8 a9 a10 a11 a12 a13 a14):=fun J K=>by kernel_rfl
def told (a0:List gd) (a1 a2:List Int) (a3 a4 a5 a6 a7 a8 a9 a10:Int) (a11:List Int) (a12:Int) (a13:List kR) (a14:List Int):aa.Told A:=⟨f a0 a1 a2 a3 a4 a5 a6 a7 a8 a9 a10 a11 a12 a13 a14,fun r=>al Pg C 7 (S a0 a1 a2 a3 a4 a5 a6 a7 a8 a9 a10 a11 a12 a13 a14) 0 (v r) (o r),fun r h=>ah G mixed Q Tryz.func7 rfl (of_decide_eq_true (by kernel_rfl)) (by rfl) id st v o (fun _=>rfl) tree e (begin a0 a1 a2 a3 a4 a5 a6 a7 a8 a9 a10 a11 a12 a13 a14) (b a0 a1 a2 a3 a4 a5 a6 a7 a8 a9 a10 a11 a12 a13 a14) h⟩
end eQ
end
end Go.Proofs.YtmapddgocpkgeaaGreat.Ev
