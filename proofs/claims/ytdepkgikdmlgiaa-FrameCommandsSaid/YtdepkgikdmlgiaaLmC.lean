/- The limits of the functions with rounds, and the equations that reckon them. Plain Lean; no condition. Written by a program. -/
import Derived.Test.YtdepkgikdmlgiaaLim
import Derived.Test.YtdepkgikdmlgiaaLmR
import Derived.Test.YtdepkgikdmlgiaaLmU
import Derived.Test.YtdepkgikdmlgiaaLm1
import Derived.Test.YtdepkgikdmlgiaaPx23
import Derived.Test.YtdepkgikdmlgiaaPx28
import Derived.Test.YtdepkgikdmlgiaaPx0
import Derived.Test.YtdepkgikdmlgiaaShort
import Derived.Test.YtdepkgikdmlgiaaPx17
import Derived.Test.YtdepkgikdmlgiaaPx18
import Derived.Test.YtdepkgikdmlgiaaPx35
import Derived.Test.YtdepkgikdmlgiaaPx37
import Derived.Test.YtdepkgikdmlgiaaPx39
namespace Go.Proofs.Ytdepkgikdmlgiaa.P
open Go.RowKit Go.Proofs.Ytdepkgikdmlgiaa.Lim Go.Proofs.YtdepkgikdmlgiaaW.PrintWords Go.Proofs.YtdepkgikdmlgiaaW.PrintLast Go.Proofs.YtdepkgikdmlgiaaW.PrintMore
set_option linter.unusedVariables false

noncomputable def frame_extras.j0L (x3 : Int) (x4 : Bool) : Option (Int) := lim (fun k => frame_extras.j0 k x3 x4)
theorem frame_extras.j0Llm (x3 : Int) (x4 : Bool) : Lm (fun k => frame_extras.j0 k x3 x4) (frame_extras.j0L x3 x4) := lim_spec (fun k => (frame_extras.mono_l k).1 _ _)
noncomputable def frame_extras.j1L (x3 : Int) (x9 : Bool) : Option (Int) := lim (fun k => frame_extras.j1 k x3 x9)
theorem frame_extras.j1Llm (x3 : Int) (x9 : Bool) : Lm (fun k => frame_extras.j1 k x3 x9) (frame_extras.j1L x3 x9) := lim_spec (fun k => (frame_extras.mono_l k).2.1 _ _)
noncomputable def frame_extras.j2L (x12 : Bool) : Option (Int) := lim (fun k => frame_extras.j2 k x12)
theorem frame_extras.j2Llm (x12 : Bool) : Lm (fun k => frame_extras.j2 k x12) (frame_extras.j2L x12) := lim_spec (fun k => (frame_extras.mono_l k).2.2 _)
noncomputable def frame_extras.L (a0 : Int) : Option (Int) := lim (fun k => frame_extras.f k a0)
theorem frame_extras.Llm (a0 : Int) : Lm (fun k => frame_extras.f k a0) (frame_extras.L a0) := lim_spec (fun k => frame_extras.mono a0 k)
noncomputable def frame_expiry.L (a0 : ByteArray) : Option (Int) := lim (fun k => frame_expiry.f k a0)
theorem frame_expiry.Llm (a0 : ByteArray) : Lm (fun k => frame_expiry.f k a0) (frame_expiry.L a0) := lim_spec (fun k => frame_expiry.mono a0 k)
noncomputable def frame_Command.j0L (x4 : Int) (x49 : Bool) (z3 : Bool) (z4 : Int) (z5 : Int) (z6 : Int) (z1 : Int) (z0 : ByteArray) (z2 : ByteArray) (z7 : ByteArray) (ze : Int) (zf : Int) (zk : Int) (z8 : ByteArray) (z9 : Int) (zg : Int) (za : Bool) : Option (Int × List ByteArray × Int × Int × ByteArray × Int × Int × Bool × Int) := lim (fun k => frame_Command.j0 k x4 x49 z3 z4 z5 z6 z1 z0 z2 z7 ze zf zk z8 z9 zg za)
theorem frame_Command.j0Llm (x4 : Int) (x49 : Bool) (z3 : Bool) (z4 : Int) (z5 : Int) (z6 : Int) (z1 : Int) (z0 : ByteArray) (z2 : ByteArray) (z7 : ByteArray) (ze : Int) (zf : Int) (zk : Int) (z8 : ByteArray) (z9 : Int) (zg : Int) (za : Bool) : Lm (fun k => frame_Command.j0 k x4 x49 z3 z4 z5 z6 z1 z0 z2 z7 ze zf zk z8 z9 zg za) (frame_Command.j0L x4 x49 z3 z4 z5 z6 z1 z0 z2 z7 ze zf zk z8 z9 zg za) := lim_spec (fun k => (frame_Command.mono_l k).1 _ _ _ _ _ _ _ _ _ _ _ _ _ _ _ _ _)
noncomputable def frame_Command.j1L (x4 : Int) (z3 : Bool) (z4 : Int) (z5 : Int) (z6 : Int) (z1 : Int) (z0 : ByteArray) (z2 : ByteArray) (z7 : ByteArray) (ze : Int) (zm : List ByteArray) (zf : Int) (zk : Int) (z8 : ByteArray) (z9 : Int) (zg : Int) (za : Bool) : Option (Int × List ByteArray × Int × Int × ByteArray × Int × Int × Bool × Int) := lim (fun k => frame_Command.j1 k x4 z3 z4 z5 z6 z1 z0 z2 z7 ze zm zf zk z8 z9 zg za)
theorem frame_Command.j1Llm (x4 : Int) (z3 : Bool) (z4 : Int) (z5 : Int) (z6 : Int) (z1 : Int) (z0 : ByteArray) (z2 : ByteArray) (z7 : ByteArray) (ze : Int) (zm : List ByteArray) (zf : Int) (zk : Int) (z8 : ByteArray) (z9 : Int) (zg : Int) (za : Bool) : Lm (fun k => frame_Command.j1 k x4 z3 z4 z5 z6 z1 z0 z2 z7 ze zm zf zk z8 z9 zg za) (frame_Command.j1L x4 z3 z4 z5 z6 z1 z0 z2 z7 ze zm zf zk z8 z9 zg za) := lim_spec (fun k => (frame_Command.mono_l k).2.1 _ _ _ _ _ _ _ _ _ _ _ _ _ _ _ _ _)
noncomputable def frame_Command.j2L (x4 : Int) (x7 : Int) (z3 : Bool) (z4 : Int) (z5 : Int) (z6 : Int) (z1 : Int) (z0 : ByteArray) (z2 : ByteArray) (z7 : ByteArray) (ze : Int) (zm : List ByteArray) (zf : Int) (zk : Int) (z8 : ByteArray) (z9 : Int) (zg : Int) (za : Bool) : Option (Int × List ByteArray × Int × Int × ByteArray × Int × Int × Bool × Int) := lim (fun k => frame_Command.j2 k x4 x7 z3 z4 z5 z6 z1 z0 z2 z7 ze zm zf zk z8 z9 zg za)
theorem frame_Command.j2Llm (x4 : Int) (x7 : Int) (z3 : Bool) (z4 : Int) (z5 : Int) (z6 : Int) (z1 : Int) (z0 : ByteArray) (z2 : ByteArray) (z7 : ByteArray) (ze : Int) (zm : List ByteArray) (zf : Int) (zk : Int) (z8 : ByteArray) (z9 : Int) (zg : Int) (za : Bool) : Lm (fun k => frame_Command.j2 k x4 x7 z3 z4 z5 z6 z1 z0 z2 z7 ze zm zf zk z8 z9 zg za) (frame_Command.j2L x4 x7 z3 z4 z5 z6 z1 z0 z2 z7 ze zm zf zk z8 z9 zg za) := lim_spec (fun k => (frame_Command.mono_l k).2.2.1 _ _ _ _ _ _ _ _ _ _ _ _ _ _ _ _ _ _)
noncomputable def frame_Command.j3L (x7 : Int) (x93 : Bool) (ze : Int) (zm : List ByteArray) (zf : Int) (zk : Int) (z8 : ByteArray) (z9 : Int) (zg : Int) (za : Bool) : Option (Int × List ByteArray × Int × Int × ByteArray × Int × Int × Bool × Int) := lim (fun k => frame_Command.j3 k x7 x93 ze zm zf zk z8 z9 zg za)
theorem frame_Command.j3Llm (x7 : Int) (x93 : Bool) (ze : Int) (zm : List ByteArray) (zf : Int) (zk : Int) (z8 : ByteArray) (z9 : Int) (zg : Int) (za : Bool) : Lm (fun k => frame_Command.j3 k x7 x93 ze zm zf zk z8 z9 zg za) (frame_Command.j3L x7 x93 ze zm zf zk z8 z9 zg za) := lim_spec (fun k => (frame_Command.mono_l k).2.2.2.1 _ _ _ _ _ _ _ _ _ _)
noncomputable def frame_Command.j4L (x7 : Int) (ze : Int) (zm : List ByteArray) (zf : Int) (zk : Int) (z8 : ByteArray) (z9 : Int) (zg : Int) (za : Bool) : Option (Int × List ByteArray × Int × Int × ByteArray × Int × Int × Bool × Int) := lim (fun k => frame_Command.j4 k x7 ze zm zf zk z8 z9 zg za)
theorem frame_Command.j4Llm (x7 : Int) (ze : Int) (zm : List ByteArray) (zf : Int) (zk : Int) (z8 : ByteArray) (z9 : Int) (zg : Int) (za : Bool) : Lm (fun k => frame_Command.j4 k x7 ze zm zf zk z8 z9 zg za) (frame_Command.j4L x7 ze zm zf zk z8 z9 zg za) := lim_spec (fun k => (frame_Command.mono_l k).2.2.2.2.1 _ _ _ _ _ _ _ _ _)
noncomputable def frame_Command.j5L (x4 : Int) (x49 : Bool) (z3 : Bool) (z4 : Int) (z5 : Int) (z6 : Int) (z1 : Int) (z0 : ByteArray) (z2 : ByteArray) (z7 : ByteArray) (zh : Int) (zi : Int) (zl : Int) (zb : ByteArray) (zc : Int) (zj : Int) (zd : Bool) : Option (Int × List ByteArray × Int × Int × ByteArray × Int × Int × Bool × Int) := lim (fun k => frame_Command.j5 k x4 x49 z3 z4 z5 z6 z1 z0 z2 z7 zh zi zl zb zc zj zd)
theorem frame_Command.j5Llm (x4 : Int) (x49 : Bool) (z3 : Bool) (z4 : Int) (z5 : Int) (z6 : Int) (z1 : Int) (z0 : ByteArray) (z2 : ByteArray) (z7 : ByteArray) (zh : Int) (zi : Int) (zl : Int) (zb : ByteArray) (zc : Int) (zj : Int) (zd : Bool) : Lm (fun k => frame_Command.j5 k x4 x49 z3 z4 z5 z6 z1 z0 z2 z7 zh zi zl zb zc zj zd) (frame_Command.j5L x4 x49 z3 z4 z5 z6 z1 z0 z2 z7 zh zi zl zb zc zj zd) := lim_spec (fun k => (frame_Command.mono_l k).2.2.2.2.2.1 _ _ _ _ _ _ _ _ _ _ _ _ _ _ _ _ _)
noncomputable def frame_Command.j6L (x4 : Int) (z3 : Bool) (z4 : Int) (z5 : Int) (z6 : Int) (z1 : Int) (z0 : ByteArray) (z2 : ByteArray) (z7 : ByteArray) (zh : Int) (zn : List ByteArray) (zi : Int) (zl : Int) (zb : ByteArray) (zc : Int) (zj : Int) (zd : Bool) : Option (Int × List ByteArray × Int × Int × ByteArray × Int × Int × Bool × Int) := lim (fun k => frame_Command.j6 k x4 z3 z4 z5 z6 z1 z0 z2 z7 zh zn zi zl zb zc zj zd)
theorem frame_Command.j6Llm (x4 : Int) (z3 : Bool) (z4 : Int) (z5 : Int) (z6 : Int) (z1 : Int) (z0 : ByteArray) (z2 : ByteArray) (z7 : ByteArray) (zh : Int) (zn : List ByteArray) (zi : Int) (zl : Int) (zb : ByteArray) (zc : Int) (zj : Int) (zd : Bool) : Lm (fun k => frame_Command.j6 k x4 z3 z4 z5 z6 z1 z0 z2 z7 zh zn zi zl zb zc zj zd) (frame_Command.j6L x4 z3 z4 z5 z6 z1 z0 z2 z7 zh zn zi zl zb zc zj zd) := lim_spec (fun k => (frame_Command.mono_l k).2.2.2.2.2.2.1 _ _ _ _ _ _ _ _ _ _ _ _ _ _ _ _ _)
noncomputable def frame_Command.j7L (x4 : Int) (x7 : Int) (z3 : Bool) (z4 : Int) (z5 : Int) (z6 : Int) (z1 : Int) (z0 : ByteArray) (z2 : ByteArray) (z7 : ByteArray) (zh : Int) (zn : List ByteArray) (zi : Int) (zl : Int) (zb : ByteArray) (zc : Int) (zj : Int) (zd : Bool) : Option (Int × List ByteArray × Int × Int × ByteArray × Int × Int × Bool × Int) := lim (fun k => frame_Command.j7 k x4 x7 z3 z4 z5 z6 z1 z0 z2 z7 zh zn zi zl zb zc zj zd)
theorem frame_Command.j7Llm (x4 : Int) (x7 : Int) (z3 : Bool) (z4 : Int) (z5 : Int) (z6 : Int) (z1 : Int) (z0 : ByteArray) (z2 : ByteArray) (z7 : ByteArray) (zh : Int) (zn : List ByteArray) (zi : Int) (zl : Int) (zb : ByteArray) (zc : Int) (zj : Int) (zd : Bool) : Lm (fun k => frame_Command.j7 k x4 x7 z3 z4 z5 z6 z1 z0 z2 z7 zh zn zi zl zb zc zj zd) (frame_Command.j7L x4 x7 z3 z4 z5 z6 z1 z0 z2 z7 zh zn zi zl zb zc zj zd) := lim_spec (fun k => (frame_Command.mono_l k).2.2.2.2.2.2.2.1 _ _ _ _ _ _ _ _ _ _ _ _ _ _ _ _ _ _)
noncomputable def frame_Command.j8L (x7 : Int) (x93 : Bool) (zh : Int) (zn : List ByteArray) (zi : Int) (zl : Int) (zb : ByteArray) (zc : Int) (zj : Int) (zd : Bool) : Option (Int × List ByteArray × Int × Int × ByteArray × Int × Int × Bool × Int) := lim (fun k => frame_Command.j8 k x7 x93 zh zn zi zl zb zc zj zd)
theorem frame_Command.j8Llm (x7 : Int) (x93 : Bool) (zh : Int) (zn : List ByteArray) (zi : Int) (zl : Int) (zb : ByteArray) (zc : Int) (zj : Int) (zd : Bool) : Lm (fun k => frame_Command.j8 k x7 x93 zh zn zi zl zb zc zj zd) (frame_Command.j8L x7 x93 zh zn zi zl zb zc zj zd) := lim_spec (fun k => (frame_Command.mono_l k).2.2.2.2.2.2.2.2.1 _ _ _ _ _ _ _ _ _ _)
noncomputable def frame_Command.j9L (x7 : Int) (zh : Int) (zn : List ByteArray) (zi : Int) (zl : Int) (zb : ByteArray) (zc : Int) (zj : Int) (zd : Bool) : Option (Int × List ByteArray × Int × Int × ByteArray × Int × Int × Bool × Int) := lim (fun k => frame_Command.j9 k x7 zh zn zi zl zb zc zj zd)
theorem frame_Command.j9Llm (x7 : Int) (zh : Int) (zn : List ByteArray) (zi : Int) (zl : Int) (zb : ByteArray) (zc : Int) (zj : Int) (zd : Bool) : Lm (fun k => frame_Command.j9 k x7 zh zn zi zl zb zc zj zd) (frame_Command.j9L x7 zh zn zi zl zb zc zj zd) := lim_spec (fun k => (frame_Command.mono_l k).2.2.2.2.2.2.2.2.2 _ _ _ _ _ _ _ _ _)
noncomputable def frame_Command.L (a0_0 : Bool) (a0_1 : Int) (a0_2 : Int) (a0_3 : Int) (a0_4 : Int) (a0_5 : ByteArray) (a0_6 : ByteArray) (a0_7 : ByteArray) : Option (Int × List ByteArray × Int × Int × ByteArray × Int × Int × Bool × Int) := lim (fun k => frame_Command.f k a0_0 a0_1 a0_2 a0_3 a0_4 a0_5 a0_6 a0_7)
theorem frame_Command.Llm (a0_0 : Bool) (a0_1 : Int) (a0_2 : Int) (a0_3 : Int) (a0_4 : Int) (a0_5 : ByteArray) (a0_6 : ByteArray) (a0_7 : ByteArray) : Lm (fun k => frame_Command.f k a0_0 a0_1 a0_2 a0_3 a0_4 a0_5 a0_6 a0_7) (frame_Command.L a0_0 a0_1 a0_2 a0_3 a0_4 a0_5 a0_6 a0_7) := lim_spec (fun k => frame_Command.mono a0_0 a0_1 a0_2 a0_3 a0_4 a0_5 a0_6 a0_7 k)
noncomputable def frame_plain.j0L (x3 : Bool) (z8 : Int) (x421001 : List ByteArray) (x421002 : Int) (x421003 : Int) (x421004 : ByteArray) (x421005 : Int) (x421006 : Int) (z9 : Bool) : Option (Bool) := lim (fun k => frame_plain.j0 k x3 z8 x421001 x421002 x421003 x421004 x421005 x421006 z9)
theorem frame_plain.j0Llm (x3 : Bool) (z8 : Int) (x421001 : List ByteArray) (x421002 : Int) (x421003 : Int) (x421004 : ByteArray) (x421005 : Int) (x421006 : Int) (z9 : Bool) : Lm (fun k => frame_plain.j0 k x3 z8 x421001 x421002 x421003 x421004 x421005 x421006 z9) (frame_plain.j0L x3 z8 x421001 x421002 x421003 x421004 x421005 x421006 z9) := lim_spec (fun k => (frame_plain.mono_l k) _ _ _ _ _ _ _ _ _)
noncomputable def frame_plain.L (a0_0 : Int) (l0_1 : List ByteArray) (a0_2 : Int) (a0_3 : Int) (a0_4 : ByteArray) (a0_5 : Int) (a0_6 : Int) (a0_7 : Bool) : Option (Bool) := lim (fun k => frame_plain.f k a0_0 l0_1 a0_2 a0_3 a0_4 a0_5 a0_6 a0_7)
theorem frame_plain.Llm (a0_0 : Int) (l0_1 : List ByteArray) (a0_2 : Int) (a0_3 : Int) (a0_4 : ByteArray) (a0_5 : Int) (a0_6 : Int) (a0_7 : Bool) : Lm (fun k => frame_plain.f k a0_0 l0_1 a0_2 a0_3 a0_4 a0_5 a0_6 a0_7) (frame_plain.L a0_0 l0_1 a0_2 a0_3 a0_4 a0_5 a0_6 a0_7) := lim_spec (fun k => frame_plain.mono a0_0 l0_1 a0_2 a0_3 a0_4 a0_5 a0_6 a0_7 k)
noncomputable def frame_asks.j0L (x3 : Int) (z1 : Int) (z2 : List ByteArray) (z3 : Int) (z4 : Int) (z5 : ByteArray) (z6 : Int) (z7 : Int) (z0 : Bool) : Option (Int) := lim (fun k => frame_asks.j0 k x3 z1 z2 z3 z4 z5 z6 z7 z0)
theorem frame_asks.j0Llm (x3 : Int) (z1 : Int) (z2 : List ByteArray) (z3 : Int) (z4 : Int) (z5 : ByteArray) (z6 : Int) (z7 : Int) (z0 : Bool) : Lm (fun k => frame_asks.j0 k x3 z1 z2 z3 z4 z5 z6 z7 z0) (frame_asks.j0L x3 z1 z2 z3 z4 z5 z6 z7 z0) := lim_spec (fun k => (frame_asks.mono_l k).1 _ _ _ _ _ _ _ _ _)
noncomputable def frame_asks.l0L (x3 : Int) (x10 : List (S112)) (x11 : Int) (x12 : Int) (z1 : Int) (z2 : List ByteArray) (z3 : Int) (z4 : Int) (z5 : ByteArray) (z6 : Int) (z7 : Int) (z0 : Bool) : Option (Int) := lim (fun k => frame_asks.l0 k x3 x10 x11 x12 z1 z2 z3 z4 z5 z6 z7 z0)
theorem frame_asks.l0Llm (x3 : Int) (x10 : List (S112)) (x11 : Int) (x12 : Int) (z1 : Int) (z2 : List ByteArray) (z3 : Int) (z4 : Int) (z5 : ByteArray) (z6 : Int) (z7 : Int) (z0 : Bool) : Lm (fun k => frame_asks.l0 k x3 x10 x11 x12 z1 z2 z3 z4 z5 z6 z7 z0) (frame_asks.l0L x3 x10 x11 x12 z1 z2 z3 z4 z5 z6 z7 z0) := lim_spec (fun k => (frame_asks.mono_l k).2.1 _ _ _ _ _ _ _ _ _ _ _ _)
noncomputable def frame_asks.j2L (x3 : Int) (x10 : List (S112)) (x11 : Int) (x12 : Int) (x23 : Bool) (z1 : Int) (z2 : List ByteArray) (z3 : Int) (z4 : Int) (z5 : ByteArray) (z6 : Int) (z7 : Int) (z0 : Bool) (x427000 : Int) (x427001 : Int) (x427002 : Int) : Option (Int) := lim (fun k => frame_asks.j2 k x3 x10 x11 x12 x23 z1 z2 z3 z4 z5 z6 z7 z0 x427000 x427001 x427002)
theorem frame_asks.j2Llm (x3 : Int) (x10 : List (S112)) (x11 : Int) (x12 : Int) (x23 : Bool) (z1 : Int) (z2 : List ByteArray) (z3 : Int) (z4 : Int) (z5 : ByteArray) (z6 : Int) (z7 : Int) (z0 : Bool) (x427000 : Int) (x427001 : Int) (x427002 : Int) : Lm (fun k => frame_asks.j2 k x3 x10 x11 x12 x23 z1 z2 z3 z4 z5 z6 z7 z0 x427000 x427001 x427002) (frame_asks.j2L x3 x10 x11 x12 x23 z1 z2 z3 z4 z5 z6 z7 z0 x427000 x427001 x427002) := lim_spec (fun k => (frame_asks.mono_l k).2.2 _ _ _ _ _ _ _ _ _ _ _ _ _ _ _ _)
noncomputable def frame_asks.L (a0_0 : Int) (l0_1 : List ByteArray) (a0_2 : Int) (a0_3 : Int) (a0_4 : ByteArray) (a0_5 : Int) (a0_6 : Int) (a0_7 : Bool) : Option (Int) := lim (fun k => frame_asks.f k a0_0 l0_1 a0_2 a0_3 a0_4 a0_5 a0_6 a0_7)
theorem frame_asks.Llm (a0_0 : Int) (l0_1 : List ByteArray) (a0_2 : Int) (a0_3 : Int) (a0_4 : ByteArray) (a0_5 : Int) (a0_6 : Int) (a0_7 : Bool) : Lm (fun k => frame_asks.f k a0_0 l0_1 a0_2 a0_3 a0_4 a0_5 a0_6 a0_7) (frame_asks.L a0_0 l0_1 a0_2 a0_3 a0_4 a0_5 a0_6 a0_7) := lim_spec (fun k => frame_asks.mono a0_0 l0_1 a0_2 a0_3 a0_4 a0_5 a0_6 a0_7 k)
noncomputable def frame_Request.L (a0_0 : Int) (l0_1 : List ByteArray) (a0_2 : Int) (a0_3 : Int) (a0_4 : ByteArray) (a0_5 : Int) (a0_6 : Int) (a0_7 : Bool) (a1 : Int) : Option (Bool × Int × Int × Int × Int × ByteArray × ByteArray × ByteArray × Int) := lim (fun k => frame_Request.f k a0_0 l0_1 a0_2 a0_3 a0_4 a0_5 a0_6 a0_7 a1)
theorem frame_Request.Llm (a0_0 : Int) (l0_1 : List ByteArray) (a0_2 : Int) (a0_3 : Int) (a0_4 : ByteArray) (a0_5 : Int) (a0_6 : Int) (a0_7 : Bool) (a1 : Int) : Lm (fun k => frame_Request.f k a0_0 l0_1 a0_2 a0_3 a0_4 a0_5 a0_6 a0_7 a1) (frame_Request.L a0_0 l0_1 a0_2 a0_3 a0_4 a0_5 a0_6 a0_7 a1) := lim_spec (fun k => frame_Request.mono a0_0 l0_1 a0_2 a0_3 a0_4 a0_5 a0_6 a0_7 a1 k)
noncomputable def tallboyref17_SameCommands.l0L (x5 : Int) (z2 : Int) (z0 : List ByteArray) (z3 : Int) (z4 : Int) (z5 : ByteArray) (z6 : Int) (z7 : Int) (z8 : Bool) (z9 : Int) (z1 : List ByteArray) (za : Int) (zb : Int) (zc : ByteArray) (zd : Int) (ze : Int) (zf : Bool) : Option (Bool) := lim (fun k => tallboyref17_SameCommands.l0 k x5 z2 z0 z3 z4 z5 z6 z7 z8 z9 z1 za zb zc zd ze zf)
theorem tallboyref17_SameCommands.l0Llm (x5 : Int) (z2 : Int) (z0 : List ByteArray) (z3 : Int) (z4 : Int) (z5 : ByteArray) (z6 : Int) (z7 : Int) (z8 : Bool) (z9 : Int) (z1 : List ByteArray) (za : Int) (zb : Int) (zc : ByteArray) (zd : Int) (ze : Int) (zf : Bool) : Lm (fun k => tallboyref17_SameCommands.l0 k x5 z2 z0 z3 z4 z5 z6 z7 z8 z9 z1 za zb zc zd ze zf) (tallboyref17_SameCommands.l0L x5 z2 z0 z3 z4 z5 z6 z7 z8 z9 z1 za zb zc zd ze zf) := lim_spec (fun k => (tallboyref17_SameCommands.mono_l k) _ _ _ _ _ _ _ _ _ _ _ _ _ _ _ _ _)
noncomputable def tallboyref17_SameCommands.L (a0_0 : Int) (l0_1 : List ByteArray) (a0_2 : Int) (a0_3 : Int) (a0_4 : ByteArray) (a0_5 : Int) (a0_6 : Int) (a0_7 : Bool) (a1_0 : Int) (l1_1 : List ByteArray) (a1_2 : Int) (a1_3 : Int) (a1_4 : ByteArray) (a1_5 : Int) (a1_6 : Int) (a1_7 : Bool) : Option (Bool) := lim (fun k => tallboyref17_SameCommands.f k a0_0 l0_1 a0_2 a0_3 a0_4 a0_5 a0_6 a0_7 a1_0 l1_1 a1_2 a1_3 a1_4 a1_5 a1_6 a1_7)
theorem tallboyref17_SameCommands.Llm (a0_0 : Int) (l0_1 : List ByteArray) (a0_2 : Int) (a0_3 : Int) (a0_4 : ByteArray) (a0_5 : Int) (a0_6 : Int) (a0_7 : Bool) (a1_0 : Int) (l1_1 : List ByteArray) (a1_2 : Int) (a1_3 : Int) (a1_4 : ByteArray) (a1_5 : Int) (a1_6 : Int) (a1_7 : Bool) : Lm (fun k => tallboyref17_SameCommands.f k a0_0 l0_1 a0_2 a0_3 a0_4 a0_5 a0_6 a0_7 a1_0 l1_1 a1_2 a1_3 a1_4 a1_5 a1_6 a1_7) (tallboyref17_SameCommands.L a0_0 l0_1 a0_2 a0_3 a0_4 a0_5 a0_6 a0_7 a1_0 l1_1 a1_2 a1_3 a1_4 a1_5 a1_6 a1_7) := lim_spec (fun k => tallboyref17_SameCommands.mono a0_0 l0_1 a0_2 a0_3 a0_4 a0_5 a0_6 a0_7 a1_0 l1_1 a1_2 a1_3 a1_4 a1_5 a1_6 a1_7 k)
theorem frame_extras.j0L_eq (x3 : Int) (x4 : Bool) : frame_extras.j0L x3 x4 = (if x4 = true then (some 8) else (if x3 = 12 then (frame_extras.j1L x3 (x3 == 12)) else (frame_extras.j1L x3 (x3 == 13)))) := by
  refine Lm.unique (frame_extras.j0Llm x3 x4) ?_
  refine Lm.step rfl (f := fun k => frame_extras.j0 (k + 1) x3 x4) (fun _ => rfl) ?_; simp only [frame_extras.j0]
  repeat' first
    | with_reducible exact frame_extras.j1Llm _ _
    | with_reducible exact Lm.const _
    | with_reducible refine Lm.bind ?_ (fun _ => ?_)
    | with_reducible refine Lm.ite ?_ ?_
    | refine Lm.bind ?_ (fun _ => ?_)
    | refine Lm.ite ?_ ?_
theorem frame_extras.j1L_eq (x3 : Int) (x9 : Bool) : frame_extras.j1L x3 x9 = (if x9 = true then (some 20) else (if x3 = 14 then (frame_extras.j2L (x3 == 14)) else (frame_extras.j2L (x3 == 3)))) := by
  refine Lm.unique (frame_extras.j1Llm x3 x9) ?_
  refine Lm.step rfl (f := fun k => frame_extras.j1 (k + 1) x3 x9) (fun _ => rfl) ?_; simp only [frame_extras.j1]
  repeat' first
    | with_reducible exact frame_extras.j2Llm _
    | with_reducible exact Lm.const _
    | with_reducible refine Lm.bind ?_ (fun _ => ?_)
    | with_reducible refine Lm.ite ?_ ?_
    | refine Lm.bind ?_ (fun _ => ?_)
    | refine Lm.ite ?_ ?_
theorem frame_extras.j2L_eq (x12 : Bool) : frame_extras.j2L x12 = (if x12 = true then (some 4) else (some 0)) := by
  refine Lm.unique (frame_extras.j2Llm x12) ?_
  refine Lm.step rfl (f := fun k => frame_extras.j2 (k + 1) x12) (fun _ => rfl) ?_; simp only [frame_extras.j2]
  repeat' first
    | with_reducible exact Lm.const _
    | with_reducible refine Lm.bind ?_ (fun _ => ?_)
    | with_reducible refine Lm.ite ?_ ?_
    | refine Lm.bind ?_ (fun _ => ?_)
    | refine Lm.ite ?_ ?_
theorem frame_extras.L_eq (a0 : Int) : frame_extras.L a0 = (if a0 = 5 then (frame_extras.j0L a0 (a0 == 5)) else (if a0 = 6 then (frame_extras.j0L a0 (a0 == 6)) else (if a0 = 7 then (frame_extras.j0L a0 (a0 == 7)) else (frame_extras.j0L a0 (a0 == 10))))) := by
  refine Lm.unique (frame_extras.Llm a0) ?_
  unfold frame_extras.f
  repeat' first
    | with_reducible exact frame_extras.j0Llm _ _
    | with_reducible exact Lm.const _
    | with_reducible refine Lm.bind ?_ (fun _ => ?_)
    | with_reducible refine Lm.ite ?_ ?_
    | refine Lm.bind ?_ (fun _ => ?_)
    | refine Lm.ite ?_ ?_
theorem frame_expiry.L_eq (a0 : ByteArray) : frame_expiry.L a0 = ((frame_take.L a0).bind fun t346 => (some (wrap64 (wrap32 ((t346) % 4294967296))))) := by
  refine Lm.unique (frame_expiry.Llm a0) ?_
  unfold frame_expiry.f
  repeat' first
    | with_reducible exact frame_take.Llm _
    | with_reducible exact Lm.const _
    | with_reducible refine Lm.bind ?_ (fun _ => ?_)
    | with_reducible refine Lm.ite ?_ ?_
    | refine Lm.bind ?_ (fun _ => ?_)
    | refine Lm.ite ?_ ?_
theorem frame_Command.j0L_eq (x4 : Int) (x49 : Bool) (z3 : Bool) (z4 : Int) (z5 : Int) (z6 : Int) (z1 : Int) (z0 : ByteArray) (z2 : ByteArray) (z7 : ByteArray) (ze : Int) (zf : Int) (zk : Int) (z8 : ByteArray) (z9 : Int) (zg : Int) (za : Bool) : frame_Command.j0L x4 x49 z3 z4 z5 z6 z1 z0 z2 z7 ze zf zk z8 z9 zg za = (if x49 = true then (frame_Command.j1L x4 z3 z4 z5 z6 z1 z0 z2 z7 ze (([z2] : List ByteArray)) zf zk z8 z9 zg za) else (frame_Command.j1L x4 z3 z4 z5 z6 z1 z0 z2 z7 ze ([] : List ByteArray) zf zk z8 z9 zg za)) := by
  refine Lm.unique (frame_Command.j0Llm x4 x49 z3 z4 z5 z6 z1 z0 z2 z7 ze zf zk z8 z9 zg za) ?_
  refine Lm.step rfl (f := fun k => frame_Command.j0 (k + 1) x4 x49 z3 z4 z5 z6 z1 z0 z2 z7 ze zf zk z8 z9 zg za) (fun _ => rfl) ?_; simp only [frame_Command.j0]
  repeat' first
    | with_reducible exact frame_Command.j1Llm _ _ _ _ _ _ _ _ _ _ _ _ _ _ _ _ _
    | with_reducible exact Lm.const _
    | with_reducible refine Lm.bind ?_ (fun _ => ?_)
    | with_reducible refine Lm.ite ?_ ?_
    | refine Lm.bind ?_ (fun _ => ?_)
    | refine Lm.ite ?_ ?_
theorem frame_Command.j1L_eq (x4 : Int) (z3 : Bool) (z4 : Int) (z5 : Int) (z6 : Int) (z1 : Int) (z0 : ByteArray) (z2 : ByteArray) (z7 : ByteArray) (ze : Int) (zm : List ByteArray) (zf : Int) (zk : Int) (z8 : ByteArray) (z9 : Int) (zg : Int) (za : Bool) : frame_Command.j1L x4 z3 z4 z5 z6 z1 z0 z2 z7 ze zm zf zk z8 z9 zg za = (if (z0.size : Int) = 4 then ((frame_expiry.L z0).bind fun t369 => (frame_Command.j2L x4 4294967295 z3 z4 z5 z6 z1 z0 z2 z7 ze zm zf t369 z8 z9 zg za)) else (if (z0.size : Int) = 8 then (if 0 ≤ 4 then (if 4 ≤ (z0.size : Int) then ((frame_take.L (z0.extract 0 4)).bind fun t370 => ((frame_expiry.L (z0.extract 4 z0.size)).bind fun t371 => (frame_Command.j2L x4 4294967295 z3 z4 z5 z6 z1 z0 z2 z7 ze zm ((t370) % 4294967296) t371 z8 z9 zg za))) else (none)) else (none)) else (if (z0.size : Int) = 20 then (if 0 ≤ 8 then (if 8 ≤ (z0.size : Int) then ((frame_take.L (z0.extract 0 8)).bind fun t372 => (if 16 ≤ (z0.size : Int) then ((frame_take.L (z0.extract 16 z0.size)).bind fun t373 => (frame_Command.j2L x4 t373 z3 z4 z5 z6 z1 z0 z2 z7 ze zm zf zk z8 z9 t372 za)) else (none))) else (none)) else (none)) else (frame_Command.j2L x4 4294967295 z3 z4 z5 z6 z1 z0 z2 z7 ze zm zf zk z8 z9 zg za)))) := by
  refine Lm.unique (frame_Command.j1Llm x4 z3 z4 z5 z6 z1 z0 z2 z7 ze zm zf zk z8 z9 zg za) ?_
  refine Lm.step rfl (f := fun k => frame_Command.j1 (k + 1) x4 z3 z4 z5 z6 z1 z0 z2 z7 ze zm zf zk z8 z9 zg za) (fun _ => rfl) ?_; simp only [frame_Command.j1]
  repeat' first
    | with_reducible exact frame_Command.j2Llm _ _ _ _ _ _ _ _ _ _ _ _ _ _ _ _ _ _
    | with_reducible exact frame_expiry.Llm _
    | with_reducible exact frame_take.Llm _
    | with_reducible exact Lm.const _
    | with_reducible refine Lm.bind ?_ (fun _ => ?_)
    | with_reducible refine Lm.ite ?_ ?_
    | refine Lm.bind ?_ (fun _ => ?_)
    | refine Lm.ite ?_ ?_
theorem frame_Command.j2L_eq (x4 : Int) (x7 : Int) (z3 : Bool) (z4 : Int) (z5 : Int) (z6 : Int) (z1 : Int) (z0 : ByteArray) (z2 : ByteArray) (z7 : ByteArray) (ze : Int) (zm : List ByteArray) (zf : Int) (zk : Int) (z8 : ByteArray) (z9 : Int) (zg : Int) (za : Bool) : frame_Command.j2L x4 x7 z3 z4 z5 z6 z1 z0 z2 z7 ze zm zf zk z8 z9 zg za = (if z1 = 0 then (frame_Command.j3L x7 false ze zm zf zk z8 z9 zg za) else (if x4 = 5 then (frame_Command.j3L x7 true ze zm zf zk z8 z9 zg za) else (frame_Command.j3L x7 (x4 == 7) ze zm zf zk z8 z9 zg za))) := by
  refine Lm.unique (frame_Command.j2Llm x4 x7 z3 z4 z5 z6 z1 z0 z2 z7 ze zm zf zk z8 z9 zg za) ?_
  refine Lm.step rfl (f := fun k => frame_Command.j2 (k + 1) x4 x7 z3 z4 z5 z6 z1 z0 z2 z7 ze zm zf zk z8 z9 zg za) (fun _ => rfl) ?_; simp only [frame_Command.j2]
  repeat' first
    | with_reducible exact frame_Command.j3Llm _ _ _ _ _ _ _ _ _ _
    | with_reducible exact Lm.const _
    | with_reducible refine Lm.bind ?_ (fun _ => ?_)
    | with_reducible refine Lm.ite ?_ ?_
    | refine Lm.bind ?_ (fun _ => ?_)
    | refine Lm.ite ?_ ?_
theorem frame_Command.j3L_eq (x7 : Int) (x93 : Bool) (ze : Int) (zm : List ByteArray) (zf : Int) (zk : Int) (z8 : ByteArray) (z9 : Int) (zg : Int) (za : Bool) : frame_Command.j3L x7 x93 ze zm zf zk z8 z9 zg za = (if x93 = true then (frame_Command.j4L x7 10 zm zf zk z8 z9 zg za) else (frame_Command.j4L x7 ze zm zf zk z8 z9 zg za)) := by
  refine Lm.unique (frame_Command.j3Llm x7 x93 ze zm zf zk z8 z9 zg za) ?_
  refine Lm.step rfl (f := fun k => frame_Command.j3 (k + 1) x7 x93 ze zm zf zk z8 z9 zg za) (fun _ => rfl) ?_; simp only [frame_Command.j3]
  repeat' first
    | with_reducible exact frame_Command.j4Llm _ _ _ _ _ _ _ _ _
    | with_reducible exact Lm.const _
    | with_reducible refine Lm.bind ?_ (fun _ => ?_)
    | with_reducible refine Lm.ite ?_ ?_
    | refine Lm.bind ?_ (fun _ => ?_)
    | refine Lm.ite ?_ ?_
theorem frame_Command.j4L_eq (x7 : Int) (ze : Int) (zm : List ByteArray) (zf : Int) (zk : Int) (z8 : ByteArray) (z9 : Int) (zg : Int) (za : Bool) : frame_Command.j4L x7 ze zm zf zk z8 z9 zg za = (if x7 = 4294967295 then ((verb_Check.L ze zm zf zk z8 z9 zg za).bind fun t374 => (if t374 = 0 then (some (ze, zm, zf, zk, z8, z9, zg, za, 0)) else (some (0, ([] : List ByteArray), 0, 0, (⟨#[]⟩ : ByteArray), 0, 0, false, 6)))) else (some (0, ([] : List ByteArray), 0, 0, (⟨#[]⟩ : ByteArray), 0, 0, false, 6))) := by
  refine Lm.unique (frame_Command.j4Llm x7 ze zm zf zk z8 z9 zg za) ?_
  refine Lm.step rfl (f := fun k => frame_Command.j4 (k + 1) x7 ze zm zf zk z8 z9 zg za) (fun _ => rfl) ?_; simp only [frame_Command.j4]
  repeat' first
    | with_reducible exact verb_Check.Llm _ _ _ _ _ _ _ _
    | with_reducible exact Lm.const _
    | with_reducible refine Lm.bind ?_ (fun _ => ?_)
    | with_reducible refine Lm.ite ?_ ?_
    | refine Lm.bind ?_ (fun _ => ?_)
    | refine Lm.ite ?_ ?_
theorem frame_Command.j5L_eq (x4 : Int) (x49 : Bool) (z3 : Bool) (z4 : Int) (z5 : Int) (z6 : Int) (z1 : Int) (z0 : ByteArray) (z2 : ByteArray) (z7 : ByteArray) (zh : Int) (zi : Int) (zl : Int) (zb : ByteArray) (zc : Int) (zj : Int) (zd : Bool) : frame_Command.j5L x4 x49 z3 z4 z5 z6 z1 z0 z2 z7 zh zi zl zb zc zj zd = (if x49 = true then (frame_Command.j6L x4 z3 z4 z5 z6 z1 z0 z2 z7 zh (([z2] : List ByteArray)) zi zl zb zc zj zd) else (frame_Command.j6L x4 z3 z4 z5 z6 z1 z0 z2 z7 zh ([] : List ByteArray) zi zl zb zc zj zd)) := by
  refine Lm.unique (frame_Command.j5Llm x4 x49 z3 z4 z5 z6 z1 z0 z2 z7 zh zi zl zb zc zj zd) ?_
  refine Lm.step rfl (f := fun k => frame_Command.j5 (k + 1) x4 x49 z3 z4 z5 z6 z1 z0 z2 z7 zh zi zl zb zc zj zd) (fun _ => rfl) ?_; simp only [frame_Command.j5]
  repeat' first
    | with_reducible exact frame_Command.j6Llm _ _ _ _ _ _ _ _ _ _ _ _ _ _ _ _ _
    | with_reducible exact Lm.const _
    | with_reducible refine Lm.bind ?_ (fun _ => ?_)
    | with_reducible refine Lm.ite ?_ ?_
    | refine Lm.bind ?_ (fun _ => ?_)
    | refine Lm.ite ?_ ?_
theorem frame_Command.j6L_eq (x4 : Int) (z3 : Bool) (z4 : Int) (z5 : Int) (z6 : Int) (z1 : Int) (z0 : ByteArray) (z2 : ByteArray) (z7 : ByteArray) (zh : Int) (zn : List ByteArray) (zi : Int) (zl : Int) (zb : ByteArray) (zc : Int) (zj : Int) (zd : Bool) : frame_Command.j6L x4 z3 z4 z5 z6 z1 z0 z2 z7 zh zn zi zl zb zc zj zd = (if (z0.size : Int) = 4 then ((frame_expiry.L z0).bind fun t379 => (frame_Command.j7L x4 4294967295 z3 z4 z5 z6 z1 z0 z2 z7 zh zn zi t379 zb zc zj zd)) else (if (z0.size : Int) = 8 then (if 0 ≤ 4 then (if 4 ≤ (z0.size : Int) then ((frame_take.L (z0.extract 0 4)).bind fun t380 => ((frame_expiry.L (z0.extract 4 z0.size)).bind fun t381 => (frame_Command.j7L x4 4294967295 z3 z4 z5 z6 z1 z0 z2 z7 zh zn ((t380) % 4294967296) t381 zb zc zj zd))) else (none)) else (none)) else (if (z0.size : Int) = 20 then (if 0 ≤ 8 then (if 8 ≤ (z0.size : Int) then ((frame_take.L (z0.extract 0 8)).bind fun t382 => (if 16 ≤ (z0.size : Int) then ((frame_take.L (z0.extract 16 z0.size)).bind fun t383 => (frame_Command.j7L x4 t383 z3 z4 z5 z6 z1 z0 z2 z7 zh zn zi zl zb zc t382 zd)) else (none))) else (none)) else (none)) else (frame_Command.j7L x4 4294967295 z3 z4 z5 z6 z1 z0 z2 z7 zh zn zi zl zb zc zj zd)))) := by
  refine Lm.unique (frame_Command.j6Llm x4 z3 z4 z5 z6 z1 z0 z2 z7 zh zn zi zl zb zc zj zd) ?_
  refine Lm.step rfl (f := fun k => frame_Command.j6 (k + 1) x4 z3 z4 z5 z6 z1 z0 z2 z7 zh zn zi zl zb zc zj zd) (fun _ => rfl) ?_; simp only [frame_Command.j6]
  repeat' first
    | with_reducible exact frame_Command.j7Llm _ _ _ _ _ _ _ _ _ _ _ _ _ _ _ _ _ _
    | with_reducible exact frame_expiry.Llm _
    | with_reducible exact frame_take.Llm _
    | with_reducible exact Lm.const _
    | with_reducible refine Lm.bind ?_ (fun _ => ?_)
    | with_reducible refine Lm.ite ?_ ?_
    | refine Lm.bind ?_ (fun _ => ?_)
    | refine Lm.ite ?_ ?_
theorem frame_Command.j7L_eq (x4 : Int) (x7 : Int) (z3 : Bool) (z4 : Int) (z5 : Int) (z6 : Int) (z1 : Int) (z0 : ByteArray) (z2 : ByteArray) (z7 : ByteArray) (zh : Int) (zn : List ByteArray) (zi : Int) (zl : Int) (zb : ByteArray) (zc : Int) (zj : Int) (zd : Bool) : frame_Command.j7L x4 x7 z3 z4 z5 z6 z1 z0 z2 z7 zh zn zi zl zb zc zj zd = (if z1 = 0 then (frame_Command.j8L x7 false zh zn zi zl zb zc zj zd) else (if x4 = 5 then (frame_Command.j8L x7 true zh zn zi zl zb zc zj zd) else (frame_Command.j8L x7 (x4 == 7) zh zn zi zl zb zc zj zd))) := by
  refine Lm.unique (frame_Command.j7Llm x4 x7 z3 z4 z5 z6 z1 z0 z2 z7 zh zn zi zl zb zc zj zd) ?_
  refine Lm.step rfl (f := fun k => frame_Command.j7 (k + 1) x4 x7 z3 z4 z5 z6 z1 z0 z2 z7 zh zn zi zl zb zc zj zd) (fun _ => rfl) ?_; simp only [frame_Command.j7]
  repeat' first
    | with_reducible exact frame_Command.j8Llm _ _ _ _ _ _ _ _ _ _
    | with_reducible exact Lm.const _
    | with_reducible refine Lm.bind ?_ (fun _ => ?_)
    | with_reducible refine Lm.ite ?_ ?_
    | refine Lm.bind ?_ (fun _ => ?_)
    | refine Lm.ite ?_ ?_
theorem frame_Command.j8L_eq (x7 : Int) (x93 : Bool) (zh : Int) (zn : List ByteArray) (zi : Int) (zl : Int) (zb : ByteArray) (zc : Int) (zj : Int) (zd : Bool) : frame_Command.j8L x7 x93 zh zn zi zl zb zc zj zd = (if x93 = true then (frame_Command.j9L x7 10 zn zi zl zb zc zj zd) else (frame_Command.j9L x7 zh zn zi zl zb zc zj zd)) := by
  refine Lm.unique (frame_Command.j8Llm x7 x93 zh zn zi zl zb zc zj zd) ?_
  refine Lm.step rfl (f := fun k => frame_Command.j8 (k + 1) x7 x93 zh zn zi zl zb zc zj zd) (fun _ => rfl) ?_; simp only [frame_Command.j8]
  repeat' first
    | with_reducible exact frame_Command.j9Llm _ _ _ _ _ _ _ _ _
    | with_reducible exact Lm.const _
    | with_reducible refine Lm.bind ?_ (fun _ => ?_)
    | with_reducible refine Lm.ite ?_ ?_
    | refine Lm.bind ?_ (fun _ => ?_)
    | refine Lm.ite ?_ ?_
theorem frame_Command.j9L_eq (x7 : Int) (zh : Int) (zn : List ByteArray) (zi : Int) (zl : Int) (zb : ByteArray) (zc : Int) (zj : Int) (zd : Bool) : frame_Command.j9L x7 zh zn zi zl zb zc zj zd = (if x7 = 4294967295 then ((verb_Check.L zh zn zi zl zb zc zj zd).bind fun t384 => (if t384 = 0 then (some (zh, zn, zi, zl, zb, zc, zj, zd, 0)) else (some (0, ([] : List ByteArray), 0, 0, (⟨#[]⟩ : ByteArray), 0, 0, false, 6)))) else (some (0, ([] : List ByteArray), 0, 0, (⟨#[]⟩ : ByteArray), 0, 0, false, 6))) := by
  refine Lm.unique (frame_Command.j9Llm x7 zh zn zi zl zb zc zj zd) ?_
  refine Lm.step rfl (f := fun k => frame_Command.j9 (k + 1) x7 zh zn zi zl zb zc zj zd) (fun _ => rfl) ?_; simp only [frame_Command.j9]
  repeat' first
    | with_reducible exact verb_Check.Llm _ _ _ _ _ _ _ _
    | with_reducible exact Lm.const _
    | with_reducible refine Lm.bind ?_ (fun _ => ?_)
    | with_reducible refine Lm.ite ?_ ?_
    | refine Lm.bind ?_ (fun _ => ?_)
    | refine Lm.ite ?_ ?_
theorem frame_Command.L_eq (a0_0 : Bool) (a0_1 : Int) (a0_2 : Int) (a0_3 : Int) (a0_4 : Int) (a0_5 : ByteArray) (a0_6 : ByteArray) (a0_7 : ByteArray) : frame_Command.L a0_0 a0_1 a0_2 a0_3 a0_4 a0_5 a0_6 a0_7 = ((frame_find.L a0_1).bind fun bt361 => (if a0_0 = true then (some (0, ([] : List ByteArray), 0, 0, (⟨#[]⟩ : ByteArray), 0, 0, false, 5)) else (if bt361.1 = 0 then (some (0, ([] : List ByteArray), 0, 0, (⟨#[]⟩ : ByteArray), 0, 0, false, 70)) else ((frame_extras.L bt361.1).bind fun t363 => (if (a0_5.size : Int) = t363 then (if bt361.2 = true then ((frame_reads.f bt361.1).bind fun t364 => (if bt361.1 = 15 then (frame_Command.j0L bt361.1 (a0_6.toList != ([] : List UInt8)) a0_0 a0_1 a0_2 a0_3 a0_4 a0_5 a0_6 a0_7 bt361.1 0 0 a0_7 a0_4 0 (!t364)) else (frame_Command.j0L bt361.1 true a0_0 a0_1 a0_2 a0_3 a0_4 a0_5 a0_6 a0_7 bt361.1 0 0 a0_7 a0_4 0 (!t364)))) else (if bt361.1 = 15 then (frame_Command.j5L bt361.1 (a0_6.toList != ([] : List UInt8)) a0_0 a0_1 a0_2 a0_3 a0_4 a0_5 a0_6 a0_7 bt361.1 0 0 a0_7 a0_4 0 false) else (frame_Command.j5L bt361.1 true a0_0 a0_1 a0_2 a0_3 a0_4 a0_5 a0_6 a0_7 bt361.1 0 0 a0_7 a0_4 0 false))) else (some (0, ([] : List ByteArray), 0, 0, (⟨#[]⟩ : ByteArray), 0, 0, false, 6))))))) := by
  refine Lm.unique (frame_Command.Llm a0_0 a0_1 a0_2 a0_3 a0_4 a0_5 a0_6 a0_7) ?_
  unfold frame_Command.f
  repeat' first
    | with_reducible exact frame_Command.j0Llm _ _ _ _ _ _ _ _ _ _ _ _ _ _ _ _ _
    | with_reducible exact frame_Command.j5Llm _ _ _ _ _ _ _ _ _ _ _ _ _ _ _ _ _
    | with_reducible exact frame_extras.Llm _
    | with_reducible exact frame_find.Llm _
    | with_reducible exact Lm.const _
    | with_reducible refine Lm.bind ?_ (fun _ => ?_)
    | with_reducible refine Lm.ite ?_ ?_
    | refine Lm.bind ?_ (fun _ => ?_)
    | refine Lm.ite ?_ ?_
theorem frame_plain.j0L_eq (x3 : Bool) (z8 : Int) (x421001 : List ByteArray) (x421002 : Int) (x421003 : Int) (x421004 : ByteArray) (x421005 : Int) (x421006 : Int) (z9 : Bool) : frame_plain.j0L x3 z8 x421001 x421002 x421003 x421004 x421005 x421006 z9 = (if x3 = true then (some false) else (if z8 = 4 then (some false) else (if z8 = 14 then (some (!z9)) else (if z8 = 10 then (if z9 = true then (some false) else (some (x421005 != 0))) else (some true))))) := by
  refine Lm.unique (frame_plain.j0Llm x3 z8 x421001 x421002 x421003 x421004 x421005 x421006 z9) ?_
  refine Lm.step rfl (f := fun k => frame_plain.j0 (k + 1) x3 z8 x421001 x421002 x421003 x421004 x421005 x421006 z9) (fun _ => rfl) ?_; simp only [frame_plain.j0]
  repeat' first
    | with_reducible exact Lm.const _
    | with_reducible refine Lm.bind ?_ (fun _ => ?_)
    | with_reducible refine Lm.ite ?_ ?_
    | refine Lm.bind ?_ (fun _ => ?_)
    | refine Lm.ite ?_ ?_
theorem frame_plain.L_eq (a0_0 : Int) (l0_1 : List ByteArray) (a0_2 : Int) (a0_3 : Int) (a0_4 : ByteArray) (a0_5 : Int) (a0_6 : Int) (a0_7 : Bool) : frame_plain.L a0_0 l0_1 a0_2 a0_3 a0_4 a0_5 a0_6 a0_7 = (if a0_3 < (-2147483648) then (frame_plain.j0L (decide (a0_3 < (-2147483648))) a0_0 l0_1 a0_2 a0_3 a0_4 a0_5 a0_6 a0_7) else (if a0_3 > 2147483647 then (frame_plain.j0L (decide (a0_3 > 2147483647)) a0_0 l0_1 a0_2 a0_3 a0_4 a0_5 a0_6 a0_7) else (frame_plain.j0L (decide ((l0_1.length : Int) > 1)) a0_0 l0_1 a0_2 a0_3 a0_4 a0_5 a0_6 a0_7))) := by
  refine Lm.unique (frame_plain.Llm a0_0 l0_1 a0_2 a0_3 a0_4 a0_5 a0_6 a0_7) ?_
  unfold frame_plain.f
  repeat' first
    | with_reducible exact frame_plain.j0Llm _ _ _ _ _ _ _ _ _
    | with_reducible exact Lm.const _
    | with_reducible refine Lm.bind ?_ (fun _ => ?_)
    | with_reducible refine Lm.ite ?_ ?_
    | refine Lm.bind ?_ (fun _ => ?_)
    | refine Lm.ite ?_ ?_
theorem frame_asks.j0L_eq (x3 : Int) (z1 : Int) (z2 : List ByteArray) (z3 : Int) (z4 : Int) (z5 : ByteArray) (z6 : Int) (z7 : Int) (z0 : Bool) : frame_asks.j0L x3 z1 z2 z3 z4 z5 z6 z7 z0 = ((frame_table.f).bind fun t422 => (frame_asks.l0L x3 t422 (t422.length : Int) 0 z1 z2 z3 z4 z5 z6 z7 z0)) := by
  refine Lm.unique (frame_asks.j0Llm x3 z1 z2 z3 z4 z5 z6 z7 z0) ?_
  refine Lm.step rfl (f := fun k => frame_asks.j0 (k + 1) x3 z1 z2 z3 z4 z5 z6 z7 z0) (fun _ => rfl) ?_; simp only [frame_asks.j0]
  repeat' first
    | with_reducible exact frame_asks.l0Llm _ _ _ _ _ _ _ _ _ _ _ _
    | with_reducible exact Lm.const _
    | with_reducible refine Lm.bind ?_ (fun _ => ?_)
    | with_reducible refine Lm.ite ?_ ?_
    | refine Lm.bind ?_ (fun _ => ?_)
    | refine Lm.ite ?_ ?_
theorem frame_asks.l0L_eq (x3 : Int) (x10 : List (S112)) (x11 : Int) (x12 : Int) (z1 : Int) (z2 : List ByteArray) (z3 : Int) (z4 : Int) (z5 : ByteArray) (z6 : Int) (z7 : Int) (z0 : Bool) : frame_asks.l0L x3 x10 x11 x12 z1 z2 z3 z4 z5 z6 z7 z0 = (if x12 < x11 then (if 0 ≤ x12 then (if x12 < (x10.length : Int) then (if ((rd_T112 x10 x12).f2) = x3 then (frame_asks.j2L x3 x10 x11 x12 z0 z1 z2 z3 z4 z5 z6 z7 z0 ((rd_T112 x10 x12).f0) ((rd_T112 x10 x12).f1) ((rd_T112 x10 x12).f2)) else (frame_asks.j2L x3 x10 x11 x12 false z1 z2 z3 z4 z5 z6 z7 z0 ((rd_T112 x10 x12).f0) ((rd_T112 x10 x12).f1) ((rd_T112 x10 x12).f2))) else (none)) else (none)) else (some 0)) := by
  refine Lm.unique (frame_asks.l0Llm x3 x10 x11 x12 z1 z2 z3 z4 z5 z6 z7 z0) ?_
  refine Lm.step rfl (f := fun k => frame_asks.l0 (k + 1) x3 x10 x11 x12 z1 z2 z3 z4 z5 z6 z7 z0) (fun _ => rfl) ?_; simp only [frame_asks.l0]
  repeat' first
    | with_reducible exact frame_asks.j2Llm _ _ _ _ _ _ _ _ _ _ _ _ _ _ _ _
    | with_reducible exact Lm.const _
    | with_reducible refine Lm.bind ?_ (fun _ => ?_)
    | with_reducible refine Lm.ite ?_ ?_
    | refine Lm.bind ?_ (fun _ => ?_)
    | refine Lm.ite ?_ ?_
theorem frame_asks.j2L_eq (x3 : Int) (x10 : List (S112)) (x11 : Int) (x12 : Int) (x23 : Bool) (z1 : Int) (z2 : List ByteArray) (z3 : Int) (z4 : Int) (z5 : ByteArray) (z6 : Int) (z7 : Int) (z0 : Bool) (x427000 : Int) (x427001 : Int) (x427002 : Int) : frame_asks.j2L x3 x10 x11 x12 x23 z1 z2 z3 z4 z5 z6 z7 z0 x427000 x427001 x427002 = (if x23 = true then (some x427001) else (if x427002 = x3 then (some x427000) else (frame_asks.l0L x3 x10 x11 (wrap64 (x12 + 1)) z1 z2 z3 z4 z5 z6 z7 z0))) := by
  refine Lm.unique (frame_asks.j2Llm x3 x10 x11 x12 x23 z1 z2 z3 z4 z5 z6 z7 z0 x427000 x427001 x427002) ?_
  refine Lm.step rfl (f := fun k => frame_asks.j2 (k + 1) x3 x10 x11 x12 x23 z1 z2 z3 z4 z5 z6 z7 z0 x427000 x427001 x427002) (fun _ => rfl) ?_; simp only [frame_asks.j2]
  repeat' first
    | with_reducible exact frame_asks.l0Llm _ _ _ _ _ _ _ _ _ _ _ _
    | with_reducible exact Lm.const _
    | with_reducible refine Lm.bind ?_ (fun _ => ?_)
    | with_reducible refine Lm.ite ?_ ?_
    | refine Lm.bind ?_ (fun _ => ?_)
    | refine Lm.ite ?_ ?_
theorem frame_asks.L_eq (a0_0 : Int) (l0_1 : List ByteArray) (a0_2 : Int) (a0_3 : Int) (a0_4 : ByteArray) (a0_5 : Int) (a0_6 : Int) (a0_7 : Bool) : frame_asks.L a0_0 l0_1 a0_2 a0_3 a0_4 a0_5 a0_6 a0_7 = (if a0_0 = 10 then (frame_asks.j0L 5 a0_0 l0_1 a0_2 a0_3 a0_4 a0_5 a0_6 a0_7) else (frame_asks.j0L a0_0 a0_0 l0_1 a0_2 a0_3 a0_4 a0_5 a0_6 a0_7)) := by
  refine Lm.unique (frame_asks.Llm a0_0 l0_1 a0_2 a0_3 a0_4 a0_5 a0_6 a0_7) ?_
  unfold frame_asks.f
  repeat' first
    | with_reducible exact frame_asks.j0Llm _ _ _ _ _ _ _ _ _
    | with_reducible exact Lm.const _
    | with_reducible refine Lm.bind ?_ (fun _ => ?_)
    | with_reducible refine Lm.ite ?_ ?_
    | refine Lm.bind ?_ (fun _ => ?_)
    | refine Lm.ite ?_ ?_
theorem frame_Request.L_eq (a0_0 : Int) (l0_1 : List ByteArray) (a0_2 : Int) (a0_3 : Int) (a0_4 : ByteArray) (a0_5 : Int) (a0_6 : Int) (a0_7 : Bool) (a1 : Int) : frame_Request.L a0_0 l0_1 a0_2 a0_3 a0_4 a0_5 a0_6 a0_7 a1 = ((verb_Check.L a0_0 l0_1 a0_2 a0_3 a0_4 a0_5 a0_6 a0_7).bind fun t430 => (if t430 = 0 then ((frame_plain.L a0_0 l0_1 a0_2 a0_3 a0_4 a0_5 a0_6 a0_7).bind fun t431 => (if t431 = true then ((frame_asks.L a0_0 l0_1 a0_2 a0_3 a0_4 a0_5 a0_6 a0_7).bind fun t432 => ((strings_Join.f l0_1 (⟨#[]⟩ : ByteArray)).bind fun t433 => ((frame_number.L ((wrap32 (a0_3)) % 4294967296) 4).bind fun t435 => ((frame_extras.L a0_0).bind fun t436 => (if t436 = 4 then (some (false, t432, 0, a1, a0_5, t435, t433, a0_4, 0)) else (if t436 = 8 then ((frame_number.L (IntKind.u64.wrap (a0_2)) 4).bind fun t437 => (if t437.size + t435.size ≤ 9223372036854775807 then (some (false, t432, 0, a1, a0_5, t437 ++ t435, t433, a0_4, 0)) else (none))) else (if t436 = 20 then ((frame_number.L a0_6 8).bind fun t438 => ((frame_number.L 0 8).bind fun t439 => (if t438.size + t439.size ≤ 9223372036854775807 then ((frame_number.L 4294967295 4).bind fun t440 => (if (t438 ++ t439).size + t440.size ≤ 9223372036854775807 then (some (false, t432, 0, a1, a0_5, (t438 ++ t439) ++ t440, t433, a0_4, 0)) else (none))) else (none)))) else (some (false, t432, 0, a1, a0_5, (⟨#[]⟩ : ByteArray), t433, a0_4, 0))))))))) else (some (false, 0, 0, 0, 0, (⟨#[]⟩ : ByteArray), (⟨#[]⟩ : ByteArray), (⟨#[]⟩ : ByteArray), 6)))) else (some (false, 0, 0, 0, 0, (⟨#[]⟩ : ByteArray), (⟨#[]⟩ : ByteArray), (⟨#[]⟩ : ByteArray), t430)))) := by
  refine Lm.unique (frame_Request.Llm a0_0 l0_1 a0_2 a0_3 a0_4 a0_5 a0_6 a0_7 a1) ?_
  unfold frame_Request.f
  repeat' first
    | with_reducible exact frame_number.Llm _ _
    | with_reducible exact frame_extras.Llm _
    | with_reducible exact frame_plain.Llm _ _ _ _ _ _ _ _
    | with_reducible exact frame_asks.Llm _ _ _ _ _ _ _ _
    | with_reducible exact verb_Check.Llm _ _ _ _ _ _ _ _
    | with_reducible exact Lm.const _
    | with_reducible refine Lm.bind ?_ (fun _ => ?_)
    | with_reducible refine Lm.ite ?_ ?_
    | refine Lm.bind ?_ (fun _ => ?_)
    | refine Lm.ite ?_ ?_
theorem tallboyref17_SameCommands.l0L_eq (x5 : Int) (z2 : Int) (z0 : List ByteArray) (z3 : Int) (z4 : Int) (z5 : ByteArray) (z6 : Int) (z7 : Int) (z8 : Bool) (z9 : Int) (z1 : List ByteArray) (za : Int) (zb : Int) (zc : ByteArray) (zd : Int) (ze : Int) (zf : Bool) : tallboyref17_SameCommands.l0L x5 z2 z0 z3 z4 z5 z6 z7 z8 z9 z1 za zb zc zd ze zf = (if x5 < (z0.length : Int) then (if 0 ≤ x5 then (if x5 < (z1.length : Int) then (if (rdOf ByteArray.empty z0 x5).toList = (rdOf ByteArray.empty z1 x5).toList then (tallboyref17_SameCommands.l0L (wrap64 (x5 + 1)) z2 z0 z3 z4 z5 z6 z7 z8 z9 z1 za zb zc zd ze zf) else (some false)) else (none)) else (none)) else (if z2 = z9 then (if z3 = za then (if z4 = zb then (if z5.toList = zc.toList then (if z6 = zd then (if z7 = ze then (some (z8 == zf)) else (some false)) else (some false)) else (some false)) else (some false)) else (some false)) else (some false))) := by
  refine Lm.unique (tallboyref17_SameCommands.l0Llm x5 z2 z0 z3 z4 z5 z6 z7 z8 z9 z1 za zb zc zd ze zf) ?_
  refine Lm.step rfl (f := fun k => tallboyref17_SameCommands.l0 (k + 1) x5 z2 z0 z3 z4 z5 z6 z7 z8 z9 z1 za zb zc zd ze zf) (fun _ => rfl) ?_; simp only [tallboyref17_SameCommands.l0]
  repeat' first
    | with_reducible exact tallboyref17_SameCommands.l0Llm _ _ _ _ _ _ _ _ _ _ _ _ _ _ _ _ _
    | with_reducible exact Lm.const _
    | with_reducible refine Lm.bind ?_ (fun _ => ?_)
    | with_reducible refine Lm.ite ?_ ?_
    | refine Lm.bind ?_ (fun _ => ?_)
    | refine Lm.ite ?_ ?_
theorem tallboyref17_SameCommands.L_eq (a0_0 : Int) (l0_1 : List ByteArray) (a0_2 : Int) (a0_3 : Int) (a0_4 : ByteArray) (a0_5 : Int) (a0_6 : Int) (a0_7 : Bool) (a1_0 : Int) (l1_1 : List ByteArray) (a1_2 : Int) (a1_3 : Int) (a1_4 : ByteArray) (a1_5 : Int) (a1_6 : Int) (a1_7 : Bool) : tallboyref17_SameCommands.L a0_0 l0_1 a0_2 a0_3 a0_4 a0_5 a0_6 a0_7 a1_0 l1_1 a1_2 a1_3 a1_4 a1_5 a1_6 a1_7 = (if (l0_1.length : Int) = (l1_1.length : Int) then (tallboyref17_SameCommands.l0L 0 a0_0 l0_1 a0_2 a0_3 a0_4 a0_5 a0_6 a0_7 a1_0 l1_1 a1_2 a1_3 a1_4 a1_5 a1_6 a1_7) else (some false)) := by
  refine Lm.unique (tallboyref17_SameCommands.Llm a0_0 l0_1 a0_2 a0_3 a0_4 a0_5 a0_6 a0_7 a1_0 l1_1 a1_2 a1_3 a1_4 a1_5 a1_6 a1_7) ?_
  unfold tallboyref17_SameCommands.f
  repeat' first
    | with_reducible exact tallboyref17_SameCommands.l0Llm _ _ _ _ _ _ _ _ _ _ _ _ _ _ _ _ _
    | with_reducible exact Lm.const _
    | with_reducible refine Lm.bind ?_ (fun _ => ?_)
    | with_reducible refine Lm.ite ?_ ?_
    | refine Lm.bind ?_ (fun _ => ?_)
    | refine Lm.ite ?_ ?_
end Go.Proofs.Ytdepkgikdmlgiaa.P
