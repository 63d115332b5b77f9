/- The limits of the functions with rounds, and the equations that reckon them. Plain Lean; no condition. Written by a program. -/
import Derived.Test.YtdepkgikdmlgiaaLim
import Derived.Test.YtdepkgikdmlgiaaPx13
import Derived.Test.YtdepkgikdmlgiaaPx14
import Derived.Test.YtdepkgikdmlgiaaPx16
import Derived.Test.YtdepkgikdmlgiaaPx17
import Derived.Test.YtdepkgikdmlgiaaPx18
import Derived.Test.YtdepkgikdmlgiaaPx3
import Derived.Test.YtdepkgikdmlgiaaPx5
namespace Go.Proofs.Ytdepkgikdmlgiaa.P
open Go.RowKit Go.Proofs.Ytdepkgikdmlgiaa.Lim Go.Proofs.YtdepkgikdmlgiaaW.PrintWords Go.Proofs.YtdepkgikdmlgiaaW.PrintLast Go.Proofs.YtdepkgikdmlgiaaW.PrintMore
set_option linter.unusedVariables false

noncomputable def tallboylaw18_Great.l0L (x3 : Int) (x4 : Int) (x212000 : Int) (z0 : List (S97)) (x212002 : Int) : Option (Bool) := lim (fun k => tallboylaw18_Great.l0 k x3 x4 x212000 z0 x212002)
theorem tallboylaw18_Great.l0Llm (x3 : Int) (x4 : Int) (x212000 : Int) (z0 : List (S97)) (x212002 : Int) : Lm (fun k => tallboylaw18_Great.l0 k x3 x4 x212000 z0 x212002) (tallboylaw18_Great.l0L x3 x4 x212000 z0 x212002) := lim_spec (fun k => (tallboylaw18_Great.mono_l k) _ _ _ _ _)
noncomputable def tallboylaw18_Great.L (a0_0 : Int) (l0_1 : List (S97)) (a0_2 : Int) : Option (Bool) := lim (fun k => tallboylaw18_Great.f k a0_0 l0_1 a0_2)
theorem tallboylaw18_Great.Llm (a0_0 : Int) (l0_1 : List (S97)) (a0_2 : Int) : Lm (fun k => tallboylaw18_Great.f k a0_0 l0_1 a0_2) (tallboylaw18_Great.L a0_0 l0_1 a0_2) := lim_spec (fun k => tallboylaw18_Great.mono a0_0 l0_1 a0_2 k)
noncomputable def frame_find.L (a0 : Int) : Option (Int × Bool) := lim (fun k => frame_find.f k a0)
theorem frame_find.Llm (a0 : Int) : Lm (fun k => frame_find.f k a0) (frame_find.L a0) := lim_spec (fun k => frame_find.mono a0 k)
noncomputable def frame_status.j0L (x3 : Int) (x4 : Bool) : Option (Int) := lim (fun k => frame_status.j0 k x3 x4)
theorem frame_status.j0Llm (x3 : Int) (x4 : Bool) : Lm (fun k => frame_status.j0 k x3 x4) (frame_status.j0L x3 x4) := lim_spec (fun k => (frame_status.mono_l k).1 _ _)
noncomputable def frame_status.j1L (x3 : Int) (x10 : Bool) : Option (Int) := lim (fun k => frame_status.j1 k x3 x10)
theorem frame_status.j1Llm (x3 : Int) (x10 : Bool) : Lm (fun k => frame_status.j1 k x3 x10) (frame_status.j1L x3 x10) := lim_spec (fun k => (frame_status.mono_l k).2 _ _)
noncomputable def frame_status.L (a0 : Int) : Option (Int) := lim (fun k => frame_status.f k a0)
theorem frame_status.Llm (a0 : Int) : Lm (fun k => frame_status.f k a0) (frame_status.L a0) := lim_spec (fun k => frame_status.mono a0 k)
noncomputable def frame_number.L (a0 : Int) (a1 : Int) : Option (ByteArray) := lim (fun k => frame_number.f k a0 a1)
theorem frame_number.Llm (a0 : Int) (a1 : Int) : Lm (fun k => frame_number.f k a0 a1) (frame_number.L a0 a1) := lim_spec (fun k => frame_number.mono a0 a1 k)
noncomputable def frame_Reply.j0L (x2 : Int) (x8 : Int) (x9 : Bool) (x11 : Bool) (zc : Bool) (zd : Int) (ze : Int) (zf : Int) (zg : Int) (zh : ByteArray) (za : ByteArray) (zi : ByteArray) (z9 : Int) (z6 : List (S102)) (zb : Int) (z1 : Bool) (z2 : Int) (z0 : Int) (z3 : Int) (z7 : Int) (z4 : ByteArray) (z8 : ByteArray) (z5 : ByteArray) : Option (Bool × Int × Int × Int × Int × ByteArray × ByteArray × ByteArray × Bool) := lim (fun k => frame_Reply.j0 k x2 x8 x9 x11 zc zd ze zf zg zh za zi z9 z6 zb z1 z2 z0 z3 z7 z4 z8 z5)
theorem frame_Reply.j0Llm (x2 : Int) (x8 : Int) (x9 : Bool) (x11 : Bool) (zc : Bool) (zd : Int) (ze : Int) (zf : Int) (zg : Int) (zh : ByteArray) (za : ByteArray) (zi : ByteArray) (z9 : Int) (z6 : List (S102)) (zb : Int) (z1 : Bool) (z2 : Int) (z0 : Int) (z3 : Int) (z7 : Int) (z4 : ByteArray) (z8 : ByteArray) (z5 : ByteArray) : Lm (fun k => frame_Reply.j0 k x2 x8 x9 x11 zc zd ze zf zg zh za zi z9 z6 zb z1 z2 z0 z3 z7 z4 z8 z5) (frame_Reply.j0L x2 x8 x9 x11 zc zd ze zf zg zh za zi z9 z6 zb z1 z2 z0 z3 z7 z4 z8 z5) := lim_spec (fun k => (frame_Reply.mono_l k).1 _ _ _ _ _ _ _ _ _ _ _ _ _ _ _ _ _ _ _ _ _ _ _)
noncomputable def frame_Reply.j3L (x2 : Int) (x8 : Int) (x11 : Bool) (zc : Bool) (zd : Int) (ze : Int) (zf : Int) (zg : Int) (zh : ByteArray) (za : ByteArray) (zi : ByteArray) (z9 : Int) (z6 : List (S102)) (zb : Int) (z1 : Bool) (z2 : Int) (z0 : Int) (z3 : Int) (z7 : Int) (z4 : ByteArray) (z8 : ByteArray) (z5 : ByteArray) : Option (Bool × Int × Int × Int × Int × ByteArray × ByteArray × ByteArray × Bool) := lim (fun k => frame_Reply.j3 k x2 x8 x11 zc zd ze zf zg zh za zi z9 z6 zb z1 z2 z0 z3 z7 z4 z8 z5)
theorem frame_Reply.j3Llm (x2 : Int) (x8 : Int) (x11 : Bool) (zc : Bool) (zd : Int) (ze : Int) (zf : Int) (zg : Int) (zh : ByteArray) (za : ByteArray) (zi : ByteArray) (z9 : Int) (z6 : List (S102)) (zb : Int) (z1 : Bool) (z2 : Int) (z0 : Int) (z3 : Int) (z7 : Int) (z4 : ByteArray) (z8 : ByteArray) (z5 : ByteArray) : Lm (fun k => frame_Reply.j3 k x2 x8 x11 zc zd ze zf zg zh za zi z9 z6 zb z1 z2 z0 z3 z7 z4 z8 z5) (frame_Reply.j3L x2 x8 x11 zc zd ze zf zg zh za zi z9 z6 zb z1 z2 z0 z3 z7 z4 z8 z5) := lim_spec (fun k => (frame_Reply.mono_l k).2.1 _ _ _ _ _ _ _ _ _ _ _ _ _ _ _ _ _ _ _ _ _ _)
noncomputable def frame_Reply.j4L (x8 : Int) (z1 : Bool) (z2 : Int) (z0 : Int) (z3 : Int) (z7 : Int) (z4 : ByteArray) (z8 : ByteArray) (z5 : ByteArray) : Option (Bool × Int × Int × Int × Int × ByteArray × ByteArray × ByteArray × Bool) := lim (fun k => frame_Reply.j4 k x8 z1 z2 z0 z3 z7 z4 z8 z5)
theorem frame_Reply.j4Llm (x8 : Int) (z1 : Bool) (z2 : Int) (z0 : Int) (z3 : Int) (z7 : Int) (z4 : ByteArray) (z8 : ByteArray) (z5 : ByteArray) : Lm (fun k => frame_Reply.j4 k x8 z1 z2 z0 z3 z7 z4 z8 z5) (frame_Reply.j4L x8 z1 z2 z0 z3 z7 z4 z8 z5) := lim_spec (fun k => (frame_Reply.mono_l k).2.2.1 _ _ _ _ _ _ _ _ _)
noncomputable def frame_Reply.j1L (x2 : Int) (x8 : Int) (x11 : Bool) (x12 : Bool) (zc : Bool) (zd : Int) (ze : Int) (zf : Int) (zg : Int) (zh : ByteArray) (za : ByteArray) (zi : ByteArray) (z9 : Int) (z6 : List (S102)) (zb : Int) (z1 : Bool) (z2 : Int) (z0 : Int) (z3 : Int) (z7 : Int) (z4 : ByteArray) (z8 : ByteArray) (z5 : ByteArray) : Option (Bool × Int × Int × Int × Int × ByteArray × ByteArray × ByteArray × Bool) := lim (fun k => frame_Reply.j1 k x2 x8 x11 x12 zc zd ze zf zg zh za zi z9 z6 zb z1 z2 z0 z3 z7 z4 z8 z5)
theorem frame_Reply.j1Llm (x2 : Int) (x8 : Int) (x11 : Bool) (x12 : Bool) (zc : Bool) (zd : Int) (ze : Int) (zf : Int) (zg : Int) (zh : ByteArray) (za : ByteArray) (zi : ByteArray) (z9 : Int) (z6 : List (S102)) (zb : Int) (z1 : Bool) (z2 : Int) (z0 : Int) (z3 : Int) (z7 : Int) (z4 : ByteArray) (z8 : ByteArray) (z5 : ByteArray) : Lm (fun k => frame_Reply.j1 k x2 x8 x11 x12 zc zd ze zf zg zh za zi z9 z6 zb z1 z2 z0 z3 z7 z4 z8 z5) (frame_Reply.j1L x2 x8 x11 x12 zc zd ze zf zg zh za zi z9 z6 zb z1 z2 z0 z3 z7 z4 z8 z5) := lim_spec (fun k => (frame_Reply.mono_l k).2.2.2.1 _ _ _ _ _ _ _ _ _ _ _ _ _ _ _ _ _ _ _ _ _ _ _)
noncomputable def frame_Reply.j2L (x2 : Int) (x8 : Int) (x11 : Bool) (x59 : Bool) (zc : Bool) (zd : Int) (ze : Int) (zf : Int) (zg : Int) (zh : ByteArray) (za : ByteArray) (zi : ByteArray) (z9 : Int) (z6 : List (S102)) (zb : Int) (z1 : Bool) (z2 : Int) (z0 : Int) (z3 : Int) (z7 : Int) (z4 : ByteArray) (z8 : ByteArray) (z5 : ByteArray) : Option (Bool × Int × Int × Int × Int × ByteArray × ByteArray × ByteArray × Bool) := lim (fun k => frame_Reply.j2 k x2 x8 x11 x59 zc zd ze zf zg zh za zi z9 z6 zb z1 z2 z0 z3 z7 z4 z8 z5)
theorem frame_Reply.j2Llm (x2 : Int) (x8 : Int) (x11 : Bool) (x59 : Bool) (zc : Bool) (zd : Int) (ze : Int) (zf : Int) (zg : Int) (zh : ByteArray) (za : ByteArray) (zi : ByteArray) (z9 : Int) (z6 : List (S102)) (zb : Int) (z1 : Bool) (z2 : Int) (z0 : Int) (z3 : Int) (z7 : Int) (z4 : ByteArray) (z8 : ByteArray) (z5 : ByteArray) : Lm (fun k => frame_Reply.j2 k x2 x8 x11 x59 zc zd ze zf zg zh za zi z9 z6 zb z1 z2 z0 z3 z7 z4 z8 z5) (frame_Reply.j2L x2 x8 x11 x59 zc zd ze zf zg zh za zi z9 z6 zb z1 z2 z0 z3 z7 z4 z8 z5) := lim_spec (fun k => (frame_Reply.mono_l k).2.2.2.2 _ _ _ _ _ _ _ _ _ _ _ _ _ _ _ _ _ _ _ _ _ _ _)
noncomputable def frame_Reply.L (a0_0 : Bool) (a0_1 : Int) (a0_2 : Int) (a0_3 : Int) (a0_4 : Int) (a0_5 : ByteArray) (a0_6 : ByteArray) (a0_7 : ByteArray) (a1_0 : Int) (l1_1 : List (S102)) (a1_2 : Int) (a2 : Int) : Option (Bool × Int × Int × Int × Int × ByteArray × ByteArray × ByteArray × Bool) := lim (fun k => frame_Reply.f k a0_0 a0_1 a0_2 a0_3 a0_4 a0_5 a0_6 a0_7 a1_0 l1_1 a1_2 a2)
theorem frame_Reply.Llm (a0_0 : Bool) (a0_1 : Int) (a0_2 : Int) (a0_3 : Int) (a0_4 : Int) (a0_5 : ByteArray) (a0_6 : ByteArray) (a0_7 : ByteArray) (a1_0 : Int) (l1_1 : List (S102)) (a1_2 : Int) (a2 : Int) : Lm (fun k => frame_Reply.f k a0_0 a0_1 a0_2 a0_3 a0_4 a0_5 a0_6 a0_7 a1_0 l1_1 a1_2 a2) (frame_Reply.L a0_0 a0_1 a0_2 a0_3 a0_4 a0_5 a0_6 a0_7 a1_0 l1_1 a1_2 a2) := lim_spec (fun k => frame_Reply.mono a0_0 a0_1 a0_2 a0_3 a0_4 a0_5 a0_6 a0_7 a1_0 l1_1 a1_2 a2 k)
noncomputable def tallboylaw18_To.l0L (x4 : Int) (x241000 : Int) (z2 : List (S97)) (x241002 : Int) (z5 : Int) (z4 : List (S102)) (z6 : Int) : Option (Int × (List (S102)) × Int) := lim (fun k => tallboylaw18_To.l0 k x4 x241000 z2 x241002 z5 z4 z6)
theorem tallboylaw18_To.l0Llm (x4 : Int) (x241000 : Int) (z2 : List (S97)) (x241002 : Int) (z5 : Int) (z4 : List (S102)) (z6 : Int) : Lm (fun k => tallboylaw18_To.l0 k x4 x241000 z2 x241002 z5 z4 z6) (tallboylaw18_To.l0L x4 x241000 z2 x241002 z5 z4 z6) := lim_spec (fun k => (tallboylaw18_To.mono_l k) _ _ _ _ _ _ _)
noncomputable def tallboylaw18_To.L (a0_0 : Int) (l0_1 : List (S97)) (a0_2 : Int) : Option (Int × (List (S102)) × Int) := lim (fun k => tallboylaw18_To.f k a0_0 l0_1 a0_2)
theorem tallboylaw18_To.Llm (a0_0 : Int) (l0_1 : List (S97)) (a0_2 : Int) : Lm (fun k => tallboylaw18_To.f k a0_0 l0_1 a0_2) (tallboylaw18_To.L a0_0 l0_1 a0_2) := lim_spec (fun k => tallboylaw18_To.mono a0_0 l0_1 a0_2 k)
noncomputable def tallboyref29_op.L (a0 : Int) : Option (Int × Bool) := lim (fun k => tallboyref29_op.f k a0)
theorem tallboyref29_op.Llm (a0 : Int) : Lm (fun k => tallboyref29_op.f k a0) (tallboyref29_op.L a0) := lim_spec (fun k => tallboyref29_op.mono a0 k)
noncomputable def tallboyref29_Reply.j0L (x2 : Int) (x8 : Int) (x9 : Bool) (x10 : Bool) (x11 : Bool) (zc : Bool) (z5 : Int) (zd : Int) (z6 : Int) (ze : Int) (zf : ByteArray) (z9 : ByteArray) (zg : ByteArray) (z0 : Int) (z1 : List (S97)) (za : Int) : Option (Bool × Int × Int × Int × Int × ByteArray × ByteArray × ByteArray × Bool) := lim (fun k => tallboyref29_Reply.j0 k x2 x8 x9 x10 x11 zc z5 zd z6 ze zf z9 zg z0 z1 za)
theorem tallboyref29_Reply.j0Llm (x2 : Int) (x8 : Int) (x9 : Bool) (x10 : Bool) (x11 : Bool) (zc : Bool) (z5 : Int) (zd : Int) (z6 : Int) (ze : Int) (zf : ByteArray) (z9 : ByteArray) (zg : ByteArray) (z0 : Int) (z1 : List (S97)) (za : Int) : Lm (fun k => tallboyref29_Reply.j0 k x2 x8 x9 x10 x11 zc z5 zd z6 ze zf z9 zg z0 z1 za) (tallboyref29_Reply.j0L x2 x8 x9 x10 x11 zc z5 zd z6 ze zf z9 zg z0 z1 za) := lim_spec (fun k => (tallboyref29_Reply.mono_l k).1 _ _ _ _ _ _ _ _ _ _ _ _ _ _ _ _)
noncomputable def tallboyref29_Reply.j1L (x2 : Int) (x8 : Int) (x11 : Bool) (x65 : Bool) (zc : Bool) (z5 : Int) (zd : Int) (z6 : Int) (ze : Int) (zf : ByteArray) (z9 : ByteArray) (zg : ByteArray) (z0 : Int) (z1 : List (S97)) (za : Int) : Option (Bool × Int × Int × Int × Int × ByteArray × ByteArray × ByteArray × Bool) := lim (fun k => tallboyref29_Reply.j1 k x2 x8 x11 x65 zc z5 zd z6 ze zf z9 zg z0 z1 za)
theorem tallboyref29_Reply.j1Llm (x2 : Int) (x8 : Int) (x11 : Bool) (x65 : Bool) (zc : Bool) (z5 : Int) (zd : Int) (z6 : Int) (ze : Int) (zf : ByteArray) (z9 : ByteArray) (zg : ByteArray) (z0 : Int) (z1 : List (S97)) (za : Int) : Lm (fun k => tallboyref29_Reply.j1 k x2 x8 x11 x65 zc z5 zd z6 ze zf z9 zg z0 z1 za) (tallboyref29_Reply.j1L x2 x8 x11 x65 zc z5 zd z6 ze zf z9 zg z0 z1 za) := lim_spec (fun k => (tallboyref29_Reply.mono_l k).2.1 _ _ _ _ _ _ _ _ _ _ _ _ _ _ _)
noncomputable def tallboyref29_Reply.j2L (x2 : Int) (x8 : Int) (x11 : Bool) (x73 : Bool) (zc : Bool) (z5 : Int) (zd : Int) (z6 : Int) (ze : Int) (zf : ByteArray) (z9 : ByteArray) (zg : ByteArray) (z0 : Int) (z1 : List (S97)) (za : Int) (z2 : Bool) (z3 : Int) (zi : Int) (z4 : Int) (zh : Int) (z7 : ByteArray) (z8 : ByteArray) (zb : ByteArray) : Option (Bool × Int × Int × Int × Int × ByteArray × ByteArray × ByteArray × Bool) := lim (fun k => tallboyref29_Reply.j2 k x2 x8 x11 x73 zc z5 zd z6 ze zf z9 zg z0 z1 za z2 z3 zi z4 zh z7 z8 zb)
theorem tallboyref29_Reply.j2Llm (x2 : Int) (x8 : Int) (x11 : Bool) (x73 : Bool) (zc : Bool) (z5 : Int) (zd : Int) (z6 : Int) (ze : Int) (zf : ByteArray) (z9 : ByteArray) (zg : ByteArray) (z0 : Int) (z1 : List (S97)) (za : Int) (z2 : Bool) (z3 : Int) (zi : Int) (z4 : Int) (zh : Int) (z7 : ByteArray) (z8 : ByteArray) (zb : ByteArray) : Lm (fun k => tallboyref29_Reply.j2 k x2 x8 x11 x73 zc z5 zd z6 ze zf z9 zg z0 z1 za z2 z3 zi z4 zh z7 z8 zb) (tallboyref29_Reply.j2L x2 x8 x11 x73 zc z5 zd z6 ze zf z9 zg z0 z1 za z2 z3 zi z4 zh z7 z8 zb) := lim_spec (fun k => (tallboyref29_Reply.mono_l k).2.2.1 _ _ _ _ _ _ _ _ _ _ _ _ _ _ _ _ _ _ _ _ _ _ _)
noncomputable def tallboyref29_Reply.j3L (x2 : Int) (x8 : Int) (x11 : Bool) (x111 : Bool) (zc : Bool) (z5 : Int) (zd : Int) (z6 : Int) (ze : Int) (zf : ByteArray) (z9 : ByteArray) (zg : ByteArray) (z0 : Int) (z1 : List (S97)) (za : Int) (z2 : Bool) (z3 : Int) (zi : Int) (z4 : Int) (zh : Int) (z7 : ByteArray) (z8 : ByteArray) (zb : ByteArray) : Option (Bool × Int × Int × Int × Int × ByteArray × ByteArray × ByteArray × Bool) := lim (fun k => tallboyref29_Reply.j3 k x2 x8 x11 x111 zc z5 zd z6 ze zf z9 zg z0 z1 za z2 z3 zi z4 zh z7 z8 zb)
theorem tallboyref29_Reply.j3Llm (x2 : Int) (x8 : Int) (x11 : Bool) (x111 : Bool) (zc : Bool) (z5 : Int) (zd : Int) (z6 : Int) (ze : Int) (zf : ByteArray) (z9 : ByteArray) (zg : ByteArray) (z0 : Int) (z1 : List (S97)) (za : Int) (z2 : Bool) (z3 : Int) (zi : Int) (z4 : Int) (zh : Int) (z7 : ByteArray) (z8 : ByteArray) (zb : ByteArray) : Lm (fun k => tallboyref29_Reply.j3 k x2 x8 x11 x111 zc z5 zd z6 ze zf z9 zg z0 z1 za z2 z3 zi z4 zh z7 z8 zb) (tallboyref29_Reply.j3L x2 x8 x11 x111 zc z5 zd z6 ze zf z9 zg z0 z1 za z2 z3 zi z4 zh z7 z8 zb) := lim_spec (fun k => (tallboyref29_Reply.mono_l k).2.2.2 _ _ _ _ _ _ _ _ _ _ _ _ _ _ _ _ _ _ _ _ _ _ _)
noncomputable def tallboyref29_Reply.L (a0_0 : Bool) (a0_1 : Int) (a0_2 : Int) (a0_3 : Int) (a0_4 : Int) (a0_5 : ByteArray) (a0_6 : ByteArray) (a0_7 : ByteArray) (a1_0 : Int) (l1_1 : List (S97)) (a1_2 : Int) (a2 : Int) : Option (Bool × Int × Int × Int × Int × ByteArray × ByteArray × ByteArray × Bool) := lim (fun k => tallboyref29_Reply.f k a0_0 a0_1 a0_2 a0_3 a0_4 a0_5 a0_6 a0_7 a1_0 l1_1 a1_2 a2)
theorem tallboyref29_Reply.Llm (a0_0 : Bool) (a0_1 : Int) (a0_2 : Int) (a0_3 : Int) (a0_4 : Int) (a0_5 : ByteArray) (a0_6 : ByteArray) (a0_7 : ByteArray) (a1_0 : Int) (l1_1 : List (S97)) (a1_2 : Int) (a2 : Int) : Lm (fun k => tallboyref29_Reply.f k a0_0 a0_1 a0_2 a0_3 a0_4 a0_5 a0_6 a0_7 a1_0 l1_1 a1_2 a2) (tallboyref29_Reply.L a0_0 a0_1 a0_2 a0_3 a0_4 a0_5 a0_6 a0_7 a1_0 l1_1 a1_2 a2) := lim_spec (fun k => tallboyref29_Reply.mono a0_0 a0_1 a0_2 a0_3 a0_4 a0_5 a0_6 a0_7 a1_0 l1_1 a1_2 a2 k)
noncomputable def frame_put.l0L (x0 : List Int) (x1 : Int) (x6 : Int) (x7 : Int) : Option (List Int) := lim (fun k => frame_put.l0 k x0 x1 x6 x7)
theorem frame_put.l0Llm (x0 : List Int) (x1 : Int) (x6 : Int) (x7 : Int) : Lm (fun k => frame_put.l0 k x0 x1 x6 x7) (frame_put.l0L x0 x1 x6 x7) := lim_spec (fun k => (frame_put.mono_l k) _ _ _ _)
noncomputable def frame_put.L (l0 : List Int) (a1 : Int) : Option (List Int) := lim (fun k => frame_put.f k l0 a1)
theorem frame_put.Llm (l0 : List Int) (a1 : Int) : Lm (fun k => frame_put.f k l0 a1) (frame_put.L l0 a1) := lim_spec (fun k => frame_put.mono l0 a1 k)
noncomputable def tallboyref29_Put.l0L (x0 : Int) (x5 : List Int) (x6 : Int) : Option (ByteArray) := lim (fun k => tallboyref29_Put.l0 k x0 x5 x6)
theorem tallboyref29_Put.l0Llm (x0 : Int) (x5 : List Int) (x6 : Int) : Lm (fun k => tallboyref29_Put.l0 k x0 x5 x6) (tallboyref29_Put.l0L x0 x5 x6) := lim_spec (fun k => (tallboyref29_Put.mono_l k) _ _ _)
noncomputable def tallboyref29_Put.L (a0 : Int) (a1 : Int) : Option (ByteArray) := lim (fun k => tallboyref29_Put.f k a0 a1)
theorem tallboyref29_Put.Llm (a0 : Int) (a1 : Int) : Lm (fun k => tallboyref29_Put.f k a0 a1) (tallboyref29_Put.L a0 a1) := lim_spec (fun k => tallboyref29_Put.mono a0 a1 k)
theorem tallboylaw18_Great.l0L_eq (x3 : Int) (x4 : Int) (x212000 : Int) (z0 : List (S97)) (x212002 : Int) : tallboylaw18_Great.l0L x3 x4 x212000 z0 x212002 = (if x4 < (z0.length : Int) then (if x3 < 20000 then (if 0 ≤ x4 then (tallboylaw18_Great.l0L (wrap64 ((wrap64 ((wrap64 (x3 + 1)) + (((rd_T97 z0 x4).f0).size : Int))) + (((rd_T97 z0 x4).f2).size : Int))) (wrap64 (x4 + 1)) x212000 z0 x212002) else (none)) else (some (decide (x3 ≥ 20000)))) else (some (decide (x3 ≥ 20000)))) := by
  refine Lm.unique (tallboylaw18_Great.l0Llm x3 x4 x212000 z0 x212002) ?_
  refine Lm.step rfl (f := fun k => tallboylaw18_Great.l0 (k + 1) x3 x4 x212000 z0 x212002) (fun _ => rfl) ?_; simp only [tallboylaw18_Great.l0]
  repeat' first
    | with_reducible exact tallboylaw18_Great.l0Llm _ _ _ _ _
    | with_reducible exact Lm.const _
    | with_reducible refine Lm.bind ?_ (fun _ => ?_)
    | with_reducible refine Lm.ite ?_ ?_
    | refine Lm.bind ?_ (fun _ => ?_)
    | refine Lm.ite ?_ ?_
theorem tallboylaw18_Great.L_eq (a0_0 : Int) (l0_1 : List (S97)) (a0_2 : Int) : tallboylaw18_Great.L a0_0 l0_1 a0_2 = (tallboylaw18_Great.l0L 0 0 a0_0 l0_1 a0_2) := by
  refine Lm.unique (tallboylaw18_Great.Llm a0_0 l0_1 a0_2) ?_
  unfold tallboylaw18_Great.f
  repeat' first
    | with_reducible exact tallboylaw18_Great.l0Llm _ _ _ _ _
    | with_reducible exact Lm.const _
    | with_reducible refine Lm.bind ?_ (fun _ => ?_)
    | with_reducible refine Lm.ite ?_ ?_
    | refine Lm.bind ?_ (fun _ => ?_)
    | refine Lm.ite ?_ ?_
theorem frame_status.j0L_eq (x3 : Int) (x4 : Bool) : frame_status.j0L x3 x4 = (if x4 = true then (some 0) else (if x3 = 1 then (frame_status.j1L x3 (x3 == 1)) else (frame_status.j1L x3 (x3 == 5)))) := by
  refine Lm.unique (frame_status.j0Llm x3 x4) ?_
  refine Lm.step rfl (f := fun k => frame_status.j0 (k + 1) x3 x4) (fun _ => rfl) ?_; simp only [frame_status.j0]
  repeat' first
    | with_reducible exact frame_status.j1Llm _ _
    | with_reducible exact Lm.const _
    | with_reducible refine Lm.bind ?_ (fun _ => ?_)
    | with_reducible refine Lm.ite ?_ ?_
    | refine Lm.bind ?_ (fun _ => ?_)
    | refine Lm.ite ?_ ?_
theorem frame_status.j1L_eq (x3 : Int) (x10 : Bool) : frame_status.j1L x3 x10 = (if x10 = true then (some 1) else (if x3 = 3 then (some 5) else (if x3 = 4 then (some 2) else (if x3 = 8 then (some 6) else (if x3 = 11 then (some 130) else (if x3 = 12 then (some 3) else (some 4))))))) := by
  refine Lm.unique (frame_status.j1Llm x3 x10) ?_
  refine Lm.step rfl (f := fun k => frame_status.j1 (k + 1) x3 x10) (fun _ => rfl) ?_; simp only [frame_status.j1]
  repeat' first
    | with_reducible exact Lm.const _
    | with_reducible refine Lm.bind ?_ (fun _ => ?_)
    | with_reducible refine Lm.ite ?_ ?_
    | refine Lm.bind ?_ (fun _ => ?_)
    | refine Lm.ite ?_ ?_
theorem frame_status.L_eq (a0 : Int) : frame_status.L a0 = (if a0 = 2 then (frame_status.j0L a0 (a0 == 2)) else (if a0 = 6 then (frame_status.j0L a0 (a0 == 6)) else (if a0 = 7 then (frame_status.j0L a0 (a0 == 7)) else (if a0 = 9 then (frame_status.j0L a0 (a0 == 9)) else (frame_status.j0L a0 (a0 == 10)))))) := by
  refine Lm.unique (frame_status.Llm a0) ?_
  unfold frame_status.f
  repeat' first
    | with_reducible exact frame_status.j0Llm _ _
    | with_reducible exact Lm.const _
    | with_reducible refine Lm.bind ?_ (fun _ => ?_)
    | with_reducible refine Lm.ite ?_ ?_
    | refine Lm.bind ?_ (fun _ => ?_)
    | refine Lm.ite ?_ ?_
theorem frame_number.L_eq (a0 : Int) (a1 : Int) : frame_number.L a0 a1 = (if 0 ≤ a1 then (if (a1 : Int).toNat ≤ 281474976710656 then ((frame_put.L (List.replicate (a1 : Int).toNat 0) a0).bind fun t225 => (some (strOfNums t225))) else (none)) else (none)) := by
  refine Lm.unique (frame_number.Llm a0 a1) ?_
  unfold frame_number.f
  repeat' first
    | with_reducible exact frame_put.Llm _ _
    | with_reducible exact Lm.const _
    | with_reducible refine Lm.bind ?_ (fun _ => ?_)
    | with_reducible refine Lm.ite ?_ ?_
    | refine Lm.bind ?_ (fun _ => ?_)
    | refine Lm.ite ?_ ?_
theorem frame_Reply.j0L_eq (x2 : Int) (x8 : Int) (x9 : Bool) (x11 : Bool) (zc : Bool) (zd : Int) (ze : Int) (zf : Int) (zg : Int) (zh : ByteArray) (za : ByteArray) (zi : ByteArray) (z9 : Int) (z6 : List (S102)) (zb : Int) (z1 : Bool) (z2 : Int) (z0 : Int) (z3 : Int) (z7 : Int) (z4 : ByteArray) (z8 : ByteArray) (z5 : ByteArray) : frame_Reply.j0L x2 x8 x9 x11 zc zd ze zf zg zh za zi z9 z6 zb z1 z2 z0 z3 z7 z4 z8 z5 = (if x9 = true then (if z9 = 1 then (frame_Reply.j1L x2 x8 x11 (!x11) zc zd ze zf zg zh za zi z9 z6 zb z1 z2 z0 z3 z7 z4 z8 z5) else (frame_Reply.j1L x2 x8 x11 false zc zd ze zf zg zh za zi z9 z6 zb z1 z2 z0 z3 z7 z4 z8 z5)) else (frame_Reply.j3L x2 x8 x11 zc zd ze zf zg zh za zi z9 z6 zb z1 z2 z0 z3 z7 z4 z8 z5)) := by
  refine Lm.unique (frame_Reply.j0Llm x2 x8 x9 x11 zc zd ze zf zg zh za zi z9 z6 zb z1 z2 z0 z3 z7 z4 z8 z5) ?_
  refine Lm.step rfl (f := fun k => frame_Reply.j0 (k + 1) x2 x8 x9 x11 zc zd ze zf zg zh za zi z9 z6 zb z1 z2 z0 z3 z7 z4 z8 z5) (fun _ => rfl) ?_; simp only [frame_Reply.j0]
  repeat' first
    | with_reducible exact frame_Reply.j3Llm _ _ _ _ _ _ _ _ _ _ _ _ _ _ _ _ _ _ _ _ _ _
    | with_reducible exact frame_Reply.j1Llm _ _ _ _ _ _ _ _ _ _ _ _ _ _ _ _ _ _ _ _ _ _ _
    | with_reducible exact Lm.const _
    | with_reducible refine Lm.bind ?_ (fun _ => ?_)
    | with_reducible refine Lm.ite ?_ ?_
    | refine Lm.bind ?_ (fun _ => ?_)
    | refine Lm.ite ?_ ?_
theorem frame_Reply.j3L_eq (x2 : Int) (x8 : Int) (x11 : Bool) (zc : Bool) (zd : Int) (ze : Int) (zf : Int) (zg : Int) (zh : ByteArray) (za : ByteArray) (zi : ByteArray) (z9 : Int) (z6 : List (S102)) (zb : Int) (z1 : Bool) (z2 : Int) (z0 : Int) (z3 : Int) (z7 : Int) (z4 : ByteArray) (z8 : ByteArray) (z5 : ByteArray) : frame_Reply.j3L x2 x8 x11 zc zd ze zf zg zh za zi z9 z6 zb z1 z2 z0 z3 z7 z4 z8 z5 = (if x11 = true then (if 0 < (z6.length : Int) then ((frame_number.L (IntKind.u64.wrap ((rd_T102 z6 0).f1)) 4).bind fun t238 => (frame_Reply.j4L x8 z1 z2 0 z3 ((rd_T102 z6 0).f3) t238 ((rd_T102 z6 0).f0) ((rd_T102 z6 0).f2))) else (none)) else (if z0 = 1 then (frame_Reply.j4L x8 z1 z2 z0 z3 z7 z4 za z5) else (if z9 = 7 then ((frame_number.L zb 8).bind fun t239 => (frame_Reply.j4L x8 z1 z2 z0 z3 x2 z4 z8 t239)) else (if z9 = 2 then (frame_Reply.j4L x8 z1 z2 z0 z3 x2 z4 z8 z5) else (frame_Reply.j4L x8 z1 z2 z0 z3 z7 z4 z8 z5))))) := by
  refine Lm.unique (frame_Reply.j3Llm x2 x8 x11 zc zd ze zf zg zh za zi z9 z6 zb z1 z2 z0 z3 z7 z4 z8 z5) ?_
  refine Lm.step rfl (f := fun k => frame_Reply.j3 (k + 1) x2 x8 x11 zc zd ze zf zg zh za zi z9 z6 zb z1 z2 z0 z3 z7 z4 z8 z5) (fun _ => rfl) ?_; simp only [frame_Reply.j3]
  repeat' first
    | with_reducible exact frame_number.Llm _ _
    | with_reducible exact frame_Reply.j4Llm _ _ _ _ _ _ _ _ _
    | with_reducible exact Lm.const _
    | with_reducible refine Lm.bind ?_ (fun _ => ?_)
    | with_reducible refine Lm.ite ?_ ?_
    | refine Lm.bind ?_ (fun _ => ?_)
    | refine Lm.ite ?_ ?_
theorem frame_Reply.j4L_eq (x8 : Int) (z1 : Bool) (z2 : Int) (z0 : Int) (z3 : Int) (z7 : Int) (z4 : ByteArray) (z8 : ByteArray) (z5 : ByteArray) : frame_Reply.j4L x8 z1 z2 z0 z3 z7 z4 z8 z5 = (if x8 = 2 then (some (z1, z2, z0, z3, z7, z4, z8, z5, true)) else (some (z1, z2, z0, z3, z7, z4, (⟨#[]⟩ : ByteArray), z5, true))) := by
  refine Lm.unique (frame_Reply.j4Llm x8 z1 z2 z0 z3 z7 z4 z8 z5) ?_
  refine Lm.step rfl (f := fun k => frame_Reply.j4 (k + 1) x8 z1 z2 z0 z3 z7 z4 z8 z5) (fun _ => rfl) ?_; simp only [frame_Reply.j4]
  repeat' first
    | with_reducible exact Lm.const _
    | with_reducible refine Lm.bind ?_ (fun _ => ?_)
    | with_reducible refine Lm.ite ?_ ?_
    | refine Lm.bind ?_ (fun _ => ?_)
    | refine Lm.ite ?_ ?_
theorem frame_Reply.j1L_eq (x2 : Int) (x8 : Int) (x11 : Bool) (x12 : Bool) (zc : Bool) (zd : Int) (ze : Int) (zf : Int) (zg : Int) (zh : ByteArray) (za : ByteArray) (zi : ByteArray) (z9 : Int) (z6 : List (S102)) (zb : Int) (z1 : Bool) (z2 : Int) (z0 : Int) (z3 : Int) (z7 : Int) (z4 : ByteArray) (z8 : ByteArray) (z5 : ByteArray) : frame_Reply.j1L x2 x8 x11 x12 zc zd ze zf zg zh za zi z9 z6 zb z1 z2 z0 z3 z7 z4 z8 z5 = ((frame_reads.f x8).bind fun t233 => (if t233 = true then (if x12 = true then (frame_Reply.j2L x2 x8 x11 true zc zd ze zf zg zh za zi z9 z6 zb z1 z2 z0 z3 z7 z4 z8 z5) else ((frame_reads.f x8).bind fun t234 => (if t234 = true then (frame_Reply.j2L x2 x8 x11 false zc zd ze zf zg zh za zi z9 z6 zb z1 z2 z0 z3 z7 z4 z8 z5) else (frame_Reply.j2L x2 x8 x11 (z0 == 0) zc zd ze zf zg zh za zi z9 z6 zb z1 z2 z0 z3 z7 z4 z8 z5)))) else ((frame_reads.f x8).bind fun t235 => (if t235 = true then (frame_Reply.j2L x2 x8 x11 false zc zd ze zf zg zh za zi z9 z6 zb z1 z2 z0 z3 z7 z4 z8 z5) else (frame_Reply.j2L x2 x8 x11 (z0 == 0) zc zd ze zf zg zh za zi z9 z6 zb z1 z2 z0 z3 z7 z4 z8 z5))))) := by
  refine Lm.unique (frame_Reply.j1Llm x2 x8 x11 x12 zc zd ze zf zg zh za zi z9 z6 zb z1 z2 z0 z3 z7 z4 z8 z5) ?_
  refine Lm.step rfl (f := fun k => frame_Reply.j1 (k + 1) x2 x8 x11 x12 zc zd ze zf zg zh za zi z9 z6 zb z1 z2 z0 z3 z7 z4 z8 z5) (fun _ => rfl) ?_; simp only [frame_Reply.j1]
  repeat' first
    | with_reducible exact frame_Reply.j2Llm _ _ _ _ _ _ _ _ _ _ _ _ _ _ _ _ _ _ _ _ _ _ _
    | with_reducible exact Lm.const _
    | with_reducible refine Lm.bind ?_ (fun _ => ?_)
    | with_reducible refine Lm.ite ?_ ?_
    | refine Lm.bind ?_ (fun _ => ?_)
    | refine Lm.ite ?_ ?_
theorem frame_Reply.j2L_eq (x2 : Int) (x8 : Int) (x11 : Bool) (x59 : Bool) (zc : Bool) (zd : Int) (ze : Int) (zf : Int) (zg : Int) (zh : ByteArray) (za : ByteArray) (zi : ByteArray) (z9 : Int) (z6 : List (S102)) (zb : Int) (z1 : Bool) (z2 : Int) (z0 : Int) (z3 : Int) (z7 : Int) (z4 : ByteArray) (z8 : ByteArray) (z5 : ByteArray) : frame_Reply.j2L x2 x8 x11 x59 zc zd ze zf zg zh za zi z9 z6 zb z1 z2 z0 z3 z7 z4 z8 z5 = (if x59 = true then (some (false, 0, 0, 0, 0, (⟨#[]⟩ : ByteArray), (⟨#[]⟩ : ByteArray), (⟨#[]⟩ : ByteArray), false)) else (frame_Reply.j3L x2 x8 x11 zc zd ze zf zg zh za zi z9 z6 zb z1 z2 z0 z3 z7 z4 z8 z5)) := by
  refine Lm.unique (frame_Reply.j2Llm x2 x8 x11 x59 zc zd ze zf zg zh za zi z9 z6 zb z1 z2 z0 z3 z7 z4 z8 z5) ?_
  refine Lm.step rfl (f := fun k => frame_Reply.j2 (k + 1) x2 x8 x11 x59 zc zd ze zf zg zh za zi z9 z6 zb z1 z2 z0 z3 z7 z4 z8 z5) (fun _ => rfl) ?_; simp only [frame_Reply.j2]
  repeat' first
    | with_reducible exact frame_Reply.j3Llm _ _ _ _ _ _ _ _ _ _ _ _ _ _ _ _ _ _ _ _ _ _
    | with_reducible exact Lm.const _
    | with_reducible refine Lm.bind ?_ (fun _ => ?_)
    | with_reducible refine Lm.ite ?_ ?_
    | refine Lm.bind ?_ (fun _ => ?_)
    | refine Lm.ite ?_ ?_
theorem frame_Reply.L_eq (a0_0 : Bool) (a0_1 : Int) (a0_2 : Int) (a0_3 : Int) (a0_4 : Int) (a0_5 : ByteArray) (a0_6 : ByteArray) (a0_7 : ByteArray) (a1_0 : Int) (l1_1 : List (S102)) (a1_2 : Int) (a2 : Int) : frame_Reply.L a0_0 a0_1 a0_2 a0_3 a0_4 a0_5 a0_6 a0_7 a1_0 l1_1 a1_2 a2 = ((frame_find.L a0_1).bind fun bt229 => ((frame_status.L a1_0).bind fun t231 => (if a1_0 = 1 then (frame_Reply.j0L a2 bt229.1 bt229.2 (decide ((l1_1.length : Int) > 0)) a0_0 a0_1 a0_2 a0_3 a0_4 a0_5 a0_6 a0_7 a1_0 l1_1 a1_2 true a0_1 t231 a0_3 0 (⟨#[]⟩ : ByteArray) (⟨#[]⟩ : ByteArray) (⟨#[]⟩ : ByteArray)) else (frame_Reply.j0L a2 bt229.1 bt229.2 false a0_0 a0_1 a0_2 a0_3 a0_4 a0_5 a0_6 a0_7 a1_0 l1_1 a1_2 true a0_1 t231 a0_3 0 (⟨#[]⟩ : ByteArray) (⟨#[]⟩ : ByteArray) (⟨#[]⟩ : ByteArray))))) := by
  refine Lm.unique (frame_Reply.Llm a0_0 a0_1 a0_2 a0_3 a0_4 a0_5 a0_6 a0_7 a1_0 l1_1 a1_2 a2) ?_
  unfold frame_Reply.f
  repeat' first
    | with_reducible exact frame_Reply.j0Llm _ _ _ _ _ _ _ _ _ _ _ _ _ _ _ _ _ _ _ _ _ _ _
    | with_reducible exact frame_status.Llm _
    | with_reducible exact frame_find.Llm _
    | with_reducible exact Lm.const _
    | with_reducible refine Lm.bind ?_ (fun _ => ?_)
    | with_reducible refine Lm.ite ?_ ?_
    | refine Lm.bind ?_ (fun _ => ?_)
    | refine Lm.ite ?_ ?_
theorem tallboylaw18_To.l0L_eq (x4 : Int) (x241000 : Int) (z2 : List (S97)) (x241002 : Int) (z5 : Int) (z4 : List (S102)) (z6 : Int) : tallboylaw18_To.l0L x4 x241000 z2 x241002 z5 z4 z6 = (if x4 < (z2.length : Int) then (if 0 ≤ x4 then (if z4.length < 2932031007402 then (tallboylaw18_To.l0L (wrap64 (x4 + 1)) x241000 z2 x241002 z5 (z4 ++ [(⟨(rd_T97 z2 x4).f0, (rd_T97 z2 x4).f1, (rd_T97 z2 x4).f2, (rd_T97 z2 x4).f3⟩ : S102)]) z6) else (none)) else (none)) else (some (z5, z4, z6))) := by
  refine Lm.unique (tallboylaw18_To.l0Llm x4 x241000 z2 x241002 z5 z4 z6) ?_
  refine Lm.step rfl (f := fun k => tallboylaw18_To.l0 (k + 1) x4 x241000 z2 x241002 z5 z4 z6) (fun _ => rfl) ?_; simp only [tallboylaw18_To.l0]
  repeat' first
    | with_reducible exact tallboylaw18_To.l0Llm _ _ _ _ _ _ _
    | with_reducible exact Lm.const _
    | with_reducible refine Lm.bind ?_ (fun _ => ?_)
    | with_reducible refine Lm.ite ?_ ?_
    | refine Lm.bind ?_ (fun _ => ?_)
    | refine Lm.ite ?_ ?_
theorem tallboylaw18_To.L_eq (a0_0 : Int) (l0_1 : List (S97)) (a0_2 : Int) : tallboylaw18_To.L a0_0 l0_1 a0_2 = (tallboylaw18_To.l0L 0 a0_0 l0_1 a0_2 a0_0 ([] : List (S102)) a0_2) := by
  refine Lm.unique (tallboylaw18_To.Llm a0_0 l0_1 a0_2) ?_
  unfold tallboylaw18_To.f
  repeat' first
    | with_reducible exact tallboylaw18_To.l0Llm _ _ _ _ _ _ _
    | with_reducible exact Lm.const _
    | with_reducible refine Lm.bind ?_ (fun _ => ?_)
    | with_reducible refine Lm.ite ?_ ?_
    | refine Lm.bind ?_ (fun _ => ?_)
    | refine Lm.ite ?_ ?_
theorem tallboyref29_Reply.j0L_eq (x2 : Int) (x8 : Int) (x9 : Bool) (x10 : Bool) (x11 : Bool) (zc : Bool) (z5 : Int) (zd : Int) (z6 : Int) (ze : Int) (zf : ByteArray) (z9 : ByteArray) (zg : ByteArray) (z0 : Int) (z1 : List (S97)) (za : Int) : tallboyref29_Reply.j0L x2 x8 x9 x10 x11 zc z5 zd z6 ze zf z9 zg z0 z1 za = (if x9 = true then (if x10 = true then (if z0 = 1 then (if (z1.length : Int) = 0 then (tallboyref29_Reply.j1L x2 x8 x11 true zc z5 zd z6 ze zf z9 zg z0 z1 za) else (tallboyref29_Reply.j1L x2 x8 x11 false zc z5 zd z6 ze zf z9 zg z0 z1 za)) else (tallboyref29_Reply.j1L x2 x8 x11 false zc z5 zd z6 ze zf z9 zg z0 z1 za)) else (tallboyref29_Reply.j1L x2 x8 x11 x11 zc z5 zd z6 ze zf z9 zg z0 z1 za)) else (tallboyref29_Reply.j1L x2 x8 x11 false zc z5 zd z6 ze zf z9 zg z0 z1 za)) := by
  refine Lm.unique (tallboyref29_Reply.j0Llm x2 x8 x9 x10 x11 zc z5 zd z6 ze zf z9 zg z0 z1 za) ?_
  refine Lm.step rfl (f := fun k => tallboyref29_Reply.j0 (k + 1) x2 x8 x9 x10 x11 zc z5 zd z6 ze zf z9 zg z0 z1 za) (fun _ => rfl) ?_; simp only [tallboyref29_Reply.j0]
  repeat' first
    | with_reducible exact tallboyref29_Reply.j1Llm _ _ _ _ _ _ _ _ _ _ _ _ _ _ _
    | with_reducible exact Lm.const _
    | with_reducible refine Lm.bind ?_ (fun _ => ?_)
    | with_reducible refine Lm.ite ?_ ?_
    | refine Lm.bind ?_ (fun _ => ?_)
    | refine Lm.ite ?_ ?_
theorem tallboyref29_Reply.j1L_eq (x2 : Int) (x8 : Int) (x11 : Bool) (x65 : Bool) (zc : Bool) (z5 : Int) (zd : Int) (z6 : Int) (ze : Int) (zf : ByteArray) (z9 : ByteArray) (zg : ByteArray) (z0 : Int) (z1 : List (S97)) (za : Int) : tallboyref29_Reply.j1L x2 x8 x11 x65 zc z5 zd z6 ze zf z9 zg z0 z1 za = (if x65 = true then (some (false, 0, 0, 0, 0, (⟨#[]⟩ : ByteArray), (⟨#[]⟩ : ByteArray), (⟨#[]⟩ : ByteArray), false)) else (if z0 = 1 then (tallboyref29_Reply.j2L x2 x8 x11 (decide ((z1.length : Int) > 0)) zc z5 zd z6 ze zf z9 zg z0 z1 za true z5 0 z6 0 (⟨#[]⟩ : ByteArray) (⟨#[]⟩ : ByteArray) (⟨#[]⟩ : ByteArray)) else (tallboyref29_Reply.j2L x2 x8 x11 false zc z5 zd z6 ze zf z9 zg z0 z1 za true z5 0 z6 0 (⟨#[]⟩ : ByteArray) (⟨#[]⟩ : ByteArray) (⟨#[]⟩ : ByteArray)))) := by
  refine Lm.unique (tallboyref29_Reply.j1Llm x2 x8 x11 x65 zc z5 zd z6 ze zf z9 zg z0 z1 za) ?_
  refine Lm.step rfl (f := fun k => tallboyref29_Reply.j1 (k + 1) x2 x8 x11 x65 zc z5 zd z6 ze zf z9 zg z0 z1 za) (fun _ => rfl) ?_; simp only [tallboyref29_Reply.j1]
  repeat' first
    | with_reducible exact tallboyref29_Reply.j2Llm _ _ _ _ _ _ _ _ _ _ _ _ _ _ _ _ _ _ _ _ _ _ _
    | with_reducible exact Lm.const _
    | with_reducible refine Lm.bind ?_ (fun _ => ?_)
    | with_reducible refine Lm.ite ?_ ?_
    | refine Lm.bind ?_ (fun _ => ?_)
    | refine Lm.ite ?_ ?_
theorem tallboyref29_Reply.j2L_eq (x2 : Int) (x8 : Int) (x11 : Bool) (x73 : Bool) (zc : Bool) (z5 : Int) (zd : Int) (z6 : Int) (ze : Int) (zf : ByteArray) (z9 : ByteArray) (zg : ByteArray) (z0 : Int) (z1 : List (S97)) (za : Int) (z2 : Bool) (z3 : Int) (zi : Int) (z4 : Int) (zh : Int) (z7 : ByteArray) (z8 : ByteArray) (zb : ByteArray) : tallboyref29_Reply.j2L x2 x8 x11 x73 zc z5 zd z6 ze zf z9 zg z0 z1 za z2 z3 zi z4 zh z7 z8 zb = (if x73 = true then (if 0 < (z1.length : Int) then ((tallboyref29_Put.L (IntKind.u64.wrap ((rd_T97 z1 0).f1)) 4).bind fun t257 => (if x8 = 2 then (some (z2, z3, zi, z4, (rd_T97 z1 0).f3, t257, (rd_T97 z1 0).f0, (rd_T97 z1 0).f2, true)) else (some (z2, z3, zi, z4, (rd_T97 z1 0).f3, t257, z8, (rd_T97 z1 0).f2, true)))) else (none)) else (if z0 = 1 then (tallboyref29_Reply.j3L x2 x8 x11 true zc z5 zd z6 ze zf z9 zg z0 z1 za z2 z3 zi z4 zh z7 z8 zb) else (tallboyref29_Reply.j3L x2 x8 x11 (z0 == 5) zc z5 zd z6 ze zf z9 zg z0 z1 za z2 z3 zi z4 zh z7 z8 zb))) := by
  refine Lm.unique (tallboyref29_Reply.j2Llm x2 x8 x11 x73 zc z5 zd z6 ze zf z9 zg z0 z1 za z2 z3 zi z4 zh z7 z8 zb) ?_
  refine Lm.step rfl (f := fun k => tallboyref29_Reply.j2 (k + 1) x2 x8 x11 x73 zc z5 zd z6 ze zf z9 zg z0 z1 za z2 z3 zi z4 zh z7 z8 zb) (fun _ => rfl) ?_; simp only [tallboyref29_Reply.j2]
  repeat' first
    | with_reducible exact tallboyref29_Reply.j3Llm _ _ _ _ _ _ _ _ _ _ _ _ _ _ _ _ _ _ _ _ _ _ _
    | with_reducible exact tallboyref29_Put.Llm _ _
    | with_reducible exact Lm.const _
    | with_reducible refine Lm.bind ?_ (fun _ => ?_)
    | with_reducible refine Lm.ite ?_ ?_
    | refine Lm.bind ?_ (fun _ => ?_)
    | refine Lm.ite ?_ ?_
theorem tallboyref29_Reply.j3L_eq (x2 : Int) (x8 : Int) (x11 : Bool) (x111 : Bool) (zc : Bool) (z5 : Int) (zd : Int) (z6 : Int) (ze : Int) (zf : ByteArray) (z9 : ByteArray) (zg : ByteArray) (z0 : Int) (z1 : List (S97)) (za : Int) (z2 : Bool) (z3 : Int) (zi : Int) (z4 : Int) (zh : Int) (z7 : ByteArray) (z8 : ByteArray) (zb : ByteArray) : tallboyref29_Reply.j3L x2 x8 x11 x111 zc z5 zd z6 ze zf z9 zg z0 z1 za z2 z3 zi z4 zh z7 z8 zb = (if x111 = true then (if x8 = 2 then (some (z2, z3, 1, z4, zh, z7, z9, zb, true)) else (some (z2, z3, 1, z4, zh, z7, z8, zb, true))) else (if z0 = 7 then ((tallboyref29_Put.L za 8).bind fun t260 => (some (z2, z3, zi, z4, x2, z7, z8, t260, true))) else (if z0 = 2 then (some (z2, z3, zi, z4, x2, z7, z8, zb, true)) else (if x11 = true then (some (z2, z3, zi, z4, zh, z7, z8, zb, true)) else (if z0 = 3 then (some (z2, z3, 5, z4, zh, z7, z8, zb, true)) else (if z0 = 4 then (some (z2, z3, 2, z4, zh, z7, z8, zb, true)) else (if z0 = 8 then (some (z2, z3, 6, z4, zh, z7, z8, zb, true)) else (if z0 = 11 then (some (z2, z3, 130, z4, zh, z7, z8, zb, true)) else (if z0 = 12 then (some (z2, z3, 3, z4, zh, z7, z8, zb, true)) else (some (z2, z3, 4, z4, zh, z7, z8, zb, true))))))))))) := by
  refine Lm.unique (tallboyref29_Reply.j3Llm x2 x8 x11 x111 zc z5 zd z6 ze zf z9 zg z0 z1 za z2 z3 zi z4 zh z7 z8 zb) ?_
  refine Lm.step rfl (f := fun k => tallboyref29_Reply.j3 (k + 1) x2 x8 x11 x111 zc z5 zd z6 ze zf z9 zg z0 z1 za z2 z3 zi z4 zh z7 z8 zb) (fun _ => rfl) ?_; simp only [tallboyref29_Reply.j3]
  repeat' first
    | with_reducible exact tallboyref29_Put.Llm _ _
    | with_reducible exact Lm.const _
    | with_reducible refine Lm.bind ?_ (fun _ => ?_)
    | with_reducible refine Lm.ite ?_ ?_
    | refine Lm.bind ?_ (fun _ => ?_)
    | refine Lm.ite ?_ ?_
theorem tallboyref29_Reply.L_eq (a0_0 : Bool) (a0_1 : Int) (a0_2 : Int) (a0_3 : Int) (a0_4 : Int) (a0_5 : ByteArray) (a0_6 : ByteArray) (a0_7 : ByteArray) (a1_0 : Int) (l1_1 : List (S97)) (a1_2 : Int) (a2 : Int) : tallboyref29_Reply.L a0_0 a0_1 a0_2 a0_3 a0_4 a0_5 a0_6 a0_7 a1_0 l1_1 a1_2 a2 = ((tallboyref29_op.L a0_1).bind fun bt251 => ((tallboyref15_Reads.f bt251.1).bind fun t253 => (if a1_0 = 2 then (tallboyref29_Reply.j0L a2 bt251.1 bt251.2 t253 true a0_0 a0_1 a0_2 a0_3 a0_4 a0_5 a0_6 a0_7 a1_0 l1_1 a1_2) else (if a1_0 = 6 then (tallboyref29_Reply.j0L a2 bt251.1 bt251.2 t253 true a0_0 a0_1 a0_2 a0_3 a0_4 a0_5 a0_6 a0_7 a1_0 l1_1 a1_2) else (if a1_0 = 7 then (tallboyref29_Reply.j0L a2 bt251.1 bt251.2 t253 true a0_0 a0_1 a0_2 a0_3 a0_4 a0_5 a0_6 a0_7 a1_0 l1_1 a1_2) else (if a1_0 = 9 then (tallboyref29_Reply.j0L a2 bt251.1 bt251.2 t253 true a0_0 a0_1 a0_2 a0_3 a0_4 a0_5 a0_6 a0_7 a1_0 l1_1 a1_2) else (tallboyref29_Reply.j0L a2 bt251.1 bt251.2 t253 (a1_0 == 10) a0_0 a0_1 a0_2 a0_3 a0_4 a0_5 a0_6 a0_7 a1_0 l1_1 a1_2))))))) := by
  refine Lm.unique (tallboyref29_Reply.Llm a0_0 a0_1 a0_2 a0_3 a0_4 a0_5 a0_6 a0_7 a1_0 l1_1 a1_2 a2) ?_
  unfold tallboyref29_Reply.f
  repeat' first
    | with_reducible exact tallboyref29_Reply.j0Llm _ _ _ _ _ _ _ _ _ _ _ _ _ _ _ _
    | with_reducible exact tallboyref29_op.Llm _
    | with_reducible exact Lm.const _
    | with_reducible refine Lm.bind ?_ (fun _ => ?_)
    | with_reducible refine Lm.ite ?_ ?_
    | refine Lm.bind ?_ (fun _ => ?_)
    | refine Lm.ite ?_ ?_
theorem frame_put.l0L_eq (x0 : List Int) (x1 : Int) (x6 : Int) (x7 : Int) : frame_put.l0L x0 x1 x6 x7 = (if x7 < x6 then (if 0 ≤ (wrap64 ((wrap64 ((x0.length : Int) - 1)) - x7)) then (if (wrap64 ((wrap64 ((x0.length : Int) - 1)) - x7)) < (x0.length : Int) then (frame_put.l0L (x0.set ((wrap64 ((wrap64 ((x0.length : Int) - 1)) - x7)) : Int).toNat ((x1) % 256)) (x1 / 256) x6 (wrap64 (x7 + 1))) else (none)) else (none)) else (some x0)) := by
  refine Lm.unique (frame_put.l0Llm x0 x1 x6 x7) ?_
  refine Lm.step rfl (f := fun k => frame_put.l0 (k + 1) x0 x1 x6 x7) (fun _ => rfl) ?_; simp only [frame_put.l0]
  repeat' first
    | with_reducible exact frame_put.l0Llm _ _ _ _
    | with_reducible exact Lm.const _
    | with_reducible refine Lm.bind ?_ (fun _ => ?_)
    | with_reducible refine Lm.ite ?_ ?_
    | refine Lm.bind ?_ (fun _ => ?_)
    | refine Lm.ite ?_ ?_
theorem frame_put.L_eq (l0 : List Int) (a1 : Int) : frame_put.L l0 a1 = (frame_put.l0L l0 a1 (l0.length : Int) 0) := by
  refine Lm.unique (frame_put.Llm l0 a1) ?_
  unfold frame_put.f
  repeat' first
    | with_reducible exact frame_put.l0Llm _ _ _ _
    | with_reducible exact Lm.const _
    | with_reducible refine Lm.bind ?_ (fun _ => ?_)
    | with_reducible refine Lm.ite ?_ ?_
    | refine Lm.bind ?_ (fun _ => ?_)
    | refine Lm.ite ?_ ?_
theorem tallboyref29_Put.l0L_eq (x0 : Int) (x5 : List Int) (x6 : Int) : tallboyref29_Put.l0L x0 x5 x6 = (if x6 ≥ 0 then (if 0 ≤ x6 then (if x6 < (x5.length : Int) then (tallboyref29_Put.l0L (IntKind.u64.wrap (Int.tdiv x0 256)) (x5.set (x6 : Int).toNat ((Int.tmod x0 256) % 256)) (wrap64 (x6 - 1))) else (none)) else (none)) else (some (strOfNums x5))) := by
  refine Lm.unique (tallboyref29_Put.l0Llm x0 x5 x6) ?_
  refine Lm.step rfl (f := fun k => tallboyref29_Put.l0 (k + 1) x0 x5 x6) (fun _ => rfl) ?_; simp only [tallboyref29_Put.l0]
  repeat' first
    | with_reducible exact tallboyref29_Put.l0Llm _ _ _
    | with_reducible exact Lm.const _
    | with_reducible refine Lm.bind ?_ (fun _ => ?_)
    | with_reducible refine Lm.ite ?_ ?_
    | refine Lm.bind ?_ (fun _ => ?_)
    | refine Lm.ite ?_ ?_
theorem tallboyref29_Put.L_eq (a0 : Int) (a1 : Int) : tallboyref29_Put.L a0 a1 = (if 0 ≤ a1 then (if (a1 : Int).toNat ≤ 281474976710656 then (tallboyref29_Put.l0L a0 (List.replicate (a1 : Int).toNat 0) (wrap64 (a1 - 1))) else (none)) else (none)) := by
  refine Lm.unique (tallboyref29_Put.Llm a0 a1) ?_
  unfold tallboyref29_Put.f
  repeat' first
    | with_reducible exact tallboyref29_Put.l0Llm _ _ _
    | with_reducible exact Lm.const _
    | with_reducible refine Lm.bind ?_ (fun _ => ?_)
    | with_reducible refine Lm.ite ?_ ?_
    | refine Lm.bind ?_ (fun _ => ?_)
    | refine Lm.ite ?_ ?_
end Go.Proofs.Ytdepkgikdmlgiaa.P
