/- The limits of the functions with rounds, and the equations that reckon them. Plain Lean; no condition. Written by a program. -/
import Derived.Test.YtmogojefpjmhkaaLim
import Derived.Test.YtmogojefpjmhkaaPx11
import Derived.Test.YtmogojefpjmhkaaPx12
import Derived.Test.YtmogojefpjmhkaaPx14
import Derived.Test.YtmogojefpjmhkaaPx15
import Derived.Test.YtmogojefpjmhkaaPx16
import Derived.Test.YtmogojefpjmhkaaPx6
import Derived.Test.YtmogojefpjmhkaaPx7
import Derived.Test.YtmogojefpjmhkaaPx8
import Derived.Test.YtmogojefpjmhkaaPx9
namespace Go.Proofs.Ytmogojefpjmhkaa.P
open Go.RowKit Go.Proofs.Ytmogojefpjmhkaa.Lim Go.Proofs.YtmogojefpjmhkaaW.PrintWords Go.Proofs.YtmogojefpjmhkaaW.PrintLast Go.Proofs.YtmogojefpjmhkaaW.PrintMore
set_option linter.unusedVariables false

noncomputable def tallboyref04_Key.j0L (x0 : ByteArray) (x3 : Bool) : Option (Bool) := lim (fun k => tallboyref04_Key.j0 k x0 x3)
theorem tallboyref04_Key.j0Llm (x0 : ByteArray) (x3 : Bool) : Lm (fun k => tallboyref04_Key.j0 k x0 x3) (tallboyref04_Key.j0L x0 x3) := lim_spec (fun k => (tallboyref04_Key.mono_l k).1 _ _)
noncomputable def tallboyref04_Key.l0L (x0 : ByteArray) (x3 : Bool) (x4 : Int) : Option (Bool) := lim (fun k => tallboyref04_Key.l0 k x0 x3 x4)
theorem tallboyref04_Key.l0Llm (x0 : ByteArray) (x3 : Bool) (x4 : Int) : Lm (fun k => tallboyref04_Key.l0 k x0 x3 x4) (tallboyref04_Key.l0L x0 x3 x4) := lim_spec (fun k => (tallboyref04_Key.mono_l k).2 _ _ _)
noncomputable def tallboyref04_Key.L (a0 : ByteArray) : Option (Bool) := lim (fun k => tallboyref04_Key.f k a0)
theorem tallboyref04_Key.Llm (a0 : ByteArray) : Lm (fun k => tallboyref04_Key.f k a0) (tallboyref04_Key.L a0) := lim_spec (fun k => tallboyref04_Key.mono a0 k)
noncomputable def tallboyref15_Check.j0L (x3 : Int) (x16 : Bool) (x137000 : Int) (x137001 : List ByteArray) (x137002 : Int) (x137003 : Int) (x137004 : ByteArray) (x137005 : Int) (x137006 : Int) (x137007 : Bool) : Option (Int) := lim (fun k => tallboyref15_Check.j0 k x3 x16 x137000 x137001 x137002 x137003 x137004 x137005 x137006 x137007)
theorem tallboyref15_Check.j0Llm (x3 : Int) (x16 : Bool) (x137000 : Int) (x137001 : List ByteArray) (x137002 : Int) (x137003 : Int) (x137004 : ByteArray) (x137005 : Int) (x137006 : Int) (x137007 : Bool) : Lm (fun k => tallboyref15_Check.j0 k x3 x16 x137000 x137001 x137002 x137003 x137004 x137005 x137006 x137007) (tallboyref15_Check.j0L x3 x16 x137000 x137001 x137002 x137003 x137004 x137005 x137006 x137007) := lim_spec (fun k => (tallboyref15_Check.mono_l k).1 _ _ _ _ _ _ _ _ _ _)
noncomputable def tallboyref15_Check.j1L (x3 : Int) (x4 : Int) (x5 : Bool) (x137000 : Int) (x137001 : List ByteArray) (x137002 : Int) (x137003 : Int) (x137004 : ByteArray) (x137005 : Int) (x137006 : Int) (x137007 : Bool) : Option (Int) := lim (fun k => tallboyref15_Check.j1 k x3 x4 x5 x137000 x137001 x137002 x137003 x137004 x137005 x137006 x137007)
theorem tallboyref15_Check.j1Llm (x3 : Int) (x4 : Int) (x5 : Bool) (x137000 : Int) (x137001 : List ByteArray) (x137002 : Int) (x137003 : Int) (x137004 : ByteArray) (x137005 : Int) (x137006 : Int) (x137007 : Bool) : Lm (fun k => tallboyref15_Check.j1 k x3 x4 x5 x137000 x137001 x137002 x137003 x137004 x137005 x137006 x137007) (tallboyref15_Check.j1L x3 x4 x5 x137000 x137001 x137002 x137003 x137004 x137005 x137006 x137007) := lim_spec (fun k => (tallboyref15_Check.mono_l k).2.1 _ _ _ _ _ _ _ _ _ _ _)
noncomputable def tallboyref15_Check.j2L (x3 : Int) (x4 : Int) (x5 : Bool) (x137000 : Int) (x137001 : List ByteArray) (x137002 : Int) (x137003 : Int) (x137004 : ByteArray) (x137005 : Int) (x137006 : Int) (x137007 : Bool) : Option (Int) := lim (fun k => tallboyref15_Check.j2 k x3 x4 x5 x137000 x137001 x137002 x137003 x137004 x137005 x137006 x137007)
theorem tallboyref15_Check.j2Llm (x3 : Int) (x4 : Int) (x5 : Bool) (x137000 : Int) (x137001 : List ByteArray) (x137002 : Int) (x137003 : Int) (x137004 : ByteArray) (x137005 : Int) (x137006 : Int) (x137007 : Bool) : Lm (fun k => tallboyref15_Check.j2 k x3 x4 x5 x137000 x137001 x137002 x137003 x137004 x137005 x137006 x137007) (tallboyref15_Check.j2L x3 x4 x5 x137000 x137001 x137002 x137003 x137004 x137005 x137006 x137007) := lim_spec (fun k => (tallboyref15_Check.mono_l k).2.2.1 _ _ _ _ _ _ _ _ _ _ _)
noncomputable def tallboyref15_Check.j4L (x3 : Int) (x5 : Bool) (x137000 : Int) (x137001 : List ByteArray) (x137002 : Int) (x137003 : Int) (x137004 : ByteArray) (x137005 : Int) (x137006 : Int) (x137007 : Bool) : Option (Int) := lim (fun k => tallboyref15_Check.j4 k x3 x5 x137000 x137001 x137002 x137003 x137004 x137005 x137006 x137007)
theorem tallboyref15_Check.j4Llm (x3 : Int) (x5 : Bool) (x137000 : Int) (x137001 : List ByteArray) (x137002 : Int) (x137003 : Int) (x137004 : ByteArray) (x137005 : Int) (x137006 : Int) (x137007 : Bool) : Lm (fun k => tallboyref15_Check.j4 k x3 x5 x137000 x137001 x137002 x137003 x137004 x137005 x137006 x137007) (tallboyref15_Check.j4L x3 x5 x137000 x137001 x137002 x137003 x137004 x137005 x137006 x137007) := lim_spec (fun k => (tallboyref15_Check.mono_l k).2.2.2.1 _ _ _ _ _ _ _ _ _ _)
noncomputable def tallboyref15_Check.j5L (x3 : Int) (x5 : Bool) (x137000 : Int) (x137001 : List ByteArray) (x137002 : Int) (x137003 : Int) (x137004 : ByteArray) (x137005 : Int) (x137006 : Int) (x137007 : Bool) : Option (Int) := lim (fun k => tallboyref15_Check.j5 k x3 x5 x137000 x137001 x137002 x137003 x137004 x137005 x137006 x137007)
theorem tallboyref15_Check.j5Llm (x3 : Int) (x5 : Bool) (x137000 : Int) (x137001 : List ByteArray) (x137002 : Int) (x137003 : Int) (x137004 : ByteArray) (x137005 : Int) (x137006 : Int) (x137007 : Bool) : Lm (fun k => tallboyref15_Check.j5 k x3 x5 x137000 x137001 x137002 x137003 x137004 x137005 x137006 x137007) (tallboyref15_Check.j5L x3 x5 x137000 x137001 x137002 x137003 x137004 x137005 x137006 x137007) := lim_spec (fun k => (tallboyref15_Check.mono_l k).2.2.2.2.1 _ _ _ _ _ _ _ _ _ _)
noncomputable def tallboyref15_Check.j6L (x3 : Int) (x5 : Bool) (x7 : Bool) (x137000 : Int) (x137001 : List ByteArray) (x137002 : Int) (x137003 : Int) (x137004 : ByteArray) (x137005 : Int) (x137006 : Int) (x137007 : Bool) : Option (Int) := lim (fun k => tallboyref15_Check.j6 k x3 x5 x7 x137000 x137001 x137002 x137003 x137004 x137005 x137006 x137007)
theorem tallboyref15_Check.j6Llm (x3 : Int) (x5 : Bool) (x7 : Bool) (x137000 : Int) (x137001 : List ByteArray) (x137002 : Int) (x137003 : Int) (x137004 : ByteArray) (x137005 : Int) (x137006 : Int) (x137007 : Bool) : Lm (fun k => tallboyref15_Check.j6 k x3 x5 x7 x137000 x137001 x137002 x137003 x137004 x137005 x137006 x137007) (tallboyref15_Check.j6L x3 x5 x7 x137000 x137001 x137002 x137003 x137004 x137005 x137006 x137007) := lim_spec (fun k => (tallboyref15_Check.mono_l k).2.2.2.2.2.1 _ _ _ _ _ _ _ _ _ _ _)
noncomputable def tallboyref15_Check.j7L (x3 : Int) (x5 : Bool) (x7 : Bool) (x137000 : Int) (x137001 : List ByteArray) (x137002 : Int) (x137003 : Int) (x137004 : ByteArray) (x137005 : Int) (x137006 : Int) (x137007 : Bool) : Option (Int) := lim (fun k => tallboyref15_Check.j7 k x3 x5 x7 x137000 x137001 x137002 x137003 x137004 x137005 x137006 x137007)
theorem tallboyref15_Check.j7Llm (x3 : Int) (x5 : Bool) (x7 : Bool) (x137000 : Int) (x137001 : List ByteArray) (x137002 : Int) (x137003 : Int) (x137004 : ByteArray) (x137005 : Int) (x137006 : Int) (x137007 : Bool) : Lm (fun k => tallboyref15_Check.j7 k x3 x5 x7 x137000 x137001 x137002 x137003 x137004 x137005 x137006 x137007) (tallboyref15_Check.j7L x3 x5 x7 x137000 x137001 x137002 x137003 x137004 x137005 x137006 x137007) := lim_spec (fun k => (tallboyref15_Check.mono_l k).2.2.2.2.2.2.1 _ _ _ _ _ _ _ _ _ _ _)
noncomputable def tallboyref15_Check.j8L (x3 : Int) (x5 : Bool) (x8 : Bool) (x137000 : Int) (x137001 : List ByteArray) (x137002 : Int) (x137003 : Int) (x137004 : ByteArray) (x137005 : Int) (x137006 : Int) (x137007 : Bool) : Option (Int) := lim (fun k => tallboyref15_Check.j8 k x3 x5 x8 x137000 x137001 x137002 x137003 x137004 x137005 x137006 x137007)
theorem tallboyref15_Check.j8Llm (x3 : Int) (x5 : Bool) (x8 : Bool) (x137000 : Int) (x137001 : List ByteArray) (x137002 : Int) (x137003 : Int) (x137004 : ByteArray) (x137005 : Int) (x137006 : Int) (x137007 : Bool) : Lm (fun k => tallboyref15_Check.j8 k x3 x5 x8 x137000 x137001 x137002 x137003 x137004 x137005 x137006 x137007) (tallboyref15_Check.j8L x3 x5 x8 x137000 x137001 x137002 x137003 x137004 x137005 x137006 x137007) := lim_spec (fun k => (tallboyref15_Check.mono_l k).2.2.2.2.2.2.2.1 _ _ _ _ _ _ _ _ _ _ _)
noncomputable def tallboyref15_Check.j9L (x3 : Int) (x5 : Bool) (x137000 : Int) (x137001 : List ByteArray) (x137002 : Int) (x137003 : Int) (x137004 : ByteArray) (x137005 : Int) (x137006 : Int) (x137007 : Bool) : Option (Int) := lim (fun k => tallboyref15_Check.j9 k x3 x5 x137000 x137001 x137002 x137003 x137004 x137005 x137006 x137007)
theorem tallboyref15_Check.j9Llm (x3 : Int) (x5 : Bool) (x137000 : Int) (x137001 : List ByteArray) (x137002 : Int) (x137003 : Int) (x137004 : ByteArray) (x137005 : Int) (x137006 : Int) (x137007 : Bool) : Lm (fun k => tallboyref15_Check.j9 k x3 x5 x137000 x137001 x137002 x137003 x137004 x137005 x137006 x137007) (tallboyref15_Check.j9L x3 x5 x137000 x137001 x137002 x137003 x137004 x137005 x137006 x137007) := lim_spec (fun k => (tallboyref15_Check.mono_l k).2.2.2.2.2.2.2.2.1 _ _ _ _ _ _ _ _ _ _)
noncomputable def tallboyref15_Check.j10L (x3 : Int) (x5 : Bool) (x137000 : Int) (x137001 : List ByteArray) (x137002 : Int) (x137003 : Int) (x137004 : ByteArray) (x137005 : Int) (x137006 : Int) (x137007 : Bool) : Option (Int) := lim (fun k => tallboyref15_Check.j10 k x3 x5 x137000 x137001 x137002 x137003 x137004 x137005 x137006 x137007)
theorem tallboyref15_Check.j10Llm (x3 : Int) (x5 : Bool) (x137000 : Int) (x137001 : List ByteArray) (x137002 : Int) (x137003 : Int) (x137004 : ByteArray) (x137005 : Int) (x137006 : Int) (x137007 : Bool) : Lm (fun k => tallboyref15_Check.j10 k x3 x5 x137000 x137001 x137002 x137003 x137004 x137005 x137006 x137007) (tallboyref15_Check.j10L x3 x5 x137000 x137001 x137002 x137003 x137004 x137005 x137006 x137007) := lim_spec (fun k => (tallboyref15_Check.mono_l k).2.2.2.2.2.2.2.2.2.1 _ _ _ _ _ _ _ _ _ _)
noncomputable def tallboyref15_Check.l0L (x3 : Int) (x4 : Int) (x5 : Bool) (x6 : Int) (x137000 : Int) (x137001 : List ByteArray) (x137002 : Int) (x137003 : Int) (x137004 : ByteArray) (x137005 : Int) (x137006 : Int) (x137007 : Bool) : Option (Int) := lim (fun k => tallboyref15_Check.l0 k x3 x4 x5 x6 x137000 x137001 x137002 x137003 x137004 x137005 x137006 x137007)
theorem tallboyref15_Check.l0Llm (x3 : Int) (x4 : Int) (x5 : Bool) (x6 : Int) (x137000 : Int) (x137001 : List ByteArray) (x137002 : Int) (x137003 : Int) (x137004 : ByteArray) (x137005 : Int) (x137006 : Int) (x137007 : Bool) : Lm (fun k => tallboyref15_Check.l0 k x3 x4 x5 x6 x137000 x137001 x137002 x137003 x137004 x137005 x137006 x137007) (tallboyref15_Check.l0L x3 x4 x5 x6 x137000 x137001 x137002 x137003 x137004 x137005 x137006 x137007) := lim_spec (fun k => (tallboyref15_Check.mono_l k).2.2.2.2.2.2.2.2.2.2.2.2.2 _ _ _ _ _ _ _ _ _ _ _ _)
noncomputable def tallboyref15_Check.L (a0_0 : Int) (l0_1 : List ByteArray) (a0_2 : Int) (a0_3 : Int) (a0_4 : ByteArray) (a0_5 : Int) (a0_6 : Int) (a0_7 : Bool) : Option (Int) := lim (fun k => tallboyref15_Check.f k a0_0 l0_1 a0_2 a0_3 a0_4 a0_5 a0_6 a0_7)
theorem tallboyref15_Check.Llm (a0_0 : Int) (l0_1 : List ByteArray) (a0_2 : Int) (a0_3 : Int) (a0_4 : ByteArray) (a0_5 : Int) (a0_6 : Int) (a0_7 : Bool) : Lm (fun k => tallboyref15_Check.f k a0_0 l0_1 a0_2 a0_3 a0_4 a0_5 a0_6 a0_7) (tallboyref15_Check.L a0_0 l0_1 a0_2 a0_3 a0_4 a0_5 a0_6 a0_7) := lim_spec (fun k => tallboyref15_Check.mono a0_0 l0_1 a0_2 a0_3 a0_4 a0_5 a0_6 a0_7 k)
noncomputable def tallboyref06_Same.l0L (x0 : List Int) (x1 : List Int) (x5 : Int) : Option (Bool) := lim (fun k => tallboyref06_Same.l0 k x0 x1 x5)
theorem tallboyref06_Same.l0Llm (x0 : List Int) (x1 : List Int) (x5 : Int) : Lm (fun k => tallboyref06_Same.l0 k x0 x1 x5) (tallboyref06_Same.l0L x0 x1 x5) := lim_spec (fun k => (tallboyref06_Same.mono_l k) _ _ _)
noncomputable def tallboyref06_Same.L (l0 : List Int) (l1 : List Int) : Option (Bool) := lim (fun k => tallboyref06_Same.f k l0 l1)
theorem tallboyref06_Same.Llm (l0 : List Int) (l1 : List Int) : Lm (fun k => tallboyref06_Same.f k l0 l1) (tallboyref06_Same.L l0 l1) := lim_spec (fun k => tallboyref06_Same.mono l0 l1 k)
noncomputable def fnv_More.l0L (x0 : Int) (x1 : ByteArray) (x7 : Int) (x8 : Int) : Option (Int) := lim (fun k => fnv_More.l0 k x0 x1 x7 x8)
theorem fnv_More.l0Llm (x0 : Int) (x1 : ByteArray) (x7 : Int) (x8 : Int) : Lm (fun k => fnv_More.l0 k x0 x1 x7 x8) (fnv_More.l0L x0 x1 x7 x8) := lim_spec (fun k => (fnv_More.mono_l k) _ _ _ _)
noncomputable def fnv_More.L (a0 : Int) (a1 : ByteArray) : Option (Int) := lim (fun k => fnv_More.f k a0 a1)
theorem fnv_More.Llm (a0 : Int) (a1 : ByteArray) : Lm (fun k => fnv_More.f k a0 a1) (fnv_More.L a0 a1) := lim_spec (fun k => fnv_More.mono a0 a1 k)
noncomputable def fnv_Sum.L (a0 : ByteArray) : Option (Int) := lim (fun k => fnv_Sum.f k a0)
theorem fnv_Sum.Llm (a0 : ByteArray) : Lm (fun k => fnv_Sum.f k a0) (fnv_Sum.L a0) := lim_spec (fun k => fnv_Sum.mono a0 k)
noncomputable def verb_Stripes.L (a0_0 : Int) (l0_1 : List ByteArray) (a0_2 : Int) (a0_3 : Int) (a0_4 : ByteArray) (a0_5 : Int) (a0_6 : Int) (a0_7 : Bool) : Option (List Int) := lim (fun k => verb_Stripes.f k a0_0 l0_1 a0_2 a0_3 a0_4 a0_5 a0_6 a0_7)
theorem verb_Stripes.Llm (a0_0 : Int) (l0_1 : List ByteArray) (a0_2 : Int) (a0_3 : Int) (a0_4 : ByteArray) (a0_5 : Int) (a0_6 : Int) (a0_7 : Bool) : Lm (fun k => verb_Stripes.f k a0_0 l0_1 a0_2 a0_3 a0_4 a0_5 a0_6 a0_7) (verb_Stripes.L a0_0 l0_1 a0_2 a0_3 a0_4 a0_5 a0_6 a0_7) := lim_spec (fun k => verb_Stripes.mono a0_0 l0_1 a0_2 a0_3 a0_4 a0_5 a0_6 a0_7 k)
noncomputable def tallboyref04_More.l0L (x0 : Int) (x1 : ByteArray) (x5 : Int) : Option (Int) := lim (fun k => tallboyref04_More.l0 k x0 x1 x5)
theorem tallboyref04_More.l0Llm (x0 : Int) (x1 : ByteArray) (x5 : Int) : Lm (fun k => tallboyref04_More.l0 k x0 x1 x5) (tallboyref04_More.l0L x0 x1 x5) := lim_spec (fun k => (tallboyref04_More.mono_l k) _ _ _)
noncomputable def tallboyref04_More.L (a0 : Int) (a1 : ByteArray) : Option (Int) := lim (fun k => tallboyref04_More.f k a0 a1)
theorem tallboyref04_More.Llm (a0 : Int) (a1 : ByteArray) : Lm (fun k => tallboyref04_More.f k a0 a1) (tallboyref04_More.L a0 a1) := lim_spec (fun k => tallboyref04_More.mono a0 a1 k)
noncomputable def tallboyref04_Sum.L (a0 : ByteArray) : Option (Int) := lim (fun k => tallboyref04_Sum.f k a0)
theorem tallboyref04_Sum.Llm (a0 : ByteArray) : Lm (fun k => tallboyref04_Sum.f k a0) (tallboyref04_Sum.L a0) := lim_spec (fun k => tallboyref04_Sum.mono a0 k)
noncomputable def tallboyref15_Stripes.l0L (x3 : List Int) (x4 : Int) (x148000 : Int) (x148001 : List ByteArray) (x148002 : Int) (x148003 : Int) (x148004 : ByteArray) (x148005 : Int) (x148006 : Int) (x148007 : Bool) : Option (List Int) := lim (fun k => tallboyref15_Stripes.l0 k x3 x4 x148000 x148001 x148002 x148003 x148004 x148005 x148006 x148007)
theorem tallboyref15_Stripes.l0Llm (x3 : List Int) (x4 : Int) (x148000 : Int) (x148001 : List ByteArray) (x148002 : Int) (x148003 : Int) (x148004 : ByteArray) (x148005 : Int) (x148006 : Int) (x148007 : Bool) : Lm (fun k => tallboyref15_Stripes.l0 k x3 x4 x148000 x148001 x148002 x148003 x148004 x148005 x148006 x148007) (tallboyref15_Stripes.l0L x3 x4 x148000 x148001 x148002 x148003 x148004 x148005 x148006 x148007) := lim_spec (fun k => (tallboyref15_Stripes.mono_l k).1 _ _ _ _ _ _ _ _ _ _)
noncomputable def tallboyref15_Stripes.l1L (x3 : List Int) (x4 : Int) (x5 : Bool) (x6 : Int) (x148000 : Int) (x148001 : List ByteArray) (x148002 : Int) (x148003 : Int) (x148004 : ByteArray) (x148005 : Int) (x148006 : Int) (x148007 : Bool) : Option (List Int) := lim (fun k => tallboyref15_Stripes.l1 k x3 x4 x5 x6 x148000 x148001 x148002 x148003 x148004 x148005 x148006 x148007)
theorem tallboyref15_Stripes.l1Llm (x3 : List Int) (x4 : Int) (x5 : Bool) (x6 : Int) (x148000 : Int) (x148001 : List ByteArray) (x148002 : Int) (x148003 : Int) (x148004 : ByteArray) (x148005 : Int) (x148006 : Int) (x148007 : Bool) : Lm (fun k => tallboyref15_Stripes.l1 k x3 x4 x5 x6 x148000 x148001 x148002 x148003 x148004 x148005 x148006 x148007) (tallboyref15_Stripes.l1L x3 x4 x5 x6 x148000 x148001 x148002 x148003 x148004 x148005 x148006 x148007) := lim_spec (fun k => (tallboyref15_Stripes.mono_l k).2 _ _ _ _ _ _ _ _ _ _ _ _)
noncomputable def tallboyref15_Stripes.L (a0_0 : Int) (l0_1 : List ByteArray) (a0_2 : Int) (a0_3 : Int) (a0_4 : ByteArray) (a0_5 : Int) (a0_6 : Int) (a0_7 : Bool) : Option (List Int) := lim (fun k => tallboyref15_Stripes.f k a0_0 l0_1 a0_2 a0_3 a0_4 a0_5 a0_6 a0_7)
theorem tallboyref15_Stripes.Llm (a0_0 : Int) (l0_1 : List ByteArray) (a0_2 : Int) (a0_3 : Int) (a0_4 : ByteArray) (a0_5 : Int) (a0_6 : Int) (a0_7 : Bool) : Lm (fun k => tallboyref15_Stripes.f k a0_0 l0_1 a0_2 a0_3 a0_4 a0_5 a0_6 a0_7) (tallboyref15_Stripes.L a0_0 l0_1 a0_2 a0_3 a0_4 a0_5 a0_6 a0_7) := lim_spec (fun k => tallboyref15_Stripes.mono a0_0 l0_1 a0_2 a0_3 a0_4 a0_5 a0_6 a0_7 k)
noncomputable def tallboylaw15_Great.l0L (x3 : Int) (x4 : Int) (x115000 : Int) (x115001 : List ByteArray) (x115002 : Int) (x115003 : Int) (x115004 : ByteArray) (x115005 : Int) (x115006 : Int) (x115007 : Bool) : Option (Bool) := lim (fun k => tallboylaw15_Great.l0 k x3 x4 x115000 x115001 x115002 x115003 x115004 x115005 x115006 x115007)
theorem tallboylaw15_Great.l0Llm (x3 : Int) (x4 : Int) (x115000 : Int) (x115001 : List ByteArray) (x115002 : Int) (x115003 : Int) (x115004 : ByteArray) (x115005 : Int) (x115006 : Int) (x115007 : Bool) : Lm (fun k => tallboylaw15_Great.l0 k x3 x4 x115000 x115001 x115002 x115003 x115004 x115005 x115006 x115007) (tallboylaw15_Great.l0L x3 x4 x115000 x115001 x115002 x115003 x115004 x115005 x115006 x115007) := lim_spec (fun k => (tallboylaw15_Great.mono_l k) _ _ _ _ _ _ _ _ _ _)
noncomputable def tallboylaw15_Great.L (a0_0 : Int) (l0_1 : List ByteArray) (a0_2 : Int) (a0_3 : Int) (a0_4 : ByteArray) (a0_5 : Int) (a0_6 : Int) (a0_7 : Bool) : Option (Bool) := lim (fun k => tallboylaw15_Great.f k a0_0 l0_1 a0_2 a0_3 a0_4 a0_5 a0_6 a0_7)
theorem tallboylaw15_Great.Llm (a0_0 : Int) (l0_1 : List ByteArray) (a0_2 : Int) (a0_3 : Int) (a0_4 : ByteArray) (a0_5 : Int) (a0_6 : Int) (a0_7 : Bool) : Lm (fun k => tallboylaw15_Great.f k a0_0 l0_1 a0_2 a0_3 a0_4 a0_5 a0_6 a0_7) (tallboylaw15_Great.L a0_0 l0_1 a0_2 a0_3 a0_4 a0_5 a0_6 a0_7) := lim_spec (fun k => tallboylaw15_Great.mono a0_0 l0_1 a0_2 a0_3 a0_4 a0_5 a0_6 a0_7 k)
noncomputable def verb_ends.j0L (x4 : Bool) : Option (Bool) := lim (fun k => verb_ends.j0 k x4)
theorem verb_ends.j0Llm (x4 : Bool) : Lm (fun k => verb_ends.j0 k x4) (verb_ends.j0L x4) := lim_spec (fun k => (verb_ends.mono_l k) _)
noncomputable def verb_ends.L (a0 : Int) : Option (Bool) := lim (fun k => verb_ends.f k a0)
theorem verb_ends.Llm (a0 : Int) : Lm (fun k => verb_ends.f k a0) (verb_ends.L a0) := lim_spec (fun k => verb_ends.mono a0 k)
noncomputable def fnv_Key.j0L (x0 : ByteArray) (x10 : Bool) : Option (Bool) := lim (fun k => fnv_Key.j0 k x0 x10)
theorem fnv_Key.j0Llm (x0 : ByteArray) (x10 : Bool) : Lm (fun k => fnv_Key.j0 k x0 x10) (fnv_Key.j0L x0 x10) := lim_spec (fun k => (fnv_Key.mono_l k).1 _ _)
noncomputable def fnv_Key.l0L (x0 : ByteArray) (x12 : Int) (x13 : Int) : Option (Bool) := lim (fun k => fnv_Key.l0 k x0 x12 x13)
theorem fnv_Key.l0Llm (x0 : ByteArray) (x12 : Int) (x13 : Int) : Lm (fun k => fnv_Key.l0 k x0 x12 x13) (fnv_Key.l0L x0 x12 x13) := lim_spec (fun k => (fnv_Key.mono_l k).2 _ _ _)
noncomputable def fnv_Key.L (a0 : ByteArray) : Option (Bool) := lim (fun k => fnv_Key.f k a0)
theorem fnv_Key.Llm (a0 : ByteArray) : Lm (fun k => fnv_Key.f k a0) (fnv_Key.L a0) := lim_spec (fun k => fnv_Key.mono a0 k)
noncomputable def verb_Check_1.L (a0 : ByteArray) : Option (Bool) := lim (fun k => verb_Check_1.f k a0)
theorem verb_Check_1.Llm (a0 : ByteArray) : Lm (fun k => verb_Check_1.f k a0) (verb_Check_1.L a0) := lim_spec (fun k => verb_Check_1.mono a0 k)
noncomputable def slices_ContainsFunc_string_string.L (l0 : List ByteArray) : Option (Bool) := lim (fun k => slices_ContainsFunc_string_string.f k l0)
theorem slices_ContainsFunc_string_string.Llm (l0 : List ByteArray) : Lm (fun k => slices_ContainsFunc_string_string.f k l0) (slices_ContainsFunc_string_string.L l0) := lim_spec (fun k => slices_ContainsFunc_string_string.mono l0 k)
noncomputable def verb_Check.j0L (x3 : Int) (x119000 : Int) (x119001 : List ByteArray) (x119002 : Int) (x119003 : Int) (x119004 : ByteArray) (x119005 : Int) (x119006 : Int) (x119007 : Bool) (x121000 : Int) (x121001 : List ByteArray) (x121002 : Int) (x121003 : Int) (x121004 : ByteArray) (x121005 : Int) (x121006 : Int) (x121007 : Bool) : Option (Int) := lim (fun k => verb_Check.j0 k x3 x119000 x119001 x119002 x119003 x119004 x119005 x119006 x119007 x121000 x121001 x121002 x121003 x121004 x121005 x121006 x121007)
theorem verb_Check.j0Llm (x3 : Int) (x119000 : Int) (x119001 : List ByteArray) (x119002 : Int) (x119003 : Int) (x119004 : ByteArray) (x119005 : Int) (x119006 : Int) (x119007 : Bool) (x121000 : Int) (x121001 : List ByteArray) (x121002 : Int) (x121003 : Int) (x121004 : ByteArray) (x121005 : Int) (x121006 : Int) (x121007 : Bool) : Lm (fun k => verb_Check.j0 k x3 x119000 x119001 x119002 x119003 x119004 x119005 x119006 x119007 x121000 x121001 x121002 x121003 x121004 x121005 x121006 x121007) (verb_Check.j0L x3 x119000 x119001 x119002 x119003 x119004 x119005 x119006 x119007 x121000 x121001 x121002 x121003 x121004 x121005 x121006 x121007) := lim_spec (fun k => (verb_Check.mono_l k).1 _ _ _ _ _ _ _ _ _ _ _ _ _ _ _ _ _)
noncomputable def verb_Check.j1L (x3 : Int) (x24 : Bool) (x119000 : Int) (x119001 : List ByteArray) (x119002 : Int) (x119003 : Int) (x119004 : ByteArray) (x119005 : Int) (x119006 : Int) (x119007 : Bool) (x121000 : Int) (x121001 : List ByteArray) (x121002 : Int) (x121003 : Int) (x121004 : ByteArray) (x121005 : Int) (x121006 : Int) (x121007 : Bool) : Option (Int) := lim (fun k => verb_Check.j1 k x3 x24 x119000 x119001 x119002 x119003 x119004 x119005 x119006 x119007 x121000 x121001 x121002 x121003 x121004 x121005 x121006 x121007)
theorem verb_Check.j1Llm (x3 : Int) (x24 : Bool) (x119000 : Int) (x119001 : List ByteArray) (x119002 : Int) (x119003 : Int) (x119004 : ByteArray) (x119005 : Int) (x119006 : Int) (x119007 : Bool) (x121000 : Int) (x121001 : List ByteArray) (x121002 : Int) (x121003 : Int) (x121004 : ByteArray) (x121005 : Int) (x121006 : Int) (x121007 : Bool) : Lm (fun k => verb_Check.j1 k x3 x24 x119000 x119001 x119002 x119003 x119004 x119005 x119006 x119007 x121000 x121001 x121002 x121003 x121004 x121005 x121006 x121007) (verb_Check.j1L x3 x24 x119000 x119001 x119002 x119003 x119004 x119005 x119006 x119007 x121000 x121001 x121002 x121003 x121004 x121005 x121006 x121007) := lim_spec (fun k => (verb_Check.mono_l k).2.1 _ _ _ _ _ _ _ _ _ _ _ _ _ _ _ _ _ _)
noncomputable def verb_Check.j2L (x3 : Int) (x119000 : Int) (x119001 : List ByteArray) (x119002 : Int) (x119003 : Int) (x119004 : ByteArray) (x119005 : Int) (x119006 : Int) (x119007 : Bool) (x121000 : Int) (x121001 : List ByteArray) (x121002 : Int) (x121003 : Int) (x121004 : ByteArray) (x121005 : Int) (x121006 : Int) (x121007 : Bool) : Option (Int) := lim (fun k => verb_Check.j2 k x3 x119000 x119001 x119002 x119003 x119004 x119005 x119006 x119007 x121000 x121001 x121002 x121003 x121004 x121005 x121006 x121007)
theorem verb_Check.j2Llm (x3 : Int) (x119000 : Int) (x119001 : List ByteArray) (x119002 : Int) (x119003 : Int) (x119004 : ByteArray) (x119005 : Int) (x119006 : Int) (x119007 : Bool) (x121000 : Int) (x121001 : List ByteArray) (x121002 : Int) (x121003 : Int) (x121004 : ByteArray) (x121005 : Int) (x121006 : Int) (x121007 : Bool) : Lm (fun k => verb_Check.j2 k x3 x119000 x119001 x119002 x119003 x119004 x119005 x119006 x119007 x121000 x121001 x121002 x121003 x121004 x121005 x121006 x121007) (verb_Check.j2L x3 x119000 x119001 x119002 x119003 x119004 x119005 x119006 x119007 x121000 x121001 x121002 x121003 x121004 x121005 x121006 x121007) := lim_spec (fun k => (verb_Check.mono_l k).2.2.1 _ _ _ _ _ _ _ _ _ _ _ _ _ _ _ _ _)
noncomputable def verb_Check.j3L (x3 : Int) (x119000 : Int) (x119001 : List ByteArray) (x119002 : Int) (x119003 : Int) (x119004 : ByteArray) (x119005 : Int) (x119006 : Int) (x119007 : Bool) (x121000 : Int) (x121001 : List ByteArray) (x121002 : Int) (x121003 : Int) (x121004 : ByteArray) (x121005 : Int) (x121006 : Int) (x121007 : Bool) : Option (Int) := lim (fun k => verb_Check.j3 k x3 x119000 x119001 x119002 x119003 x119004 x119005 x119006 x119007 x121000 x121001 x121002 x121003 x121004 x121005 x121006 x121007)
theorem verb_Check.j3Llm (x3 : Int) (x119000 : Int) (x119001 : List ByteArray) (x119002 : Int) (x119003 : Int) (x119004 : ByteArray) (x119005 : Int) (x119006 : Int) (x119007 : Bool) (x121000 : Int) (x121001 : List ByteArray) (x121002 : Int) (x121003 : Int) (x121004 : ByteArray) (x121005 : Int) (x121006 : Int) (x121007 : Bool) : Lm (fun k => verb_Check.j3 k x3 x119000 x119001 x119002 x119003 x119004 x119005 x119006 x119007 x121000 x121001 x121002 x121003 x121004 x121005 x121006 x121007) (verb_Check.j3L x3 x119000 x119001 x119002 x119003 x119004 x119005 x119006 x119007 x121000 x121001 x121002 x121003 x121004 x121005 x121006 x121007) := lim_spec (fun k => (verb_Check.mono_l k).2.2.2.1 _ _ _ _ _ _ _ _ _ _ _ _ _ _ _ _ _)
noncomputable def verb_Check.j4L (x3 : Int) (x119000 : Int) (x119001 : List ByteArray) (x119002 : Int) (x119003 : Int) (x119004 : ByteArray) (x119005 : Int) (x119006 : Int) (x119007 : Bool) (x121000 : Int) (x121001 : List ByteArray) (x121002 : Int) (x121003 : Int) (x121004 : ByteArray) (x121005 : Int) (x121006 : Int) (x121007 : Bool) : Option (Int) := lim (fun k => verb_Check.j4 k x3 x119000 x119001 x119002 x119003 x119004 x119005 x119006 x119007 x121000 x121001 x121002 x121003 x121004 x121005 x121006 x121007)
theorem verb_Check.j4Llm (x3 : Int) (x119000 : Int) (x119001 : List ByteArray) (x119002 : Int) (x119003 : Int) (x119004 : ByteArray) (x119005 : Int) (x119006 : Int) (x119007 : Bool) (x121000 : Int) (x121001 : List ByteArray) (x121002 : Int) (x121003 : Int) (x121004 : ByteArray) (x121005 : Int) (x121006 : Int) (x121007 : Bool) : Lm (fun k => verb_Check.j4 k x3 x119000 x119001 x119002 x119003 x119004 x119005 x119006 x119007 x121000 x121001 x121002 x121003 x121004 x121005 x121006 x121007) (verb_Check.j4L x3 x119000 x119001 x119002 x119003 x119004 x119005 x119006 x119007 x121000 x121001 x121002 x121003 x121004 x121005 x121006 x121007) := lim_spec (fun k => (verb_Check.mono_l k).2.2.2.2.1 _ _ _ _ _ _ _ _ _ _ _ _ _ _ _ _ _)
noncomputable def verb_Check.j5L (x3 : Int) (x38 : Bool) (x119000 : Int) (x119001 : List ByteArray) (x119002 : Int) (x119003 : Int) (x119004 : ByteArray) (x119005 : Int) (x119006 : Int) (x119007 : Bool) (x121000 : Int) (x121001 : List ByteArray) (x121002 : Int) (x121003 : Int) (x121004 : ByteArray) (x121005 : Int) (x121006 : Int) (x121007 : Bool) : Option (Int) := lim (fun k => verb_Check.j5 k x3 x38 x119000 x119001 x119002 x119003 x119004 x119005 x119006 x119007 x121000 x121001 x121002 x121003 x121004 x121005 x121006 x121007)
theorem verb_Check.j5Llm (x3 : Int) (x38 : Bool) (x119000 : Int) (x119001 : List ByteArray) (x119002 : Int) (x119003 : Int) (x119004 : ByteArray) (x119005 : Int) (x119006 : Int) (x119007 : Bool) (x121000 : Int) (x121001 : List ByteArray) (x121002 : Int) (x121003 : Int) (x121004 : ByteArray) (x121005 : Int) (x121006 : Int) (x121007 : Bool) : Lm (fun k => verb_Check.j5 k x3 x38 x119000 x119001 x119002 x119003 x119004 x119005 x119006 x119007 x121000 x121001 x121002 x121003 x121004 x121005 x121006 x121007) (verb_Check.j5L x3 x38 x119000 x119001 x119002 x119003 x119004 x119005 x119006 x119007 x121000 x121001 x121002 x121003 x121004 x121005 x121006 x121007) := lim_spec (fun k => (verb_Check.mono_l k).2.2.2.2.2.1 _ _ _ _ _ _ _ _ _ _ _ _ _ _ _ _ _ _)
noncomputable def verb_Check.j6L (x3 : Int) (x119000 : Int) (x119001 : List ByteArray) (x119002 : Int) (x119003 : Int) (x119004 : ByteArray) (x119005 : Int) (x119006 : Int) (x119007 : Bool) (x121000 : Int) (x121001 : List ByteArray) (x121002 : Int) (x121003 : Int) (x121004 : ByteArray) (x121005 : Int) (x121006 : Int) (x121007 : Bool) : Option (Int) := lim (fun k => verb_Check.j6 k x3 x119000 x119001 x119002 x119003 x119004 x119005 x119006 x119007 x121000 x121001 x121002 x121003 x121004 x121005 x121006 x121007)
theorem verb_Check.j6Llm (x3 : Int) (x119000 : Int) (x119001 : List ByteArray) (x119002 : Int) (x119003 : Int) (x119004 : ByteArray) (x119005 : Int) (x119006 : Int) (x119007 : Bool) (x121000 : Int) (x121001 : List ByteArray) (x121002 : Int) (x121003 : Int) (x121004 : ByteArray) (x121005 : Int) (x121006 : Int) (x121007 : Bool) : Lm (fun k => verb_Check.j6 k x3 x119000 x119001 x119002 x119003 x119004 x119005 x119006 x119007 x121000 x121001 x121002 x121003 x121004 x121005 x121006 x121007) (verb_Check.j6L x3 x119000 x119001 x119002 x119003 x119004 x119005 x119006 x119007 x121000 x121001 x121002 x121003 x121004 x121005 x121006 x121007) := lim_spec (fun k => (verb_Check.mono_l k).2.2.2.2.2.2.1 _ _ _ _ _ _ _ _ _ _ _ _ _ _ _ _ _)
noncomputable def verb_Check.j7L (x3 : Int) (x119000 : Int) (x119001 : List ByteArray) (x119002 : Int) (x119003 : Int) (x119004 : ByteArray) (x119005 : Int) (x119006 : Int) (x119007 : Bool) (x121000 : Int) (x121001 : List ByteArray) (x121002 : Int) (x121003 : Int) (x121004 : ByteArray) (x121005 : Int) (x121006 : Int) (x121007 : Bool) : Option (Int) := lim (fun k => verb_Check.j7 k x3 x119000 x119001 x119002 x119003 x119004 x119005 x119006 x119007 x121000 x121001 x121002 x121003 x121004 x121005 x121006 x121007)
theorem verb_Check.j7Llm (x3 : Int) (x119000 : Int) (x119001 : List ByteArray) (x119002 : Int) (x119003 : Int) (x119004 : ByteArray) (x119005 : Int) (x119006 : Int) (x119007 : Bool) (x121000 : Int) (x121001 : List ByteArray) (x121002 : Int) (x121003 : Int) (x121004 : ByteArray) (x121005 : Int) (x121006 : Int) (x121007 : Bool) : Lm (fun k => verb_Check.j7 k x3 x119000 x119001 x119002 x119003 x119004 x119005 x119006 x119007 x121000 x121001 x121002 x121003 x121004 x121005 x121006 x121007) (verb_Check.j7L x3 x119000 x119001 x119002 x119003 x119004 x119005 x119006 x119007 x121000 x121001 x121002 x121003 x121004 x121005 x121006 x121007) := lim_spec (fun k => (verb_Check.mono_l k).2.2.2.2.2.2.2.1 _ _ _ _ _ _ _ _ _ _ _ _ _ _ _ _ _)
noncomputable def verb_Check.j8L (x3 : Int) (x5 : Bool) (x119000 : Int) (x119001 : List ByteArray) (x119002 : Int) (x119003 : Int) (x119004 : ByteArray) (x119005 : Int) (x119006 : Int) (x119007 : Bool) : Option (Int) := lim (fun k => verb_Check.j8 k x3 x5 x119000 x119001 x119002 x119003 x119004 x119005 x119006 x119007)
theorem verb_Check.j8Llm (x3 : Int) (x5 : Bool) (x119000 : Int) (x119001 : List ByteArray) (x119002 : Int) (x119003 : Int) (x119004 : ByteArray) (x119005 : Int) (x119006 : Int) (x119007 : Bool) : Lm (fun k => verb_Check.j8 k x3 x5 x119000 x119001 x119002 x119003 x119004 x119005 x119006 x119007) (verb_Check.j8L x3 x5 x119000 x119001 x119002 x119003 x119004 x119005 x119006 x119007) := lim_spec (fun k => (verb_Check.mono_l k).2.2.2.2.2.2.2.2.1 _ _ _ _ _ _ _ _ _ _)
noncomputable def verb_Check.j9L (x83 : Bool) (x119000 : Int) (x119001 : List ByteArray) (x119002 : Int) (x119003 : Int) (x119004 : ByteArray) (x119005 : Int) (x119006 : Int) (x119007 : Bool) : Option (Int) := lim (fun k => verb_Check.j9 k x83 x119000 x119001 x119002 x119003 x119004 x119005 x119006 x119007)
theorem verb_Check.j9Llm (x83 : Bool) (x119000 : Int) (x119001 : List ByteArray) (x119002 : Int) (x119003 : Int) (x119004 : ByteArray) (x119005 : Int) (x119006 : Int) (x119007 : Bool) : Lm (fun k => verb_Check.j9 k x83 x119000 x119001 x119002 x119003 x119004 x119005 x119006 x119007) (verb_Check.j9L x83 x119000 x119001 x119002 x119003 x119004 x119005 x119006 x119007) := lim_spec (fun k => (verb_Check.mono_l k).2.2.2.2.2.2.2.2.2 _ _ _ _ _ _ _ _ _)
noncomputable def verb_Check.L (a0_0 : Int) (l0_1 : List ByteArray) (a0_2 : Int) (a0_3 : Int) (a0_4 : ByteArray) (a0_5 : Int) (a0_6 : Int) (a0_7 : Bool) : Option (Int) := lim (fun k => verb_Check.f k a0_0 l0_1 a0_2 a0_3 a0_4 a0_5 a0_6 a0_7)
theorem verb_Check.Llm (a0_0 : Int) (l0_1 : List ByteArray) (a0_2 : Int) (a0_3 : Int) (a0_4 : ByteArray) (a0_5 : Int) (a0_6 : Int) (a0_7 : Bool) : Lm (fun k => verb_Check.f k a0_0 l0_1 a0_2 a0_3 a0_4 a0_5 a0_6 a0_7) (verb_Check.L a0_0 l0_1 a0_2 a0_3 a0_4 a0_5 a0_6 a0_7) := lim_spec (fun k => verb_Check.mono a0_0 l0_1 a0_2 a0_3 a0_4 a0_5 a0_6 a0_7 k)
theorem tallboyref04_Key.j0L_eq (x0 : ByteArray) (x3 : Bool) : tallboyref04_Key.j0L x0 x3 = (tallboyref04_Key.l0L x0 x3 0) := by
  refine Lm.unique (tallboyref04_Key.j0Llm x0 x3) ?_
  refine Lm.step rfl (f := fun k => tallboyref04_Key.j0 (k + 1) x0 x3) (fun _ => rfl) ?_; simp only [tallboyref04_Key.j0]
  repeat' first
    | with_reducible exact tallboyref04_Key.l0Llm _ _ _
    | with_reducible exact Lm.const _
    | with_reducible refine Lm.bind ?_ (fun _ => ?_)
    | with_reducible refine Lm.ite ?_ ?_
    | refine Lm.bind ?_ (fun _ => ?_)
    | refine Lm.ite ?_ ?_
theorem tallboyref04_Key.l0L_eq (x0 : ByteArray) (x3 : Bool) (x4 : Int) : tallboyref04_Key.l0L x0 x3 x4 = (if x4 < (x0.size : Int) then (if x3 = true then (if 0 ≤ x4 then (if (bt x0 x4) ≥ 33 then (tallboyref04_Key.l0L x0 (decide ((bt x0 x4) ≤ 126)) (wrap64 (x4 + 1))) else (tallboyref04_Key.l0L x0 false (wrap64 (x4 + 1)))) else (none)) else (some x3)) else (some x3)) := by
  refine Lm.unique (tallboyref04_Key.l0Llm x0 x3 x4) ?_
  refine Lm.step rfl (f := fun k => tallboyref04_Key.l0 (k + 1) x0 x3 x4) (fun _ => rfl) ?_; simp only [tallboyref04_Key.l0]
  repeat' first
    | with_reducible exact tallboyref04_Key.l0Llm _ _ _
    | with_reducible exact Lm.const _
    | with_reducible refine Lm.bind ?_ (fun _ => ?_)
    | with_reducible refine Lm.ite ?_ ?_
    | refine Lm.bind ?_ (fun _ => ?_)
    | refine Lm.ite ?_ ?_
theorem tallboyref04_Key.L_eq (a0 : ByteArray) : tallboyref04_Key.L a0 = (if (a0.size : Int) ≥ 1 then (tallboyref04_Key.j0L a0 (decide ((a0.size : Int) ≤ 32))) else (tallboyref04_Key.j0L a0 false)) := by
  refine Lm.unique (tallboyref04_Key.Llm a0) ?_
  unfold tallboyref04_Key.f
  repeat' first
    | with_reducible exact tallboyref04_Key.j0Llm _ _
    | with_reducible exact Lm.const _
    | with_reducible refine Lm.bind ?_ (fun _ => ?_)
    | with_reducible refine Lm.ite ?_ ?_
    | refine Lm.bind ?_ (fun _ => ?_)
    | refine Lm.ite ?_ ?_
theorem tallboyref15_Check.j0L_eq (x3 : Int) (x16 : Bool) (x137000 : Int) (x137001 : List ByteArray) (x137002 : Int) (x137003 : Int) (x137004 : ByteArray) (x137005 : Int) (x137006 : Int) (x137007 : Bool) : tallboyref15_Check.j0L x3 x16 x137000 x137001 x137002 x137003 x137004 x137005 x137006 x137007 = (if x16 = true then (some 70) else ((tallboyref15_Reads.f x3).bind fun t137 => (if t137 = true then (if (x137001.length : Int) ≥ 1 then (tallboyref15_Check.j1L x3 (x137001.length : Int) (decide ((x137001.length : Int) ≤ 8)) x137000 x137001 x137002 x137003 x137004 x137005 x137006 x137007) else (tallboyref15_Check.j1L x3 (x137001.length : Int) false x137000 x137001 x137002 x137003 x137004 x137005 x137006 x137007)) else (tallboyref15_Check.j1L x3 (x137001.length : Int) ((x137001.length : Int) == 1) x137000 x137001 x137002 x137003 x137004 x137005 x137006 x137007)))) := by
  refine Lm.unique (tallboyref15_Check.j0Llm x3 x16 x137000 x137001 x137002 x137003 x137004 x137005 x137006 x137007) ?_
  refine Lm.step rfl (f := fun k => tallboyref15_Check.j0 (k + 1) x3 x16 x137000 x137001 x137002 x137003 x137004 x137005 x137006 x137007) (fun _ => rfl) ?_; simp only [tallboyref15_Check.j0]
  repeat' first
    | with_reducible exact tallboyref15_Check.j1Llm _ _ _ _ _ _ _ _ _ _ _
    | with_reducible exact Lm.const _
    | with_reducible refine Lm.bind ?_ (fun _ => ?_)
    | with_reducible refine Lm.ite ?_ ?_
    | refine Lm.bind ?_ (fun _ => ?_)
    | refine Lm.ite ?_ ?_
theorem tallboyref15_Check.j1L_eq (x3 : Int) (x4 : Int) (x5 : Bool) (x137000 : Int) (x137001 : List ByteArray) (x137002 : Int) (x137003 : Int) (x137004 : ByteArray) (x137005 : Int) (x137006 : Int) (x137007 : Bool) : tallboyref15_Check.j1L x3 x4 x5 x137000 x137001 x137002 x137003 x137004 x137005 x137006 x137007 = (if x3 = 15 then (tallboyref15_Check.j2L x3 x4 (x4 == 0) x137000 x137001 x137002 x137003 x137004 x137005 x137006 x137007) else (tallboyref15_Check.j2L x3 x4 x5 x137000 x137001 x137002 x137003 x137004 x137005 x137006 x137007)) := by
  refine Lm.unique (tallboyref15_Check.j1Llm x3 x4 x5 x137000 x137001 x137002 x137003 x137004 x137005 x137006 x137007) ?_
  refine Lm.step rfl (f := fun k => tallboyref15_Check.j1 (k + 1) x3 x4 x5 x137000 x137001 x137002 x137003 x137004 x137005 x137006 x137007) (fun _ => rfl) ?_; simp only [tallboyref15_Check.j1]
  repeat' first
    | with_reducible exact tallboyref15_Check.j2Llm _ _ _ _ _ _ _ _ _ _ _
    | with_reducible exact Lm.const _
    | with_reducible refine Lm.bind ?_ (fun _ => ?_)
    | with_reducible refine Lm.ite ?_ ?_
    | refine Lm.bind ?_ (fun _ => ?_)
    | refine Lm.ite ?_ ?_
theorem tallboyref15_Check.j2L_eq (x3 : Int) (x4 : Int) (x5 : Bool) (x137000 : Int) (x137001 : List ByteArray) (x137002 : Int) (x137003 : Int) (x137004 : ByteArray) (x137005 : Int) (x137006 : Int) (x137007 : Bool) : tallboyref15_Check.j2L x3 x4 x5 x137000 x137001 x137002 x137003 x137004 x137005 x137006 x137007 = (tallboyref15_Check.l0L x3 x4 x5 0 x137000 x137001 x137002 x137003 x137004 x137005 x137006 x137007) := by
  refine Lm.unique (tallboyref15_Check.j2Llm x3 x4 x5 x137000 x137001 x137002 x137003 x137004 x137005 x137006 x137007) ?_
  refine Lm.step rfl (f := fun k => tallboyref15_Check.j2 (k + 1) x3 x4 x5 x137000 x137001 x137002 x137003 x137004 x137005 x137006 x137007) (fun _ => rfl) ?_; simp only [tallboyref15_Check.j2]
  repeat' first
    | with_reducible exact tallboyref15_Check.l0Llm _ _ _ _ _ _ _ _ _ _ _ _
    | with_reducible exact Lm.const _
    | with_reducible refine Lm.bind ?_ (fun _ => ?_)
    | with_reducible refine Lm.ite ?_ ?_
    | refine Lm.bind ?_ (fun _ => ?_)
    | refine Lm.ite ?_ ?_
theorem tallboyref15_Check.j4L_eq (x3 : Int) (x5 : Bool) (x137000 : Int) (x137001 : List ByteArray) (x137002 : Int) (x137003 : Int) (x137004 : ByteArray) (x137005 : Int) (x137006 : Int) (x137007 : Bool) : tallboyref15_Check.j4L x3 x5 x137000 x137001 x137002 x137003 x137004 x137005 x137006 x137007 = ((tallboyref15_Stores.f x3).bind fun t140 => (if t140 = true then (tallboyref15_Check.j5L x3 x5 x137000 x137001 x137002 x137003 x137004 x137005 x137006 x137007) else (if x5 = true then (tallboyref15_Check.j5L x3 (x137004.toList == ([] : List UInt8)) x137000 x137001 x137002 x137003 x137004 x137005 x137006 x137007) else (tallboyref15_Check.j5L x3 false x137000 x137001 x137002 x137003 x137004 x137005 x137006 x137007)))) := by
  refine Lm.unique (tallboyref15_Check.j4Llm x3 x5 x137000 x137001 x137002 x137003 x137004 x137005 x137006 x137007) ?_
  refine Lm.step rfl (f := fun k => tallboyref15_Check.j4 (k + 1) x3 x5 x137000 x137001 x137002 x137003 x137004 x137005 x137006 x137007) (fun _ => rfl) ?_; simp only [tallboyref15_Check.j4]
  repeat' first
    | with_reducible exact tallboyref15_Check.j5Llm _ _ _ _ _ _ _ _ _ _
    | with_reducible exact Lm.const _
    | with_reducible refine Lm.bind ?_ (fun _ => ?_)
    | with_reducible refine Lm.ite ?_ ?_
    | refine Lm.bind ?_ (fun _ => ?_)
    | refine Lm.ite ?_ ?_
theorem tallboyref15_Check.j5L_eq (x3 : Int) (x5 : Bool) (x137000 : Int) (x137001 : List ByteArray) (x137002 : Int) (x137003 : Int) (x137004 : ByteArray) (x137005 : Int) (x137006 : Int) (x137007 : Bool) : tallboyref15_Check.j5L x3 x5 x137000 x137001 x137002 x137003 x137004 x137005 x137006 x137007 = ((tallboyref15_Stores.f x3).bind fun t141 => (if t141 = true then (if x3 = 8 then (tallboyref15_Check.j6L x3 x5 false x137000 x137001 x137002 x137003 x137004 x137005 x137006 x137007) else (tallboyref15_Check.j6L x3 x5 (x3 != 9) x137000 x137001 x137002 x137003 x137004 x137005 x137006 x137007)) else (tallboyref15_Check.j6L x3 x5 false x137000 x137001 x137002 x137003 x137004 x137005 x137006 x137007))) := by
  refine Lm.unique (tallboyref15_Check.j5Llm x3 x5 x137000 x137001 x137002 x137003 x137004 x137005 x137006 x137007) ?_
  refine Lm.step rfl (f := fun k => tallboyref15_Check.j5 (k + 1) x3 x5 x137000 x137001 x137002 x137003 x137004 x137005 x137006 x137007) (fun _ => rfl) ?_; simp only [tallboyref15_Check.j5]
  repeat' first
    | with_reducible exact tallboyref15_Check.j6Llm _ _ _ _ _ _ _ _ _ _ _
    | with_reducible exact Lm.const _
    | with_reducible refine Lm.bind ?_ (fun _ => ?_)
    | with_reducible refine Lm.ite ?_ ?_
    | refine Lm.bind ?_ (fun _ => ?_)
    | refine Lm.ite ?_ ?_
theorem tallboyref15_Check.j6L_eq (x3 : Int) (x5 : Bool) (x7 : Bool) (x137000 : Int) (x137001 : List ByteArray) (x137002 : Int) (x137003 : Int) (x137004 : ByteArray) (x137005 : Int) (x137006 : Int) (x137007 : Bool) : tallboyref15_Check.j6L x3 x5 x7 x137000 x137001 x137002 x137003 x137004 x137005 x137006 x137007 = (if x7 = true then (tallboyref15_Check.j7L x3 x5 x7 x137000 x137001 x137002 x137003 x137004 x137005 x137006 x137007) else (if x5 = true then (tallboyref15_Check.j7L x3 (x137002 == 0) x7 x137000 x137001 x137002 x137003 x137004 x137005 x137006 x137007) else (tallboyref15_Check.j7L x3 false x7 x137000 x137001 x137002 x137003 x137004 x137005 x137006 x137007))) := by
  refine Lm.unique (tallboyref15_Check.j6Llm x3 x5 x7 x137000 x137001 x137002 x137003 x137004 x137005 x137006 x137007) ?_
  refine Lm.step rfl (f := fun k => tallboyref15_Check.j6 (k + 1) x3 x5 x7 x137000 x137001 x137002 x137003 x137004 x137005 x137006 x137007) (fun _ => rfl) ?_; simp only [tallboyref15_Check.j6]
  repeat' first
    | with_reducible exact tallboyref15_Check.j7Llm _ _ _ _ _ _ _ _ _ _ _
    | with_reducible exact Lm.const _
    | with_reducible refine Lm.bind ?_ (fun _ => ?_)
    | with_reducible refine Lm.ite ?_ ?_
    | refine Lm.bind ?_ (fun _ => ?_)
    | refine Lm.ite ?_ ?_
theorem tallboyref15_Check.j7L_eq (x3 : Int) (x5 : Bool) (x7 : Bool) (x137000 : Int) (x137001 : List ByteArray) (x137002 : Int) (x137003 : Int) (x137004 : ByteArray) (x137005 : Int) (x137006 : Int) (x137007 : Bool) : tallboyref15_Check.j7L x3 x5 x7 x137000 x137001 x137002 x137003 x137004 x137005 x137006 x137007 = (if x7 = true then (tallboyref15_Check.j8L x3 x5 true x137000 x137001 x137002 x137003 x137004 x137005 x137006 x137007) else (if x3 = 3 then (tallboyref15_Check.j8L x3 x5 true x137000 x137001 x137002 x137003 x137004 x137005 x137006 x137007) else (if x3 = 4 then (tallboyref15_Check.j8L x3 x5 true x137000 x137001 x137002 x137003 x137004 x137005 x137006 x137007) else (tallboyref15_Check.j8L x3 x5 (x3 == 14) x137000 x137001 x137002 x137003 x137004 x137005 x137006 x137007)))) := by
  refine Lm.unique (tallboyref15_Check.j7Llm x3 x5 x7 x137000 x137001 x137002 x137003 x137004 x137005 x137006 x137007) ?_
  refine Lm.step rfl (f := fun k => tallboyref15_Check.j7 (k + 1) x3 x5 x7 x137000 x137001 x137002 x137003 x137004 x137005 x137006 x137007) (fun _ => rfl) ?_; simp only [tallboyref15_Check.j7]
  repeat' first
    | with_reducible exact tallboyref15_Check.j8Llm _ _ _ _ _ _ _ _ _ _ _
    | with_reducible exact Lm.const _
    | with_reducible refine Lm.bind ?_ (fun _ => ?_)
    | with_reducible refine Lm.ite ?_ ?_
    | refine Lm.bind ?_ (fun _ => ?_)
    | refine Lm.ite ?_ ?_
theorem tallboyref15_Check.j8L_eq (x3 : Int) (x5 : Bool) (x8 : Bool) (x137000 : Int) (x137001 : List ByteArray) (x137002 : Int) (x137003 : Int) (x137004 : ByteArray) (x137005 : Int) (x137006 : Int) (x137007 : Bool) : tallboyref15_Check.j8L x3 x5 x8 x137000 x137001 x137002 x137003 x137004 x137005 x137006 x137007 = (if x8 = true then (tallboyref15_Check.j9L x3 x5 x137000 x137001 x137002 x137003 x137004 x137005 x137006 x137007) else (if x5 = true then (tallboyref15_Check.j9L x3 (x137003 == 0) x137000 x137001 x137002 x137003 x137004 x137005 x137006 x137007) else (tallboyref15_Check.j9L x3 false x137000 x137001 x137002 x137003 x137004 x137005 x137006 x137007))) := by
  refine Lm.unique (tallboyref15_Check.j8Llm x3 x5 x8 x137000 x137001 x137002 x137003 x137004 x137005 x137006 x137007) ?_
  refine Lm.step rfl (f := fun k => tallboyref15_Check.j8 (k + 1) x3 x5 x8 x137000 x137001 x137002 x137003 x137004 x137005 x137006 x137007) (fun _ => rfl) ?_; simp only [tallboyref15_Check.j8]
  repeat' first
    | with_reducible exact tallboyref15_Check.j9Llm _ _ _ _ _ _ _ _ _ _
    | with_reducible exact Lm.const _
    | with_reducible refine Lm.bind ?_ (fun _ => ?_)
    | with_reducible refine Lm.ite ?_ ?_
    | refine Lm.bind ?_ (fun _ => ?_)
    | refine Lm.ite ?_ ?_
theorem tallboyref15_Check.j9L_eq (x3 : Int) (x5 : Bool) (x137000 : Int) (x137001 : List ByteArray) (x137002 : Int) (x137003 : Int) (x137004 : ByteArray) (x137005 : Int) (x137006 : Int) (x137007 : Bool) : tallboyref15_Check.j9L x3 x5 x137000 x137001 x137002 x137003 x137004 x137005 x137006 x137007 = (if x3 = 10 then (tallboyref15_Check.j10L x3 x5 x137000 x137001 x137002 x137003 x137004 x137005 x137006 x137007) else (if x5 = true then (tallboyref15_Check.j10L x3 (x137005 == 0) x137000 x137001 x137002 x137003 x137004 x137005 x137006 x137007) else (tallboyref15_Check.j10L x3 false x137000 x137001 x137002 x137003 x137004 x137005 x137006 x137007))) := by
  refine Lm.unique (tallboyref15_Check.j9Llm x3 x5 x137000 x137001 x137002 x137003 x137004 x137005 x137006 x137007) ?_
  refine Lm.step rfl (f := fun k => tallboyref15_Check.j9 (k + 1) x3 x5 x137000 x137001 x137002 x137003 x137004 x137005 x137006 x137007) (fun _ => rfl) ?_; simp only [tallboyref15_Check.j9]
  repeat' first
    | with_reducible exact tallboyref15_Check.j10Llm _ _ _ _ _ _ _ _ _ _
    | with_reducible exact Lm.const _
    | with_reducible refine Lm.bind ?_ (fun _ => ?_)
    | with_reducible refine Lm.ite ?_ ?_
    | refine Lm.bind ?_ (fun _ => ?_)
    | refine Lm.ite ?_ ?_
theorem tallboyref15_Check.l0L_eq (x3 : Int) (x4 : Int) (x5 : Bool) (x6 : Int) (x137000 : Int) (x137001 : List ByteArray) (x137002 : Int) (x137003 : Int) (x137004 : ByteArray) (x137005 : Int) (x137006 : Int) (x137007 : Bool) : tallboyref15_Check.l0L x3 x4 x5 x6 x137000 x137001 x137002 x137003 x137004 x137005 x137006 x137007 = (if x6 < x4 then (if x5 = true then (if 0 ≤ x6 then (if x6 < (x137001.length : Int) then ((tallboyref04_Key.L (rdOf ByteArray.empty x137001 x6)).bind fun t139 => (tallboyref15_Check.l0L x3 x4 t139 (wrap64 (x6 + 1)) x137000 x137001 x137002 x137003 x137004 x137005 x137006 x137007)) else (none)) else (none)) else (tallboyref15_Check.j4L x3 x5 x137000 x137001 x137002 x137003 x137004 x137005 x137006 x137007)) else (tallboyref15_Check.j4L x3 x5 x137000 x137001 x137002 x137003 x137004 x137005 x137006 x137007)) := by
  refine Lm.unique (tallboyref15_Check.l0Llm x3 x4 x5 x6 x137000 x137001 x137002 x137003 x137004 x137005 x137006 x137007) ?_
  refine Lm.step rfl (f := fun k => tallboyref15_Check.l0 (k + 1) x3 x4 x5 x6 x137000 x137001 x137002 x137003 x137004 x137005 x137006 x137007) (fun _ => rfl) ?_; simp only [tallboyref15_Check.l0]
  repeat' first
    | with_reducible exact tallboyref15_Check.l0Llm _ _ _ _ _ _ _ _ _ _ _ _
    | with_reducible exact tallboyref15_Check.j4Llm _ _ _ _ _ _ _ _ _ _
    | with_reducible exact tallboyref04_Key.Llm _
    | with_reducible exact Lm.const _
    | with_reducible refine Lm.bind ?_ (fun _ => ?_)
    | with_reducible refine Lm.ite ?_ ?_
    | refine Lm.bind ?_ (fun _ => ?_)
    | refine Lm.ite ?_ ?_
theorem tallboyref15_Check.L_eq (a0_0 : Int) (l0_1 : List ByteArray) (a0_2 : Int) (a0_3 : Int) (a0_4 : ByteArray) (a0_5 : Int) (a0_6 : Int) (a0_7 : Bool) : tallboyref15_Check.L a0_0 l0_1 a0_2 a0_3 a0_4 a0_5 a0_6 a0_7 = (if a0_0 < 1 then (tallboyref15_Check.j0L a0_0 true a0_0 l0_1 a0_2 a0_3 a0_4 a0_5 a0_6 a0_7) else (tallboyref15_Check.j0L a0_0 (decide (a0_0 > 15)) a0_0 l0_1 a0_2 a0_3 a0_4 a0_5 a0_6 a0_7)) := by
  refine Lm.unique (tallboyref15_Check.Llm a0_0 l0_1 a0_2 a0_3 a0_4 a0_5 a0_6 a0_7) ?_
  unfold tallboyref15_Check.f
  repeat' first
    | with_reducible exact tallboyref15_Check.j0Llm _ _ _ _ _ _ _ _ _ _
    | with_reducible exact Lm.const _
    | with_reducible refine Lm.bind ?_ (fun _ => ?_)
    | with_reducible refine Lm.ite ?_ ?_
    | refine Lm.bind ?_ (fun _ => ?_)
    | refine Lm.ite ?_ ?_
theorem tallboyref06_Same.l0L_eq (x0 : List Int) (x1 : List Int) (x5 : Int) : tallboyref06_Same.l0L x0 x1 x5 = (if x5 < (x0.length : Int) then (if 0 ≤ x5 then (if x5 < (x1.length : Int) then (if (rd x0 x5) = (rd x1 x5) then (tallboyref06_Same.l0L x0 x1 (wrap64 (x5 + 1))) else (some false)) else (none)) else (none)) else (some true)) := by
  refine Lm.unique (tallboyref06_Same.l0Llm x0 x1 x5) ?_
  refine Lm.step rfl (f := fun k => tallboyref06_Same.l0 (k + 1) x0 x1 x5) (fun _ => rfl) ?_; simp only [tallboyref06_Same.l0]
  repeat' first
    | with_reducible exact tallboyref06_Same.l0Llm _ _ _
    | with_reducible exact Lm.const _
    | with_reducible refine Lm.bind ?_ (fun _ => ?_)
    | with_reducible refine Lm.ite ?_ ?_
    | refine Lm.bind ?_ (fun _ => ?_)
    | refine Lm.ite ?_ ?_
theorem tallboyref06_Same.L_eq (l0 : List Int) (l1 : List Int) : tallboyref06_Same.L l0 l1 = (if (l0.length : Int) = (l1.length : Int) then (tallboyref06_Same.l0L l0 l1 0) else (some false)) := by
  refine Lm.unique (tallboyref06_Same.Llm l0 l1) ?_
  unfold tallboyref06_Same.f
  repeat' first
    | with_reducible exact tallboyref06_Same.l0Llm _ _ _
    | with_reducible exact Lm.const _
    | with_reducible refine Lm.bind ?_ (fun _ => ?_)
    | with_reducible refine Lm.ite ?_ ?_
    | refine Lm.bind ?_ (fun _ => ?_)
    | refine Lm.ite ?_ ?_
theorem fnv_More.l0L_eq (x0 : Int) (x1 : ByteArray) (x7 : Int) (x8 : Int) : fnv_More.l0L x0 x1 x7 x8 = (if x8 < x7 then (if 0 ≤ x8 then (if x8 < (x1.size : Int) then (fnv_More.l0L (((Go.bits .xor .u32 x0 ((bt x1 x8) % 4294967296)) * 16777619) % 4294967296) x1 x7 (wrap64 (x8 + 1))) else (none)) else (none)) else (some x0)) := by
  refine Lm.unique (fnv_More.l0Llm x0 x1 x7 x8) ?_
  refine Lm.step rfl (f := fun k => fnv_More.l0 (k + 1) x0 x1 x7 x8) (fun _ => rfl) ?_; simp only [fnv_More.l0]
  repeat' first
    | with_reducible exact fnv_More.l0Llm _ _ _ _
    | with_reducible exact Lm.const _
    | with_reducible refine Lm.bind ?_ (fun _ => ?_)
    | with_reducible refine Lm.ite ?_ ?_
    | refine Lm.bind ?_ (fun _ => ?_)
    | refine Lm.ite ?_ ?_
theorem fnv_More.L_eq (a0 : Int) (a1 : ByteArray) : fnv_More.L a0 a1 = (fnv_More.l0L a0 a1 (a1.size : Int) 0) := by
  refine Lm.unique (fnv_More.Llm a0 a1) ?_
  unfold fnv_More.f
  repeat' first
    | with_reducible exact fnv_More.l0Llm _ _ _ _
    | with_reducible exact Lm.const _
    | with_reducible refine Lm.bind ?_ (fun _ => ?_)
    | with_reducible refine Lm.ite ?_ ?_
    | refine Lm.bind ?_ (fun _ => ?_)
    | refine Lm.ite ?_ ?_
theorem fnv_Sum.L_eq (a0 : ByteArray) : fnv_Sum.L a0 = ((fnv_More.L 2166136261 a0).bind fun t145 => (some t145)) := by
  refine Lm.unique (fnv_Sum.Llm a0) ?_
  unfold fnv_Sum.f
  repeat' first
    | with_reducible exact fnv_More.Llm _ _
    | with_reducible exact Lm.const _
    | with_reducible refine Lm.bind ?_ (fun _ => ?_)
    | with_reducible refine Lm.ite ?_ ?_
    | refine Lm.bind ?_ (fun _ => ?_)
    | refine Lm.ite ?_ ?_
theorem tallboyref04_More.l0L_eq (x0 : Int) (x1 : ByteArray) (x5 : Int) : tallboyref04_More.l0L x0 x1 x5 = (if x5 < (x1.size : Int) then (if 0 ≤ x5 then (tallboyref04_More.l0L ((Int.tmod (IntKind.u64.wrap ((IntKind.u64.wrap (Go.bits .xor .u32 x0 ((bt x1 x5) % 4294967296))) * 16777619)) 4294967296) % 4294967296) x1 (wrap64 (x5 + 1))) else (none)) else (some x0)) := by
  refine Lm.unique (tallboyref04_More.l0Llm x0 x1 x5) ?_
  refine Lm.step rfl (f := fun k => tallboyref04_More.l0 (k + 1) x0 x1 x5) (fun _ => rfl) ?_; simp only [tallboyref04_More.l0]
  repeat' first
    | with_reducible exact tallboyref04_More.l0Llm _ _ _
    | with_reducible exact Lm.const _
    | with_reducible refine Lm.bind ?_ (fun _ => ?_)
    | with_reducible refine Lm.ite ?_ ?_
    | refine Lm.bind ?_ (fun _ => ?_)
    | refine Lm.ite ?_ ?_
theorem tallboyref04_More.L_eq (a0 : Int) (a1 : ByteArray) : tallboyref04_More.L a0 a1 = (tallboyref04_More.l0L a0 a1 0) := by
  refine Lm.unique (tallboyref04_More.Llm a0 a1) ?_
  unfold tallboyref04_More.f
  repeat' first
    | with_reducible exact tallboyref04_More.l0Llm _ _ _
    | with_reducible exact Lm.const _
    | with_reducible refine Lm.bind ?_ (fun _ => ?_)
    | with_reducible refine Lm.ite ?_ ?_
    | refine Lm.bind ?_ (fun _ => ?_)
    | refine Lm.ite ?_ ?_
theorem tallboyref04_Sum.L_eq (a0 : ByteArray) : tallboyref04_Sum.L a0 = ((tallboyref04_More.L 2166136261 a0).bind fun t146 => (some t146)) := by
  refine Lm.unique (tallboyref04_Sum.Llm a0) ?_
  unfold tallboyref04_Sum.f
  repeat' first
    | with_reducible exact tallboyref04_More.Llm _ _
    | with_reducible exact Lm.const _
    | with_reducible refine Lm.bind ?_ (fun _ => ?_)
    | with_reducible refine Lm.ite ?_ ?_
    | refine Lm.bind ?_ (fun _ => ?_)
    | refine Lm.ite ?_ ?_
theorem tallboyref15_Stripes.l0L_eq (x3 : List Int) (x4 : Int) (x148000 : Int) (x148001 : List ByteArray) (x148002 : Int) (x148003 : Int) (x148004 : ByteArray) (x148005 : Int) (x148006 : Int) (x148007 : Bool) : tallboyref15_Stripes.l0L x3 x4 x148000 x148001 x148002 x148003 x148004 x148005 x148006 x148007 = (if x4 < 4 then (tallboyref15_Stripes.l1L x3 x4 (x148000 == 15) 0 x148000 x148001 x148002 x148003 x148004 x148005 x148006 x148007) else (some x3)) := by
  refine Lm.unique (tallboyref15_Stripes.l0Llm x3 x4 x148000 x148001 x148002 x148003 x148004 x148005 x148006 x148007) ?_
  refine Lm.step rfl (f := fun k => tallboyref15_Stripes.l0 (k + 1) x3 x4 x148000 x148001 x148002 x148003 x148004 x148005 x148006 x148007) (fun _ => rfl) ?_; simp only [tallboyref15_Stripes.l0]
  repeat' first
    | with_reducible exact tallboyref15_Stripes.l1Llm _ _ _ _ _ _ _ _ _ _ _ _
    | with_reducible exact Lm.const _
    | with_reducible refine Lm.bind ?_ (fun _ => ?_)
    | with_reducible refine Lm.ite ?_ ?_
    | refine Lm.bind ?_ (fun _ => ?_)
    | refine Lm.ite ?_ ?_
theorem tallboyref15_Stripes.l1L_eq (x3 : List Int) (x4 : Int) (x5 : Bool) (x6 : Int) (x148000 : Int) (x148001 : List ByteArray) (x148002 : Int) (x148003 : Int) (x148004 : ByteArray) (x148005 : Int) (x148006 : Int) (x148007 : Bool) : tallboyref15_Stripes.l1L x3 x4 x5 x6 x148000 x148001 x148002 x148003 x148004 x148005 x148006 x148007 = (if x6 < (x148001.length : Int) then (if x5 = true then (tallboyref15_Stripes.l1L x3 x4 true (wrap64 (x6 + 1)) x148000 x148001 x148002 x148003 x148004 x148005 x148006 x148007) else (if 0 ≤ x6 then ((tallboyref04_Sum.L (rdOf ByteArray.empty x148001 x6)).bind fun t149 => ((tallboyref04_Stripe.f t149).bind fun t150 => (tallboyref15_Stripes.l1L x3 x4 (t150 == x4) (wrap64 (x6 + 1)) x148000 x148001 x148002 x148003 x148004 x148005 x148006 x148007))) else (none))) else (if x5 = true then (if x3.length < 17592186044416 then (tallboyref15_Stripes.l0L (x3 ++ [x4]) (wrap64 (x4 + 1)) x148000 x148001 x148002 x148003 x148004 x148005 x148006 x148007) else (none)) else (tallboyref15_Stripes.l0L x3 (wrap64 (x4 + 1)) x148000 x148001 x148002 x148003 x148004 x148005 x148006 x148007))) := by
  refine Lm.unique (tallboyref15_Stripes.l1Llm x3 x4 x5 x6 x148000 x148001 x148002 x148003 x148004 x148005 x148006 x148007) ?_
  refine Lm.step rfl (f := fun k => tallboyref15_Stripes.l1 (k + 1) x3 x4 x5 x6 x148000 x148001 x148002 x148003 x148004 x148005 x148006 x148007) (fun _ => rfl) ?_; simp only [tallboyref15_Stripes.l1]
  repeat' first
    | with_reducible exact tallboyref15_Stripes.l1Llm _ _ _ _ _ _ _ _ _ _ _ _
    | with_reducible exact tallboyref15_Stripes.l0Llm _ _ _ _ _ _ _ _ _ _
    | with_reducible exact tallboyref04_Sum.Llm _
    | with_reducible exact Lm.const _
    | with_reducible refine Lm.bind ?_ (fun _ => ?_)
    | with_reducible refine Lm.ite ?_ ?_
    | refine Lm.bind ?_ (fun _ => ?_)
    | refine Lm.ite ?_ ?_
theorem tallboyref15_Stripes.L_eq (a0_0 : Int) (l0_1 : List ByteArray) (a0_2 : Int) (a0_3 : Int) (a0_4 : ByteArray) (a0_5 : Int) (a0_6 : Int) (a0_7 : Bool) : tallboyref15_Stripes.L a0_0 l0_1 a0_2 a0_3 a0_4 a0_5 a0_6 a0_7 = (tallboyref15_Stripes.l0L ([] : List Int) 0 a0_0 l0_1 a0_2 a0_3 a0_4 a0_5 a0_6 a0_7) := by
  refine Lm.unique (tallboyref15_Stripes.Llm a0_0 l0_1 a0_2 a0_3 a0_4 a0_5 a0_6 a0_7) ?_
  unfold tallboyref15_Stripes.f
  repeat' first
    | with_reducible exact tallboyref15_Stripes.l0Llm _ _ _ _ _ _ _ _ _ _
    | with_reducible exact Lm.const _
    | with_reducible refine Lm.bind ?_ (fun _ => ?_)
    | with_reducible refine Lm.ite ?_ ?_
    | refine Lm.bind ?_ (fun _ => ?_)
    | refine Lm.ite ?_ ?_
theorem tallboylaw15_Great.l0L_eq (x3 : Int) (x4 : Int) (x115000 : Int) (x115001 : List ByteArray) (x115002 : Int) (x115003 : Int) (x115004 : ByteArray) (x115005 : Int) (x115006 : Int) (x115007 : Bool) : tallboylaw15_Great.l0L x3 x4 x115000 x115001 x115002 x115003 x115004 x115005 x115006 x115007 = (if x4 < (x115001.length : Int) then (if x3 < 10000 then (if 0 ≤ x4 then (tallboylaw15_Great.l0L (wrap64 (x3 + ((rdOf ByteArray.empty x115001 x4).size : Int))) (wrap64 (x4 + 1)) x115000 x115001 x115002 x115003 x115004 x115005 x115006 x115007) else (none)) else (if x3 ≥ 10000 then (some true) else (some (decide ((x115001.length : Int) > 100))))) else (if x3 ≥ 10000 then (some true) else (some (decide ((x115001.length : Int) > 100))))) := by
  refine Lm.unique (tallboylaw15_Great.l0Llm x3 x4 x115000 x115001 x115002 x115003 x115004 x115005 x115006 x115007) ?_
  refine Lm.step rfl (f := fun k => tallboylaw15_Great.l0 (k + 1) x3 x4 x115000 x115001 x115002 x115003 x115004 x115005 x115006 x115007) (fun _ => rfl) ?_; simp only [tallboylaw15_Great.l0]
  repeat' first
    | with_reducible exact tallboylaw15_Great.l0Llm _ _ _ _ _ _ _ _ _ _
    | with_reducible exact Lm.const _
    | with_reducible refine Lm.bind ?_ (fun _ => ?_)
    | with_reducible refine Lm.ite ?_ ?_
    | refine Lm.bind ?_ (fun _ => ?_)
    | refine Lm.ite ?_ ?_
theorem tallboylaw15_Great.L_eq (a0_0 : Int) (l0_1 : List ByteArray) (a0_2 : Int) (a0_3 : Int) (a0_4 : ByteArray) (a0_5 : Int) (a0_6 : Int) (a0_7 : Bool) : tallboylaw15_Great.L a0_0 l0_1 a0_2 a0_3 a0_4 a0_5 a0_6 a0_7 = (tallboylaw15_Great.l0L (a0_4.size : Int) 0 a0_0 l0_1 a0_2 a0_3 a0_4 a0_5 a0_6 a0_7) := by
  refine Lm.unique (tallboylaw15_Great.Llm a0_0 l0_1 a0_2 a0_3 a0_4 a0_5 a0_6 a0_7) ?_
  unfold tallboylaw15_Great.f
  repeat' first
    | with_reducible exact tallboylaw15_Great.l0Llm _ _ _ _ _ _ _ _ _ _
    | with_reducible exact Lm.const _
    | with_reducible refine Lm.bind ?_ (fun _ => ?_)
    | with_reducible refine Lm.ite ?_ ?_
    | refine Lm.bind ?_ (fun _ => ?_)
    | refine Lm.ite ?_ ?_
theorem verb_ends.j0L_eq (x4 : Bool) : verb_ends.j0L x4 = (if x4 = true then (some true) else (some false)) := by
  refine Lm.unique (verb_ends.j0Llm x4) ?_
  refine Lm.step rfl (f := fun k => verb_ends.j0 (k + 1) x4) (fun _ => rfl) ?_; simp only [verb_ends.j0]
  repeat' first
    | with_reducible exact Lm.const _
    | with_reducible refine Lm.bind ?_ (fun _ => ?_)
    | with_reducible refine Lm.ite ?_ ?_
    | refine Lm.bind ?_ (fun _ => ?_)
    | refine Lm.ite ?_ ?_
theorem verb_ends.L_eq (a0 : Int) : verb_ends.L a0 = (if a0 = 3 then (verb_ends.j0L (a0 == 3)) else (if a0 = 4 then (verb_ends.j0L (a0 == 4)) else (if a0 = 14 then (verb_ends.j0L (a0 == 14)) else (if a0 = 5 then (verb_ends.j0L (a0 == 5)) else (if a0 = 6 then (verb_ends.j0L (a0 == 6)) else (if a0 = 7 then (verb_ends.j0L (a0 == 7)) else (verb_ends.j0L (a0 == 10)))))))) := by
  refine Lm.unique (verb_ends.Llm a0) ?_
  unfold verb_ends.f
  repeat' first
    | with_reducible exact verb_ends.j0Llm _
    | with_reducible exact Lm.const _
    | with_reducible refine Lm.bind ?_ (fun _ => ?_)
    | with_reducible refine Lm.ite ?_ ?_
    | refine Lm.bind ?_ (fun _ => ?_)
    | refine Lm.ite ?_ ?_
theorem fnv_Key.j0L_eq (x0 : ByteArray) (x10 : Bool) : fnv_Key.j0L x0 x10 = (if x10 = true then (some false) else (fnv_Key.l0L x0 (x0.size : Int) 0)) := by
  refine Lm.unique (fnv_Key.j0Llm x0 x10) ?_
  refine Lm.step rfl (f := fun k => fnv_Key.j0 (k + 1) x0 x10) (fun _ => rfl) ?_; simp only [fnv_Key.j0]
  repeat' first
    | with_reducible exact fnv_Key.l0Llm _ _ _
    | with_reducible exact Lm.const _
    | with_reducible refine Lm.bind ?_ (fun _ => ?_)
    | with_reducible refine Lm.ite ?_ ?_
    | refine Lm.bind ?_ (fun _ => ?_)
    | refine Lm.ite ?_ ?_
theorem fnv_Key.l0L_eq (x0 : ByteArray) (x12 : Int) (x13 : Int) : fnv_Key.l0L x0 x12 x13 = (if x13 < x12 then (if 0 ≤ x13 then (if x13 < (x0.size : Int) then (if (bt x0 x13) < 33 then (some false) else (if (bt x0 x13) > 126 then (some false) else (fnv_Key.l0L x0 x12 (wrap64 (x13 + 1))))) else (none)) else (none)) else (some true)) := by
  refine Lm.unique (fnv_Key.l0Llm x0 x12 x13) ?_
  refine Lm.step rfl (f := fun k => fnv_Key.l0 (k + 1) x0 x12 x13) (fun _ => rfl) ?_; simp only [fnv_Key.l0]
  repeat' first
    | with_reducible exact fnv_Key.l0Llm _ _ _
    | with_reducible exact Lm.const _
    | with_reducible refine Lm.bind ?_ (fun _ => ?_)
    | with_reducible refine Lm.ite ?_ ?_
    | refine Lm.bind ?_ (fun _ => ?_)
    | refine Lm.ite ?_ ?_
theorem fnv_Key.L_eq (a0 : ByteArray) : fnv_Key.L a0 = (if a0.toList = ([] : List UInt8) then (fnv_Key.j0L a0 true) else (fnv_Key.j0L a0 (decide ((a0.size : Int) > 32)))) := by
  refine Lm.unique (fnv_Key.Llm a0) ?_
  unfold fnv_Key.f
  repeat' first
    | with_reducible exact fnv_Key.j0Llm _ _
    | with_reducible exact Lm.const _
    | with_reducible refine Lm.bind ?_ (fun _ => ?_)
    | with_reducible refine Lm.ite ?_ ?_
    | refine Lm.bind ?_ (fun _ => ?_)
    | refine Lm.ite ?_ ?_
theorem verb_Check_1.L_eq (a0 : ByteArray) : verb_Check_1.L a0 = ((fnv_Key.L a0).bind fun t117 => (some (!t117))) := by
  refine Lm.unique (verb_Check_1.Llm a0) ?_
  unfold verb_Check_1.f
  repeat' first
    | with_reducible exact fnv_Key.Llm _
    | with_reducible exact Lm.const _
    | with_reducible refine Lm.bind ?_ (fun _ => ?_)
    | with_reducible refine Lm.ite ?_ ?_
    | refine Lm.bind ?_ (fun _ => ?_)
    | refine Lm.ite ?_ ?_
theorem verb_Check.j0L_eq (x3 : Int) (x119000 : Int) (x119001 : List ByteArray) (x119002 : Int) (x119003 : Int) (x119004 : ByteArray) (x119005 : Int) (x119006 : Int) (x119007 : Bool) (x121000 : Int) (x121001 : List ByteArray) (x121002 : Int) (x121003 : Int) (x121004 : ByteArray) (x121005 : Int) (x121006 : Int) (x121007 : Bool) : verb_Check.j0L x3 x119000 x119001 x119002 x119003 x119004 x119005 x119006 x119007 x121000 x121001 x121002 x121003 x121004 x121005 x121006 x121007 = ((verb_Stores.f x3).bind fun t122 => (if t122 = true then ((verb_ends.L x3).bind fun t123 => (verb_Check.j1L x3 (!t123) x119000 x119001 x119002 x119003 x119004 x119005 x119006 x119007 x121000 x121001 x121002 x121003 x121004 x121005 x121006 x121007)) else (verb_Check.j1L x3 true x119000 x119001 x119002 x119003 x119004 x119005 x119006 x119007 x121000 x121001 x121002 x121003 x121004 x121005 x121006 x121007))) := by
  refine Lm.unique (verb_Check.j0Llm x3 x119000 x119001 x119002 x119003 x119004 x119005 x119006 x119007 x121000 x121001 x121002 x121003 x121004 x121005 x121006 x121007) ?_
  refine Lm.step rfl (f := fun k => verb_Check.j0 (k + 1) x3 x119000 x119001 x119002 x119003 x119004 x119005 x119006 x119007 x121000 x121001 x121002 x121003 x121004 x121005 x121006 x121007) (fun _ => rfl) ?_; simp only [verb_Check.j0]
  repeat' first
    | with_reducible exact verb_Check.j1Llm _ _ _ _ _ _ _ _ _ _ _ _ _ _ _ _ _ _
    | with_reducible exact verb_ends.Llm _
    | with_reducible exact Lm.const _
    | with_reducible refine Lm.bind ?_ (fun _ => ?_)
    | with_reducible refine Lm.ite ?_ ?_
    | refine Lm.bind ?_ (fun _ => ?_)
    | refine Lm.ite ?_ ?_
theorem verb_Check.j1L_eq (x3 : Int) (x24 : Bool) (x119000 : Int) (x119001 : List ByteArray) (x119002 : Int) (x119003 : Int) (x119004 : ByteArray) (x119005 : Int) (x119006 : Int) (x119007 : Bool) (x121000 : Int) (x121001 : List ByteArray) (x121002 : Int) (x121003 : Int) (x121004 : ByteArray) (x121005 : Int) (x121006 : Int) (x121007 : Bool) : verb_Check.j1L x3 x24 x119000 x119001 x119002 x119003 x119004 x119005 x119006 x119007 x121000 x121001 x121002 x121003 x121004 x121005 x121006 x121007 = (if x24 = true then (verb_Check.j2L x3 x119000 x119001 x119002 x119003 x119004 x119005 x119006 x119007 x121000 x121001 0 x121003 x121004 x121005 x121006 x121007) else (verb_Check.j2L x3 x119000 x119001 x119002 x119003 x119004 x119005 x119006 x119007 x121000 x121001 x121002 x121003 x121004 x121005 x121006 x121007)) := by
  refine Lm.unique (verb_Check.j1Llm x3 x24 x119000 x119001 x119002 x119003 x119004 x119005 x119006 x119007 x121000 x121001 x121002 x121003 x121004 x121005 x121006 x121007) ?_
  refine Lm.step rfl (f := fun k => verb_Check.j1 (k + 1) x3 x24 x119000 x119001 x119002 x119003 x119004 x119005 x119006 x119007 x121000 x121001 x121002 x121003 x121004 x121005 x121006 x121007) (fun _ => rfl) ?_; simp only [verb_Check.j1]
  repeat' first
    | with_reducible exact verb_Check.j2Llm _ _ _ _ _ _ _ _ _ _ _ _ _ _ _ _ _
    | with_reducible exact Lm.const _
    | with_reducible refine Lm.bind ?_ (fun _ => ?_)
    | with_reducible refine Lm.ite ?_ ?_
    | refine Lm.bind ?_ (fun _ => ?_)
    | refine Lm.ite ?_ ?_
theorem verb_Check.j2L_eq (x3 : Int) (x119000 : Int) (x119001 : List ByteArray) (x119002 : Int) (x119003 : Int) (x119004 : ByteArray) (x119005 : Int) (x119006 : Int) (x119007 : Bool) (x121000 : Int) (x121001 : List ByteArray) (x121002 : Int) (x121003 : Int) (x121004 : ByteArray) (x121005 : Int) (x121006 : Int) (x121007 : Bool) : verb_Check.j2L x3 x119000 x119001 x119002 x119003 x119004 x119005 x119006 x119007 x121000 x121001 x121002 x121003 x121004 x121005 x121006 x121007 = ((verb_ends.L x3).bind fun t124 => (if t124 = true then (verb_Check.j3L x3 x119000 x119001 x119002 x119003 x119004 x119005 x119006 x119007 x121000 x121001 x121002 x121003 x121004 x121005 x121006 x121007) else (verb_Check.j3L x3 x119000 x119001 x119002 x119003 x119004 x119005 x119006 x119007 x121000 x121001 x121002 0 x121004 x121005 x121006 x121007))) := by
  refine Lm.unique (verb_Check.j2Llm x3 x119000 x119001 x119002 x119003 x119004 x119005 x119006 x119007 x121000 x121001 x121002 x121003 x121004 x121005 x121006 x121007) ?_
  refine Lm.step rfl (f := fun k => verb_Check.j2 (k + 1) x3 x119000 x119001 x119002 x119003 x119004 x119005 x119006 x119007 x121000 x121001 x121002 x121003 x121004 x121005 x121006 x121007) (fun _ => rfl) ?_; simp only [verb_Check.j2]
  repeat' first
    | with_reducible exact verb_Check.j3Llm _ _ _ _ _ _ _ _ _ _ _ _ _ _ _ _ _
    | with_reducible exact verb_ends.Llm _
    | with_reducible exact Lm.const _
    | with_reducible refine Lm.bind ?_ (fun _ => ?_)
    | with_reducible refine Lm.ite ?_ ?_
    | refine Lm.bind ?_ (fun _ => ?_)
    | refine Lm.ite ?_ ?_
theorem verb_Check.j3L_eq (x3 : Int) (x119000 : Int) (x119001 : List ByteArray) (x119002 : Int) (x119003 : Int) (x119004 : ByteArray) (x119005 : Int) (x119006 : Int) (x119007 : Bool) (x121000 : Int) (x121001 : List ByteArray) (x121002 : Int) (x121003 : Int) (x121004 : ByteArray) (x121005 : Int) (x121006 : Int) (x121007 : Bool) : verb_Check.j3L x3 x119000 x119001 x119002 x119003 x119004 x119005 x119006 x119007 x121000 x121001 x121002 x121003 x121004 x121005 x121006 x121007 = (if x3 = 10 then (verb_Check.j4L x3 x119000 x119001 x119002 x119003 x119004 x119005 x119006 x119007 x121000 x121001 x121002 x121003 x121004 x121005 x121006 x121007) else (verb_Check.j4L x3 x119000 x119001 x119002 x119003 x119004 x119005 x119006 x119007 x121000 x121001 x121002 x121003 x121004 0 x121006 x121007)) := by
  refine Lm.unique (verb_Check.j3Llm x3 x119000 x119001 x119002 x119003 x119004 x119005 x119006 x119007 x121000 x121001 x121002 x121003 x121004 x121005 x121006 x121007) ?_
  refine Lm.step rfl (f := fun k => verb_Check.j3 (k + 1) x3 x119000 x119001 x119002 x119003 x119004 x119005 x119006 x119007 x121000 x121001 x121002 x121003 x121004 x121005 x121006 x121007) (fun _ => rfl) ?_; simp only [verb_Check.j3]
  repeat' first
    | with_reducible exact verb_Check.j4Llm _ _ _ _ _ _ _ _ _ _ _ _ _ _ _ _ _
    | with_reducible exact Lm.const _
    | with_reducible refine Lm.bind ?_ (fun _ => ?_)
    | with_reducible refine Lm.ite ?_ ?_
    | refine Lm.bind ?_ (fun _ => ?_)
    | refine Lm.ite ?_ ?_
theorem verb_Check.j4L_eq (x3 : Int) (x119000 : Int) (x119001 : List ByteArray) (x119002 : Int) (x119003 : Int) (x119004 : ByteArray) (x119005 : Int) (x119006 : Int) (x119007 : Bool) (x121000 : Int) (x121001 : List ByteArray) (x121002 : Int) (x121003 : Int) (x121004 : ByteArray) (x121005 : Int) (x121006 : Int) (x121007 : Bool) : verb_Check.j4L x3 x119000 x119001 x119002 x119003 x119004 x119005 x119006 x119007 x121000 x121001 x121002 x121003 x121004 x121005 x121006 x121007 = (if x3 = 12 then (verb_Check.j5L x3 false x119000 x119001 x119002 x119003 x119004 x119005 x119006 x119007 x121000 x121001 x121002 x121003 x121004 x121005 x121006 x121007) else (verb_Check.j5L x3 (x3 != 13) x119000 x119001 x119002 x119003 x119004 x119005 x119006 x119007 x121000 x121001 x121002 x121003 x121004 x121005 x121006 x121007)) := by
  refine Lm.unique (verb_Check.j4Llm x3 x119000 x119001 x119002 x119003 x119004 x119005 x119006 x119007 x121000 x121001 x121002 x121003 x121004 x121005 x121006 x121007) ?_
  refine Lm.step rfl (f := fun k => verb_Check.j4 (k + 1) x3 x119000 x119001 x119002 x119003 x119004 x119005 x119006 x119007 x121000 x121001 x121002 x121003 x121004 x121005 x121006 x121007) (fun _ => rfl) ?_; simp only [verb_Check.j4]
  repeat' first
    | with_reducible exact verb_Check.j5Llm _ _ _ _ _ _ _ _ _ _ _ _ _ _ _ _ _ _
    | with_reducible exact Lm.const _
    | with_reducible refine Lm.bind ?_ (fun _ => ?_)
    | with_reducible refine Lm.ite ?_ ?_
    | refine Lm.bind ?_ (fun _ => ?_)
    | refine Lm.ite ?_ ?_
theorem verb_Check.j5L_eq (x3 : Int) (x38 : Bool) (x119000 : Int) (x119001 : List ByteArray) (x119002 : Int) (x119003 : Int) (x119004 : ByteArray) (x119005 : Int) (x119006 : Int) (x119007 : Bool) (x121000 : Int) (x121001 : List ByteArray) (x121002 : Int) (x121003 : Int) (x121004 : ByteArray) (x121005 : Int) (x121006 : Int) (x121007 : Bool) : verb_Check.j5L x3 x38 x119000 x119001 x119002 x119003 x119004 x119005 x119006 x119007 x121000 x121001 x121002 x121003 x121004 x121005 x121006 x121007 = (if x38 = true then (verb_Check.j6L x3 x119000 x119001 x119002 x119003 x119004 x119005 x119006 x119007 x121000 x121001 x121002 x121003 x121004 x121005 0 x121007) else (verb_Check.j6L x3 x119000 x119001 x119002 x119003 x119004 x119005 x119006 x119007 x121000 x121001 x121002 x121003 x121004 x121005 x121006 x121007)) := by
  refine Lm.unique (verb_Check.j5Llm x3 x38 x119000 x119001 x119002 x119003 x119004 x119005 x119006 x119007 x121000 x121001 x121002 x121003 x121004 x121005 x121006 x121007) ?_
  refine Lm.step rfl (f := fun k => verb_Check.j5 (k + 1) x3 x38 x119000 x119001 x119002 x119003 x119004 x119005 x119006 x119007 x121000 x121001 x121002 x121003 x121004 x121005 x121006 x121007) (fun _ => rfl) ?_; simp only [verb_Check.j5]
  repeat' first
    | with_reducible exact verb_Check.j6Llm _ _ _ _ _ _ _ _ _ _ _ _ _ _ _ _ _
    | with_reducible exact Lm.const _
    | with_reducible refine Lm.bind ?_ (fun _ => ?_)
    | with_reducible refine Lm.ite ?_ ?_
    | refine Lm.bind ?_ (fun _ => ?_)
    | refine Lm.ite ?_ ?_
theorem verb_Check.j6L_eq (x3 : Int) (x119000 : Int) (x119001 : List ByteArray) (x119002 : Int) (x119003 : Int) (x119004 : ByteArray) (x119005 : Int) (x119006 : Int) (x119007 : Bool) (x121000 : Int) (x121001 : List ByteArray) (x121002 : Int) (x121003 : Int) (x121004 : ByteArray) (x121005 : Int) (x121006 : Int) (x121007 : Bool) : verb_Check.j6L x3 x119000 x119001 x119002 x119003 x119004 x119005 x119006 x119007 x121000 x121001 x121002 x121003 x121004 x121005 x121006 x121007 = ((verb_reads.f x3).bind fun t125 => (if t125 = true then (verb_Check.j7L x3 x119000 x119001 x119002 x119003 x119004 x119005 x119006 x119007 x121000 x121001 x121002 x121003 x121004 x121005 x121006 false) else (verb_Check.j7L x3 x119000 x119001 x119002 x119003 x119004 x119005 x119006 x119007 x121000 x121001 x121002 x121003 x121004 x121005 x121006 x121007))) := by
  refine Lm.unique (verb_Check.j6Llm x3 x119000 x119001 x119002 x119003 x119004 x119005 x119006 x119007 x121000 x121001 x121002 x121003 x121004 x121005 x121006 x121007) ?_
  refine Lm.step rfl (f := fun k => verb_Check.j6 (k + 1) x3 x119000 x119001 x119002 x119003 x119004 x119005 x119006 x119007 x121000 x121001 x121002 x121003 x121004 x121005 x121006 x121007) (fun _ => rfl) ?_; simp only [verb_Check.j6]
  repeat' first
    | with_reducible exact verb_Check.j7Llm _ _ _ _ _ _ _ _ _ _ _ _ _ _ _ _ _
    | with_reducible exact Lm.const _
    | with_reducible refine Lm.bind ?_ (fun _ => ?_)
    | with_reducible refine Lm.ite ?_ ?_
    | refine Lm.bind ?_ (fun _ => ?_)
    | refine Lm.ite ?_ ?_
theorem verb_Check.j7L_eq (x3 : Int) (x119000 : Int) (x119001 : List ByteArray) (x119002 : Int) (x119003 : Int) (x119004 : ByteArray) (x119005 : Int) (x119006 : Int) (x119007 : Bool) (x121000 : Int) (x121001 : List ByteArray) (x121002 : Int) (x121003 : Int) (x121004 : ByteArray) (x121005 : Int) (x121006 : Int) (x121007 : Bool) : verb_Check.j7L x3 x119000 x119001 x119002 x119003 x119004 x119005 x119006 x119007 x121000 x121001 x121002 x121003 x121004 x121005 x121006 x121007 = (if x121002 = x119002 then (if x121004.toList = x119004.toList then (if x121003 = x119003 then (if x121005 = x119005 then (if x121006 = x119006 then (verb_Check.j8L x3 (x121007 == x119007) x119000 x119001 x119002 x119003 x119004 x119005 x119006 x119007) else (verb_Check.j8L x3 false x119000 x119001 x119002 x119003 x119004 x119005 x119006 x119007)) else (verb_Check.j8L x3 false x119000 x119001 x119002 x119003 x119004 x119005 x119006 x119007)) else (verb_Check.j8L x3 false x119000 x119001 x119002 x119003 x119004 x119005 x119006 x119007)) else (verb_Check.j8L x3 false x119000 x119001 x119002 x119003 x119004 x119005 x119006 x119007)) else (verb_Check.j8L x3 false x119000 x119001 x119002 x119003 x119004 x119005 x119006 x119007)) := by
  refine Lm.unique (verb_Check.j7Llm x3 x119000 x119001 x119002 x119003 x119004 x119005 x119006 x119007 x121000 x121001 x121002 x121003 x121004 x121005 x121006 x121007) ?_
  refine Lm.step rfl (f := fun k => verb_Check.j7 (k + 1) x3 x119000 x119001 x119002 x119003 x119004 x119005 x119006 x119007 x121000 x121001 x121002 x121003 x121004 x121005 x121006 x121007) (fun _ => rfl) ?_; simp only [verb_Check.j7]
  repeat' first
    | with_reducible exact verb_Check.j8Llm _ _ _ _ _ _ _ _ _ _
    | with_reducible exact Lm.const _
    | with_reducible refine Lm.bind ?_ (fun _ => ?_)
    | with_reducible refine Lm.ite ?_ ?_
    | refine Lm.bind ?_ (fun _ => ?_)
    | refine Lm.ite ?_ ?_
theorem verb_Check.j8L_eq (x3 : Int) (x5 : Bool) (x119000 : Int) (x119001 : List ByteArray) (x119002 : Int) (x119003 : Int) (x119004 : ByteArray) (x119005 : Int) (x119006 : Int) (x119007 : Bool) : verb_Check.j8L x3 x5 x119000 x119001 x119002 x119003 x119004 x119005 x119006 x119007 = (if x5 = true then ((verb_keys.f x3 (x119001.length : Int)).bind fun t126 => (if t126 = true then ((slices_ContainsFunc_string_string.L x119001).bind fun t127 => (verb_Check.j9L t127 x119000 x119001 x119002 x119003 x119004 x119005 x119006 x119007)) else (verb_Check.j9L (!t126) x119000 x119001 x119002 x119003 x119004 x119005 x119006 x119007))) else (verb_Check.j9L (!x5) x119000 x119001 x119002 x119003 x119004 x119005 x119006 x119007)) := by
  refine Lm.unique (verb_Check.j8Llm x3 x5 x119000 x119001 x119002 x119003 x119004 x119005 x119006 x119007) ?_
  refine Lm.step rfl (f := fun k => verb_Check.j8 (k + 1) x3 x5 x119000 x119001 x119002 x119003 x119004 x119005 x119006 x119007) (fun _ => rfl) ?_; simp only [verb_Check.j8]
  repeat' first
    | with_reducible exact slices_ContainsFunc_string_string.Llm _
    | with_reducible exact verb_Check.j9Llm _ _ _ _ _ _ _ _ _
    | with_reducible exact Lm.const _
    | with_reducible refine Lm.bind ?_ (fun _ => ?_)
    | with_reducible refine Lm.ite ?_ ?_
    | refine Lm.bind ?_ (fun _ => ?_)
    | refine Lm.ite ?_ ?_
theorem verb_Check.j9L_eq (x83 : Bool) (x119000 : Int) (x119001 : List ByteArray) (x119002 : Int) (x119003 : Int) (x119004 : ByteArray) (x119005 : Int) (x119006 : Int) (x119007 : Bool) : verb_Check.j9L x83 x119000 x119001 x119002 x119003 x119004 x119005 x119006 x119007 = (if x83 = true then (some 6) else (if (x119004.size : Int) > 2000 then (some 7) else (some 0))) := by
  refine Lm.unique (verb_Check.j9Llm x83 x119000 x119001 x119002 x119003 x119004 x119005 x119006 x119007) ?_
  refine Lm.step rfl (f := fun k => verb_Check.j9 (k + 1) x83 x119000 x119001 x119002 x119003 x119004 x119005 x119006 x119007) (fun _ => rfl) ?_; simp only [verb_Check.j9]
  repeat' first
    | with_reducible exact Lm.const _
    | with_reducible refine Lm.bind ?_ (fun _ => ?_)
    | with_reducible refine Lm.ite ?_ ?_
    | refine Lm.bind ?_ (fun _ => ?_)
    | refine Lm.ite ?_ ?_
theorem verb_Check.L_eq (a0_0 : Int) (l0_1 : List ByteArray) (a0_2 : Int) (a0_3 : Int) (a0_4 : ByteArray) (a0_5 : Int) (a0_6 : Int) (a0_7 : Bool) : verb_Check.L a0_0 l0_1 a0_2 a0_3 a0_4 a0_5 a0_6 a0_7 = ((verb_kind.f a0_0).bind fun t119 => (if t119 = true then ((verb_Stores.f a0_0).bind fun t121 => (if t121 = true then (verb_Check.j0L a0_0 a0_0 l0_1 a0_2 a0_3 a0_4 a0_5 a0_6 a0_7 a0_0 l0_1 a0_2 a0_3 a0_4 a0_5 a0_6 a0_7) else (verb_Check.j0L a0_0 a0_0 l0_1 a0_2 a0_3 a0_4 a0_5 a0_6 a0_7 a0_0 l0_1 a0_2 a0_3 (⟨#[]⟩ : ByteArray) a0_5 a0_6 a0_7))) else (some 70))) := by
  refine Lm.unique (verb_Check.Llm a0_0 l0_1 a0_2 a0_3 a0_4 a0_5 a0_6 a0_7) ?_
  unfold verb_Check.f
  repeat' first
    | with_reducible exact verb_Check.j0Llm _ _ _ _ _ _ _ _ _ _ _ _ _ _ _ _ _
    | with_reducible exact Lm.const _
    | with_reducible refine Lm.bind ?_ (fun _ => ?_)
    | with_reducible refine Lm.ite ?_ ?_
    | refine Lm.bind ?_ (fun _ => ?_)
    | refine Lm.ite ?_ ?_
end Go.Proofs.Ytmogojefpjmhkaa.P
