/-
  No cell of these rows narrows 'for every input' (looked for: loops, veiled, ifaces, maps, wideKeys, modest, calm, conditions, laid).
  DERIVED. THE GIVEN ROWS OF THIS SEAT. 24 by the template 'for every input the law returns true; each argument reads behind the call as it read before'; 0 by the template 'total and deterministic' (their statements: YtakdnpafdadblaaGreatTotals.lean).
  GIVEN WITH THE SEED: the statements are not yours to turn. If you find one false, say at which input.
  Laid BY PROGRAM, IN A SANDBOX (cutbox-rows.mjs): the forced cells as the released guide's own fill.sh prints them over the translation 12aed32e1cc28b67… (all of the seat's roots in one cut). By AI agents, Wed Nov 11 2026. No macro, syntax, notation, axiom, sorry.
-/
import Derived.Test.YtakdnpafdadblaaGreatChecked
import GoSem.Claim
import GoSem.ClaimJoined
import GoSem.ClaimMapViews
import Derived.JoinedTies
import Derived.KernelRfl
namespace Go.Proofs.YtakdnpafdadblaaGreat
/- THE CELL 'sum', in the pinned program and in every row, IS THE sha256 OF THE DUMP (.gsa) THAT YtakdnpafdadblaaGreatProg.lean LOADS. Nothing in Lean hashes anything: it is a label: what it is worth is what the hold of that sum in a sandbox is worth. -/
noncomputable def Tryz.pinned : Pinned := { name := "ytakdnpafdadblaagreat", sum := "12aed32e1cc28b679aa30defa88dd084b06758469b063f701ebdaec0c3fd85a0", checked := Tryz.checked }
namespace Rows
def none {H : Type} : Left H := { results := [], args := [] }

/-- 'tarnlaw17.AdmitErrors': WHATEVER THE INPUT: true; the input reads as it did. -/
def admitErrorsSpec : ChangeSpec := { name := "admitErrors", fn := fun _ => fun
  | [d] => { results := [.lit (.bool true)], args := [d] }
  | _ => none }
def admitErrorsRow : OpenClaim := { program := "ytakdnpafdadblaagreat", sum := "12aed32e1cc28b679aa30defa88dd084b06758469b063f701ebdaec0c3fd85a0", func := "tarn/tarnlaw17.AdmitErrors", spec := "admitErrors", inPlace := ["math/bits.Add64"], unfollowed := true, recurses := true, apart := false }
def AdmitErrorsSaid : Prop := admitErrorsRow.holds Tryz.pinned (OpenSpec.ofChange admitErrorsSpec)

/-- ITS FALSE NEIGHBOUR: 'it returns false'. Refute it at one input. -/
def admitErrorsWrong : ChangeSpec := { name := "admitErrors", fn := fun _ => fun
  | [d] => { results := [.lit (.bool false)], args := [d] }
  | _ => none }
def AdmitErrorsWrongFalsely : Prop := admitErrorsRow.holds Tryz.pinned (OpenSpec.ofChange admitErrorsWrong)

/-- 'tarnlaw17.AdmitGap': WHATEVER THE INPUT: true; the input reads as it did. -/
def admitGapSpec : ChangeSpec := { name := "admitGap", fn := fun _ => fun
  | [d] => { results := [.lit (.bool true)], args := [d] }
  | _ => none }
def admitGapRow : OpenClaim := { program := "ytakdnpafdadblaagreat", sum := "12aed32e1cc28b679aa30defa88dd084b06758469b063f701ebdaec0c3fd85a0", func := "tarn/tarnlaw17.AdmitGap", spec := "admitGap", inPlace := ["math/bits.Add64"], unfollowed := true, recurses := true, apart := false }
def AdmitGapSaid : Prop := admitGapRow.holds Tryz.pinned (OpenSpec.ofChange admitGapSpec)

/-- ITS FALSE NEIGHBOUR: 'it returns false'. Refute it at one input. -/
def admitGapWrong : ChangeSpec := { name := "admitGap", fn := fun _ => fun
  | [d] => { results := [.lit (.bool false)], args := [d] }
  | _ => none }
def AdmitGapWrongFalsely : Prop := admitGapRow.holds Tryz.pinned (OpenSpec.ofChange admitGapWrong)

/-- 'tarnlaw24.BuildTells': WHATEVER THE INPUT: true; the input reads as it did. -/
def buildTellsSpec : ChangeSpec := { name := "buildTells", fn := fun _ => fun
  | [d] => { results := [.lit (.bool true)], args := [d] }
  | _ => none }
def buildTellsRow : OpenClaim := { program := "ytakdnpafdadblaagreat", sum := "12aed32e1cc28b679aa30defa88dd084b06758469b063f701ebdaec0c3fd85a0", func := "tarn/tarnlaw24.BuildTells", spec := "buildTells", inPlace := ["math/bits.Add64", "math/bits.Sub64"], unfollowed := true, recurses := true, apart := false }
def BuildTellsSaid : Prop := buildTellsRow.holds Tryz.pinned (OpenSpec.ofChange buildTellsSpec)

/-- ITS FALSE NEIGHBOUR: 'it returns false'. Refute it at one input. -/
def buildTellsWrong : ChangeSpec := { name := "buildTells", fn := fun _ => fun
  | [d] => { results := [.lit (.bool false)], args := [d] }
  | _ => none }
def BuildTellsWrongFalsely : Prop := buildTellsRow.holds Tryz.pinned (OpenSpec.ofChange buildTellsWrong)

/-- 'tarnlaw24.BuildFronts': WHATEVER THE INPUT: true; the input reads as it did. -/
def buildFrontsSpec : ChangeSpec := { name := "buildFronts", fn := fun _ => fun
  | [d] => { results := [.lit (.bool true)], args := [d] }
  | _ => none }
def buildFrontsRow : OpenClaim := { program := "ytakdnpafdadblaagreat", sum := "12aed32e1cc28b679aa30defa88dd084b06758469b063f701ebdaec0c3fd85a0", func := "tarn/tarnlaw24.BuildFronts", spec := "buildFronts", inPlace := ["math/bits.Add64", "math/bits.Sub64"], unfollowed := true, recurses := true, apart := false }
def BuildFrontsSaid : Prop := buildFrontsRow.holds Tryz.pinned (OpenSpec.ofChange buildFrontsSpec)

/-- ITS FALSE NEIGHBOUR: 'it returns false'. Refute it at one input. -/
def buildFrontsWrong : ChangeSpec := { name := "buildFronts", fn := fun _ => fun
  | [d] => { results := [.lit (.bool false)], args := [d] }
  | _ => none }
def BuildFrontsWrongFalsely : Prop := buildFrontsRow.holds Tryz.pinned (OpenSpec.ofChange buildFrontsWrong)

/-- 'tarnlaw24.BuildOrders': WHATEVER THE INPUT: true; the input reads as it did. -/
def buildOrdersSpec : ChangeSpec := { name := "buildOrders", fn := fun _ => fun
  | [d] => { results := [.lit (.bool true)], args := [d] }
  | _ => none }
def buildOrdersRow : OpenClaim := { program := "ytakdnpafdadblaagreat", sum := "12aed32e1cc28b679aa30defa88dd084b06758469b063f701ebdaec0c3fd85a0", func := "tarn/tarnlaw24.BuildOrders", spec := "buildOrders", inPlace := ["math/bits.Add64", "math/bits.Sub64"], unfollowed := true, recurses := true, apart := false }
def BuildOrdersSaid : Prop := buildOrdersRow.holds Tryz.pinned (OpenSpec.ofChange buildOrdersSpec)

/-- ITS FALSE NEIGHBOUR: 'it returns false'. Refute it at one input. -/
def buildOrdersWrong : ChangeSpec := { name := "buildOrders", fn := fun _ => fun
  | [d] => { results := [.lit (.bool false)], args := [d] }
  | _ => none }
def BuildOrdersWrongFalsely : Prop := buildOrdersRow.holds Tryz.pinned (OpenSpec.ofChange buildOrdersWrong)

/-- 'tarnlaw24.BuildSkips': WHATEVER THE INPUT: true; the input reads as it did. -/
def buildSkipsSpec : ChangeSpec := { name := "buildSkips", fn := fun _ => fun
  | [d] => { results := [.lit (.bool true)], args := [d] }
  | _ => none }
def buildSkipsRow : OpenClaim := { program := "ytakdnpafdadblaagreat", sum := "12aed32e1cc28b679aa30defa88dd084b06758469b063f701ebdaec0c3fd85a0", func := "tarn/tarnlaw24.BuildSkips", spec := "buildSkips", inPlace := ["math/bits.Add64", "math/bits.Sub64"], unfollowed := true, recurses := true, apart := false }
def BuildSkipsSaid : Prop := buildSkipsRow.holds Tryz.pinned (OpenSpec.ofChange buildSkipsSpec)

/-- ITS FALSE NEIGHBOUR: 'it returns false'. Refute it at one input. -/
def buildSkipsWrong : ChangeSpec := { name := "buildSkips", fn := fun _ => fun
  | [d] => { results := [.lit (.bool false)], args := [d] }
  | _ => none }
def BuildSkipsWrongFalsely : Prop := buildSkipsRow.holds Tryz.pinned (OpenSpec.ofChange buildSkipsWrong)

/-- 'tarnlaw16.PoolBytes': WHATEVER THE INPUT: true; the input reads as it did. -/
def poolBytesSpec : ChangeSpec := { name := "poolBytes", fn := fun _ => fun
  | [d] => { results := [.lit (.bool true)], args := [d] }
  | _ => none }
def poolBytesRow : OpenClaim := { program := "ytakdnpafdadblaagreat", sum := "12aed32e1cc28b679aa30defa88dd084b06758469b063f701ebdaec0c3fd85a0", func := "tarn/tarnlaw16.PoolBytes", spec := "poolBytes", inPlace := ["math/bits.Add64", "slices.overlaps[tarn/api.Tx]"], unfollowed := true, recurses := true, apart := false }
def PoolBytesSaid : Prop := poolBytesRow.holds Tryz.pinned (OpenSpec.ofChange poolBytesSpec)

/-- ITS FALSE NEIGHBOUR: 'it returns false'. Refute it at one input. -/
def poolBytesWrong : ChangeSpec := { name := "poolBytes", fn := fun _ => fun
  | [d] => { results := [.lit (.bool false)], args := [d] }
  | _ => none }
def PoolBytesWrongFalsely : Prop := poolBytesRow.holds Tryz.pinned (OpenSpec.ofChange poolBytesWrong)

/-- 'tarnlaw16.PoolWrongs': WHATEVER THE INPUT: true; the input reads as it did. -/
def poolWrongsSpec : ChangeSpec := { name := "poolWrongs", fn := fun _ => fun
  | [d] => { results := [.lit (.bool true)], args := [d] }
  | _ => none }
def poolWrongsRow : OpenClaim := { program := "ytakdnpafdadblaagreat", sum := "12aed32e1cc28b679aa30defa88dd084b06758469b063f701ebdaec0c3fd85a0", func := "tarn/tarnlaw16.PoolWrongs", spec := "poolWrongs", inPlace := ["math/bits.Add64", "slices.overlaps[tarn/api.Tx]"], unfollowed := true, recurses := true, apart := false }
def PoolWrongsSaid : Prop := poolWrongsRow.holds Tryz.pinned (OpenSpec.ofChange poolWrongsSpec)

/-- ITS FALSE NEIGHBOUR: 'it returns false'. Refute it at one input. -/
def poolWrongsWrong : ChangeSpec := { name := "poolWrongs", fn := fun _ => fun
  | [d] => { results := [.lit (.bool false)], args := [d] }
  | _ => none }
def PoolWrongsWrongFalsely : Prop := poolWrongsRow.holds Tryz.pinned (OpenSpec.ofChange poolWrongsWrong)

/-- 'tarnlaw16.PoolNews': WHATEVER THE INPUT: true; the input reads as it did. -/
def poolNewsSpec : ChangeSpec := { name := "poolNews", fn := fun _ => fun
  | [d] => { results := [.lit (.bool true)], args := [d] }
  | _ => none }
def poolNewsRow : OpenClaim := { program := "ytakdnpafdadblaagreat", sum := "12aed32e1cc28b679aa30defa88dd084b06758469b063f701ebdaec0c3fd85a0", func := "tarn/tarnlaw16.PoolNews", spec := "poolNews", inPlace := ["math/bits.Add64", "slices.overlaps[tarn/api.Tx]"], unfollowed := true, recurses := true, apart := false }
def PoolNewsSaid : Prop := poolNewsRow.holds Tryz.pinned (OpenSpec.ofChange poolNewsSpec)

/-- ITS FALSE NEIGHBOUR: 'it returns false'. Refute it at one input. -/
def poolNewsWrong : ChangeSpec := { name := "poolNews", fn := fun _ => fun
  | [d] => { results := [.lit (.bool false)], args := [d] }
  | _ => none }
def PoolNewsWrongFalsely : Prop := poolNewsRow.holds Tryz.pinned (OpenSpec.ofChange poolNewsWrong)

/-- 'tarnlaw16.PoolChains': WHATEVER THE INPUT: true; the input reads as it did. -/
def poolChainsSpec : ChangeSpec := { name := "poolChains", fn := fun _ => fun
  | [d] => { results := [.lit (.bool true)], args := [d] }
  | _ => none }
def poolChainsRow : OpenClaim := { program := "ytakdnpafdadblaagreat", sum := "12aed32e1cc28b679aa30defa88dd084b06758469b063f701ebdaec0c3fd85a0", func := "tarn/tarnlaw16.PoolChains", spec := "poolChains", inPlace := ["math/bits.Add64", "slices.overlaps[tarn/api.Tx]"], unfollowed := true, recurses := true, apart := false }
def PoolChainsSaid : Prop := poolChainsRow.holds Tryz.pinned (OpenSpec.ofChange poolChainsSpec)

/-- ITS FALSE NEIGHBOUR: 'it returns false'. Refute it at one input. -/
def poolChainsWrong : ChangeSpec := { name := "poolChains", fn := fun _ => fun
  | [d] => { results := [.lit (.bool false)], args := [d] }
  | _ => none }
def PoolChainsWrongFalsely : Prop := poolChainsRow.holds Tryz.pinned (OpenSpec.ofChange poolChainsWrong)

/-- 'tarnlaw16.PoolPuts': WHATEVER THE INPUT: true; the input reads as it did. -/
def poolPutsSpec : ChangeSpec := { name := "poolPuts", fn := fun _ => fun
  | [d] => { results := [.lit (.bool true)], args := [d] }
  | _ => none }
def poolPutsRow : OpenClaim := { program := "ytakdnpafdadblaagreat", sum := "12aed32e1cc28b679aa30defa88dd084b06758469b063f701ebdaec0c3fd85a0", func := "tarn/tarnlaw16.PoolPuts", spec := "poolPuts", inPlace := ["math/bits.Add64", "slices.overlaps[tarn/api.Tx]"], unfollowed := true, recurses := true, apart := false }
def PoolPutsSaid : Prop := poolPutsRow.holds Tryz.pinned (OpenSpec.ofChange poolPutsSpec)

/-- ITS FALSE NEIGHBOUR: 'it returns false'. Refute it at one input. -/
def poolPutsWrong : ChangeSpec := { name := "poolPuts", fn := fun _ => fun
  | [d] => { results := [.lit (.bool false)], args := [d] }
  | _ => none }
def PoolPutsWrongFalsely : Prop := poolPutsRow.holds Tryz.pinned (OpenSpec.ofChange poolPutsWrong)

/-- 'tarnlaw16.PoolTells': WHATEVER THE INPUT: true; the input reads as it did. -/
def poolTellsSpec : ChangeSpec := { name := "poolTells", fn := fun _ => fun
  | [d] => { results := [.lit (.bool true)], args := [d] }
  | _ => none }
def poolTellsRow : OpenClaim := { program := "ytakdnpafdadblaagreat", sum := "12aed32e1cc28b679aa30defa88dd084b06758469b063f701ebdaec0c3fd85a0", func := "tarn/tarnlaw16.PoolTells", spec := "poolTells", inPlace := ["math/bits.Add64", "slices.overlaps[tarn/api.Tx]"], unfollowed := true, recurses := true, apart := false }
def PoolTellsSaid : Prop := poolTellsRow.holds Tryz.pinned (OpenSpec.ofChange poolTellsSpec)

/-- ITS FALSE NEIGHBOUR: 'it returns false'. Refute it at one input. -/
def poolTellsWrong : ChangeSpec := { name := "poolTells", fn := fun _ => fun
  | [d] => { results := [.lit (.bool false)], args := [d] }
  | _ => none }
def PoolTellsWrongFalsely : Prop := poolTellsRow.holds Tryz.pinned (OpenSpec.ofChange poolTellsWrong)

/-- 'tarnlaw16.PoolFinds': WHATEVER THE INPUT: true; the input reads as it did. -/
def poolFindsSpec : ChangeSpec := { name := "poolFinds", fn := fun _ => fun
  | [d] => { results := [.lit (.bool true)], args := [d] }
  | _ => none }
def poolFindsRow : OpenClaim := { program := "ytakdnpafdadblaagreat", sum := "12aed32e1cc28b679aa30defa88dd084b06758469b063f701ebdaec0c3fd85a0", func := "tarn/tarnlaw16.PoolFinds", spec := "poolFinds", inPlace := ["math/bits.Add64", "slices.overlaps[tarn/api.Tx]"], unfollowed := true, recurses := true, apart := false }
def PoolFindsSaid : Prop := poolFindsRow.holds Tryz.pinned (OpenSpec.ofChange poolFindsSpec)

/-- ITS FALSE NEIGHBOUR: 'it returns false'. Refute it at one input. -/
def poolFindsWrong : ChangeSpec := { name := "poolFinds", fn := fun _ => fun
  | [d] => { results := [.lit (.bool false)], args := [d] }
  | _ => none }
def PoolFindsWrongFalsely : Prop := poolFindsRow.holds Tryz.pinned (OpenSpec.ofChange poolFindsWrong)

/-- 'tarnlaw18.EvictNexts': WHATEVER THE INPUT: true; the input reads as it did. -/
def evictNextsSpec : ChangeSpec := { name := "evictNexts", fn := fun _ => fun
  | [d] => { results := [.lit (.bool true)], args := [d] }
  | _ => none }
def evictNextsRow : OpenClaim := { program := "ytakdnpafdadblaagreat", sum := "12aed32e1cc28b679aa30defa88dd084b06758469b063f701ebdaec0c3fd85a0", func := "tarn/tarnlaw18.EvictNexts", spec := "evictNexts", inPlace := ["math/bits.Add64", "math/bits.Sub64"], unfollowed := true, recurses := true, named := ["math/bits.divideError", "math/bits.overflowError"], apart := false }
def EvictNextsSaid : Prop := evictNextsRow.holds Tryz.pinned (OpenSpec.ofChange evictNextsSpec)

/-- ITS FALSE NEIGHBOUR: 'it returns false'. Refute it at one input. -/
def evictNextsWrong : ChangeSpec := { name := "evictNexts", fn := fun _ => fun
  | [d] => { results := [.lit (.bool false)], args := [d] }
  | _ => none }
def EvictNextsWrongFalsely : Prop := evictNextsRow.holds Tryz.pinned (OpenSpec.ofChange evictNextsWrong)

/-- 'tarnlaw18.EvictDowns': WHATEVER THE INPUT: true; the input reads as it did. -/
def evictDownsSpec : ChangeSpec := { name := "evictDowns", fn := fun _ => fun
  | [d] => { results := [.lit (.bool true)], args := [d] }
  | _ => none }
def evictDownsRow : OpenClaim := { program := "ytakdnpafdadblaagreat", sum := "12aed32e1cc28b679aa30defa88dd084b06758469b063f701ebdaec0c3fd85a0", func := "tarn/tarnlaw18.EvictDowns", spec := "evictDowns", inPlace := ["math/bits.Add64", "math/bits.Sub64"], unfollowed := true, recurses := true, named := ["math/bits.divideError", "math/bits.overflowError"], apart := false }
def EvictDownsSaid : Prop := evictDownsRow.holds Tryz.pinned (OpenSpec.ofChange evictDownsSpec)

/-- ITS FALSE NEIGHBOUR: 'it returns false'. Refute it at one input. -/
def evictDownsWrong : ChangeSpec := { name := "evictDowns", fn := fun _ => fun
  | [d] => { results := [.lit (.bool false)], args := [d] }
  | _ => none }
def EvictDownsWrongFalsely : Prop := evictDownsRow.holds Tryz.pinned (OpenSpec.ofChange evictDownsWrong)

/-- 'tarnlaw18.EvictLeast': WHATEVER THE INPUT: true; the input reads as it did. -/
def evictLeastSpec : ChangeSpec := { name := "evictLeast", fn := fun _ => fun
  | [d] => { results := [.lit (.bool true)], args := [d] }
  | _ => none }
def evictLeastRow : OpenClaim := { program := "ytakdnpafdadblaagreat", sum := "12aed32e1cc28b679aa30defa88dd084b06758469b063f701ebdaec0c3fd85a0", func := "tarn/tarnlaw18.EvictLeast", spec := "evictLeast", inPlace := ["math/bits.Add64", "math/bits.Sub64"], unfollowed := true, recurses := true, named := ["math/bits.divideError", "math/bits.overflowError"], apart := false }
def EvictLeastSaid : Prop := evictLeastRow.holds Tryz.pinned (OpenSpec.ofChange evictLeastSpec)

/-- ITS FALSE NEIGHBOUR: 'it returns false'. Refute it at one input. -/
def evictLeastWrong : ChangeSpec := { name := "evictLeast", fn := fun _ => fun
  | [d] => { results := [.lit (.bool false)], args := [d] }
  | _ => none }
def EvictLeastWrongFalsely : Prop := evictLeastRow.holds Tryz.pinned (OpenSpec.ofChange evictLeastWrong)

/-- 'tarnlaw18.EvictTails': WHATEVER THE INPUT: true; the input reads as it did. -/
def evictTailsSpec : ChangeSpec := { name := "evictTails", fn := fun _ => fun
  | [d] => { results := [.lit (.bool true)], args := [d] }
  | _ => none }
def evictTailsRow : OpenClaim := { program := "ytakdnpafdadblaagreat", sum := "12aed32e1cc28b679aa30defa88dd084b06758469b063f701ebdaec0c3fd85a0", func := "tarn/tarnlaw18.EvictTails", spec := "evictTails", inPlace := ["math/bits.Add64", "math/bits.Sub64"], unfollowed := true, recurses := true, named := ["math/bits.divideError", "math/bits.overflowError"], apart := false }
def EvictTailsSaid : Prop := evictTailsRow.holds Tryz.pinned (OpenSpec.ofChange evictTailsSpec)

/-- ITS FALSE NEIGHBOUR: 'it returns false'. Refute it at one input. -/
def evictTailsWrong : ChangeSpec := { name := "evictTails", fn := fun _ => fun
  | [d] => { results := [.lit (.bool false)], args := [d] }
  | _ => none }
def EvictTailsWrongFalsely : Prop := evictTailsRow.holds Tryz.pinned (OpenSpec.ofChange evictTailsWrong)

/-- 'tarnlaw18.EvictDear': WHATEVER THE INPUT: true; the input reads as it did. -/
def evictDearSpec : ChangeSpec := { name := "evictDear", fn := fun _ => fun
  | [d] => { results := [.lit (.bool true)], args := [d] }
  | _ => none }
def evictDearRow : OpenClaim := { program := "ytakdnpafdadblaagreat", sum := "12aed32e1cc28b679aa30defa88dd084b06758469b063f701ebdaec0c3fd85a0", func := "tarn/tarnlaw18.EvictDear", spec := "evictDear", inPlace := ["math/bits.Add64", "math/bits.Sub64"], unfollowed := true, recurses := true, named := ["math/bits.divideError", "math/bits.overflowError"], apart := false }
def EvictDearSaid : Prop := evictDearRow.holds Tryz.pinned (OpenSpec.ofChange evictDearSpec)

/-- ITS FALSE NEIGHBOUR: 'it returns false'. Refute it at one input. -/
def evictDearWrong : ChangeSpec := { name := "evictDear", fn := fun _ => fun
  | [d] => { results := [.lit (.bool false)], args := [d] }
  | _ => none }
def EvictDearWrongFalsely : Prop := evictDearRow.holds Tryz.pinned (OpenSpec.ofChange evictDearWrong)

/-- 'tarnlaw19.AddExact': WHATEVER THE INPUT: true; the input reads as it did. -/
def addExactSpec : ChangeSpec := { name := "addExact", fn := fun _ => fun
  | [d] => { results := [.lit (.bool true)], args := [d] }
  | _ => none }
def addExactRow : OpenClaim := { program := "ytakdnpafdadblaagreat", sum := "12aed32e1cc28b679aa30defa88dd084b06758469b063f701ebdaec0c3fd85a0", func := "tarn/tarnlaw19.AddExact", spec := "addExact", inPlace := ["math/bits.Add64", "slices.overlaps[tarn/api.Tx]", "math/bits.Sub64"], unfollowed := true, recurses := true, named := ["math/bits.divideError", "math/bits.overflowError"], apart := false }
def AddExactSaid : Prop := addExactRow.holds Tryz.pinned (OpenSpec.ofChange addExactSpec)

/-- ITS FALSE NEIGHBOUR: 'it returns false'. Refute it at one input. -/
def addExactWrong : ChangeSpec := { name := "addExact", fn := fun _ => fun
  | [d] => { results := [.lit (.bool false)], args := [d] }
  | _ => none }
def AddExactWrongFalsely : Prop := addExactRow.holds Tryz.pinned (OpenSpec.ofChange addExactWrong)

/-- 'tarnlaw19.AddKeeps': WHATEVER THE INPUT: true; the input reads as it did. -/
def addKeepsSpec : ChangeSpec := { name := "addKeeps", fn := fun _ => fun
  | [d] => { results := [.lit (.bool true)], args := [d] }
  | _ => none }
def addKeepsRow : OpenClaim := { program := "ytakdnpafdadblaagreat", sum := "12aed32e1cc28b679aa30defa88dd084b06758469b063f701ebdaec0c3fd85a0", func := "tarn/tarnlaw19.AddKeeps", spec := "addKeeps", inPlace := ["math/bits.Add64", "slices.overlaps[tarn/api.Tx]", "math/bits.Sub64"], unfollowed := true, recurses := true, named := ["math/bits.divideError", "math/bits.overflowError"], apart := false }
def AddKeepsSaid : Prop := addKeepsRow.holds Tryz.pinned (OpenSpec.ofChange addKeepsSpec)

/-- ITS FALSE NEIGHBOUR: 'it returns false'. Refute it at one input. -/
def addKeepsWrong : ChangeSpec := { name := "addKeeps", fn := fun _ => fun
  | [d] => { results := [.lit (.bool false)], args := [d] }
  | _ => none }
def AddKeepsWrongFalsely : Prop := addKeepsRow.holds Tryz.pinned (OpenSpec.ofChange addKeepsWrong)

/-- 'tarnlaw19.AddFull': WHATEVER THE INPUT: true; the input reads as it did. -/
def addFullSpec : ChangeSpec := { name := "addFull", fn := fun _ => fun
  | [d] => { results := [.lit (.bool true)], args := [d] }
  | _ => none }
def addFullRow : OpenClaim := { program := "ytakdnpafdadblaagreat", sum := "12aed32e1cc28b679aa30defa88dd084b06758469b063f701ebdaec0c3fd85a0", func := "tarn/tarnlaw19.AddFull", spec := "addFull", inPlace := ["math/bits.Add64", "slices.overlaps[tarn/api.Tx]", "math/bits.Sub64"], unfollowed := true, recurses := true, named := ["math/bits.divideError", "math/bits.overflowError"], apart := false }
def AddFullSaid : Prop := addFullRow.holds Tryz.pinned (OpenSpec.ofChange addFullSpec)

/-- ITS FALSE NEIGHBOUR: 'it returns false'. Refute it at one input. -/
def addFullWrong : ChangeSpec := { name := "addFull", fn := fun _ => fun
  | [d] => { results := [.lit (.bool false)], args := [d] }
  | _ => none }
def AddFullWrongFalsely : Prop := addFullRow.holds Tryz.pinned (OpenSpec.ofChange addFullWrong)

/-- 'tarnlaw19.AddRaw': WHATEVER THE INPUT: true; the input reads as it did. -/
def addRawSpec : ChangeSpec := { name := "addRaw", fn := fun _ => fun
  | [d] => { results := [.lit (.bool true)], args := [d] }
  | _ => none }
def addRawRow : OpenClaim := { program := "ytakdnpafdadblaagreat", sum := "12aed32e1cc28b679aa30defa88dd084b06758469b063f701ebdaec0c3fd85a0", func := "tarn/tarnlaw19.AddRaw", spec := "addRaw", inPlace := ["math/bits.Add64", "slices.overlaps[tarn/api.Tx]", "math/bits.Sub64"], unfollowed := true, recurses := true, named := ["math/bits.divideError", "math/bits.overflowError"], apart := false }
def AddRawSaid : Prop := addRawRow.holds Tryz.pinned (OpenSpec.ofChange addRawSpec)

/-- ITS FALSE NEIGHBOUR: 'it returns false'. Refute it at one input. -/
def addRawWrong : ChangeSpec := { name := "addRaw", fn := fun _ => fun
  | [d] => { results := [.lit (.bool false)], args := [d] }
  | _ => none }
def AddRawWrongFalsely : Prop := addRawRow.holds Tryz.pinned (OpenSpec.ofChange addRawWrong)

/-- 'tarnlaw19.AddReplaces': WHATEVER THE INPUT: true; the input reads as it did. -/
def addReplacesSpec : ChangeSpec := { name := "addReplaces", fn := fun _ => fun
  | [d] => { results := [.lit (.bool true)], args := [d] }
  | _ => none }
def addReplacesRow : OpenClaim := { program := "ytakdnpafdadblaagreat", sum := "12aed32e1cc28b679aa30defa88dd084b06758469b063f701ebdaec0c3fd85a0", func := "tarn/tarnlaw19.AddReplaces", spec := "addReplaces", inPlace := ["math/bits.Add64", "slices.overlaps[tarn/api.Tx]", "math/bits.Sub64"], unfollowed := true, recurses := true, named := ["math/bits.divideError", "math/bits.overflowError"], apart := false }
def AddReplacesSaid : Prop := addReplacesRow.holds Tryz.pinned (OpenSpec.ofChange addReplacesSpec)

/-- ITS FALSE NEIGHBOUR: 'it returns false'. Refute it at one input. -/
def addReplacesWrong : ChangeSpec := { name := "addReplaces", fn := fun _ => fun
  | [d] => { results := [.lit (.bool false)], args := [d] }
  | _ => none }
def AddReplacesWrongFalsely : Prop := addReplacesRow.holds Tryz.pinned (OpenSpec.ofChange addReplacesWrong)

/-- 'tarnlaw19.AddOrders': WHATEVER THE INPUT: true; the input reads as it did. -/
def addOrdersSpec : ChangeSpec := { name := "addOrders", fn := fun _ => fun
  | [d] => { results := [.lit (.bool true)], args := [d] }
  | _ => none }
def addOrdersRow : OpenClaim := { program := "ytakdnpafdadblaagreat", sum := "12aed32e1cc28b679aa30defa88dd084b06758469b063f701ebdaec0c3fd85a0", func := "tarn/tarnlaw19.AddOrders", spec := "addOrders", inPlace := ["math/bits.Add64", "slices.overlaps[tarn/api.Tx]", "math/bits.Sub64"], unfollowed := true, recurses := true, named := ["math/bits.divideError", "math/bits.overflowError"], apart := false }
def AddOrdersSaid : Prop := addOrdersRow.holds Tryz.pinned (OpenSpec.ofChange addOrdersSpec)

/-- ITS FALSE NEIGHBOUR: 'it returns false'. Refute it at one input. -/
def addOrdersWrong : ChangeSpec := { name := "addOrders", fn := fun _ => fun
  | [d] => { results := [.lit (.bool false)], args := [d] }
  | _ => none }
def AddOrdersWrongFalsely : Prop := addOrdersRow.holds Tryz.pinned (OpenSpec.ofChange addOrdersWrong)

/- THE SECOND FORM. 'bulk': how many values and letters a reading holds, each counted each time it is reached (what is shared counts as often as it is met; a slice's spare places count too). A statement '..UptoSaid' is the law's where the arguments, and the package variables that the reading takes, are together of bulk at most 1048576: NARROWER than '..Said'. Prove '..Said' where nothing that the law and all that it calls make is longer than what came in: it says more and counts as full. Else prove '..UptoSaid'. A law counts once. -/
mutual
def uptoBulk {H : Type} : DataW H → Nat
  | .lit (.string bytes) => bytes.length + 1
  | .lit _ => 1
  | .nil => 1
  | .ptr d => uptoBulk d + 1
  | .slice elems spare => uptoBulkAll elems + uptoBulkAll spare + 1
  | .agg parts => uptoBulkAll parts + 1
  | .iface _ d => uptoBulk d + 1
  | .map entries => uptoBulkEntries entries + 1
  | .held _ => 1
def uptoBulkAll {H : Type} : List (DataW H) → Nat
  | [] => 0
  | d :: r => uptoBulk d + uptoBulkAll r
def uptoBulkEntries {H : Type} : List (Lit × DataW H) → Nat
  | [] => 0
  | x :: r => uptoBulkEntry x + uptoBulkEntries r
def uptoBulkEntry {H : Type} : Lit × DataW H → Nat
  | (.string bytes, d) => bytes.length + uptoBulk d + 1
  | (_, d) => uptoBulk d + 1
 end
def uptoSmall : (H : Type) → List (DataW H) → Bool := fun _ ds => decide (uptoBulkAll ds ≤ 1048576)
def OpenSpec.upto (s : _root_.Go.ChangeSpec) : _root_.Go.OpenSpec := { _root_.Go.OpenSpec.ofChange s with cond := some uptoSmall }

/-- 'tarnlaw17.AdmitErrors', WHERE WHAT IT READS IS OF BULK AT MOST 1048576: true; the input reads as it did. -/
def admitErrorsUptoRow : OpenClaim := { program := "ytakdnpafdadblaagreat", sum := "12aed32e1cc28b679aa30defa88dd084b06758469b063f701ebdaec0c3fd85a0", func := "tarn/tarnlaw17.AdmitErrors", spec := "admitErrors", inPlace := ["math/bits.Add64"], unfollowed := true, recurses := true, apart := false, narrowed := true }
def AdmitErrorsUptoSaid : Prop := admitErrorsUptoRow.holds Tryz.pinned (OpenSpec.upto admitErrorsSpec)

/-- 'tarnlaw17.AdmitGap', WHERE WHAT IT READS IS OF BULK AT MOST 1048576: true; the input reads as it did. -/
def admitGapUptoRow : OpenClaim := { program := "ytakdnpafdadblaagreat", sum := "12aed32e1cc28b679aa30defa88dd084b06758469b063f701ebdaec0c3fd85a0", func := "tarn/tarnlaw17.AdmitGap", spec := "admitGap", inPlace := ["math/bits.Add64"], unfollowed := true, recurses := true, apart := false, narrowed := true }
def AdmitGapUptoSaid : Prop := admitGapUptoRow.holds Tryz.pinned (OpenSpec.upto admitGapSpec)

/-- 'tarnlaw24.BuildTells', WHERE WHAT IT READS IS OF BULK AT MOST 1048576: true; the input reads as it did. -/
def buildTellsUptoRow : OpenClaim := { program := "ytakdnpafdadblaagreat", sum := "12aed32e1cc28b679aa30defa88dd084b06758469b063f701ebdaec0c3fd85a0", func := "tarn/tarnlaw24.BuildTells", spec := "buildTells", inPlace := ["math/bits.Add64", "math/bits.Sub64"], unfollowed := true, recurses := true, apart := false, narrowed := true }
def BuildTellsUptoSaid : Prop := buildTellsUptoRow.holds Tryz.pinned (OpenSpec.upto buildTellsSpec)

/-- 'tarnlaw24.BuildFronts', WHERE WHAT IT READS IS OF BULK AT MOST 1048576: true; the input reads as it did. -/
def buildFrontsUptoRow : OpenClaim := { program := "ytakdnpafdadblaagreat", sum := "12aed32e1cc28b679aa30defa88dd084b06758469b063f701ebdaec0c3fd85a0", func := "tarn/tarnlaw24.BuildFronts", spec := "buildFronts", inPlace := ["math/bits.Add64", "math/bits.Sub64"], unfollowed := true, recurses := true, apart := false, narrowed := true }
def BuildFrontsUptoSaid : Prop := buildFrontsUptoRow.holds Tryz.pinned (OpenSpec.upto buildFrontsSpec)

/-- 'tarnlaw24.BuildOrders', WHERE WHAT IT READS IS OF BULK AT MOST 1048576: true; the input reads as it did. -/
def buildOrdersUptoRow : OpenClaim := { program := "ytakdnpafdadblaagreat", sum := "12aed32e1cc28b679aa30defa88dd084b06758469b063f701ebdaec0c3fd85a0", func := "tarn/tarnlaw24.BuildOrders", spec := "buildOrders", inPlace := ["math/bits.Add64", "math/bits.Sub64"], unfollowed := true, recurses := true, apart := false, narrowed := true }
def BuildOrdersUptoSaid : Prop := buildOrdersUptoRow.holds Tryz.pinned (OpenSpec.upto buildOrdersSpec)

/-- 'tarnlaw24.BuildSkips', WHERE WHAT IT READS IS OF BULK AT MOST 1048576: true; the input reads as it did. -/
def buildSkipsUptoRow : OpenClaim := { program := "ytakdnpafdadblaagreat", sum := "12aed32e1cc28b679aa30defa88dd084b06758469b063f701ebdaec0c3fd85a0", func := "tarn/tarnlaw24.BuildSkips", spec := "buildSkips", inPlace := ["math/bits.Add64", "math/bits.Sub64"], unfollowed := true, recurses := true, apart := false, narrowed := true }
def BuildSkipsUptoSaid : Prop := buildSkipsUptoRow.holds Tryz.pinned (OpenSpec.upto buildSkipsSpec)

/-- 'tarnlaw16.PoolBytes', WHERE WHAT IT READS IS OF BULK AT MOST 1048576: true; the input reads as it did. -/
def poolBytesUptoRow : OpenClaim := { program := "ytakdnpafdadblaagreat", sum := "12aed32e1cc28b679aa30defa88dd084b06758469b063f701ebdaec0c3fd85a0", func := "tarn/tarnlaw16.PoolBytes", spec := "poolBytes", inPlace := ["math/bits.Add64", "slices.overlaps[tarn/api.Tx]"], unfollowed := true, recurses := true, apart := false, narrowed := true }
def PoolBytesUptoSaid : Prop := poolBytesUptoRow.holds Tryz.pinned (OpenSpec.upto poolBytesSpec)

/-- 'tarnlaw16.PoolWrongs', WHERE WHAT IT READS IS OF BULK AT MOST 1048576: true; the input reads as it did. -/
def poolWrongsUptoRow : OpenClaim := { program := "ytakdnpafdadblaagreat", sum := "12aed32e1cc28b679aa30defa88dd084b06758469b063f701ebdaec0c3fd85a0", func := "tarn/tarnlaw16.PoolWrongs", spec := "poolWrongs", inPlace := ["math/bits.Add64", "slices.overlaps[tarn/api.Tx]"], unfollowed := true, recurses := true, apart := false, narrowed := true }
def PoolWrongsUptoSaid : Prop := poolWrongsUptoRow.holds Tryz.pinned (OpenSpec.upto poolWrongsSpec)

/-- 'tarnlaw16.PoolNews', WHERE WHAT IT READS IS OF BULK AT MOST 1048576: true; the input reads as it did. -/
def poolNewsUptoRow : OpenClaim := { program := "ytakdnpafdadblaagreat", sum := "12aed32e1cc28b679aa30defa88dd084b06758469b063f701ebdaec0c3fd85a0", func := "tarn/tarnlaw16.PoolNews", spec := "poolNews", inPlace := ["math/bits.Add64", "slices.overlaps[tarn/api.Tx]"], unfollowed := true, recurses := true, apart := false, narrowed := true }
def PoolNewsUptoSaid : Prop := poolNewsUptoRow.holds Tryz.pinned (OpenSpec.upto poolNewsSpec)

/-- 'tarnlaw16.PoolChains', WHERE WHAT IT READS IS OF BULK AT MOST 1048576: true; the input reads as it did. -/
def poolChainsUptoRow : OpenClaim := { program := "ytakdnpafdadblaagreat", sum := "12aed32e1cc28b679aa30defa88dd084b06758469b063f701ebdaec0c3fd85a0", func := "tarn/tarnlaw16.PoolChains", spec := "poolChains", inPlace := ["math/bits.Add64", "slices.overlaps[tarn/api.Tx]"], unfollowed := true, recurses := true, apart := false, narrowed := true }
def PoolChainsUptoSaid : Prop := poolChainsUptoRow.holds Tryz.pinned (OpenSpec.upto poolChainsSpec)

/-- 'tarnlaw16.PoolPuts', WHERE WHAT IT READS IS OF BULK AT MOST 1048576: true; the input reads as it did. -/
def poolPutsUptoRow : OpenClaim := { program := "ytakdnpafdadblaagreat", sum := "12aed32e1cc28b679aa30defa88dd084b06758469b063f701ebdaec0c3fd85a0", func := "tarn/tarnlaw16.PoolPuts", spec := "poolPuts", inPlace := ["math/bits.Add64", "slices.overlaps[tarn/api.Tx]"], unfollowed := true, recurses := true, apart := false, narrowed := true }
def PoolPutsUptoSaid : Prop := poolPutsUptoRow.holds Tryz.pinned (OpenSpec.upto poolPutsSpec)

/-- 'tarnlaw16.PoolTells', WHERE WHAT IT READS IS OF BULK AT MOST 1048576: true; the input reads as it did. -/
def poolTellsUptoRow : OpenClaim := { program := "ytakdnpafdadblaagreat", sum := "12aed32e1cc28b679aa30defa88dd084b06758469b063f701ebdaec0c3fd85a0", func := "tarn/tarnlaw16.PoolTells", spec := "poolTells", inPlace := ["math/bits.Add64", "slices.overlaps[tarn/api.Tx]"], unfollowed := true, recurses := true, apart := false, narrowed := true }
def PoolTellsUptoSaid : Prop := poolTellsUptoRow.holds Tryz.pinned (OpenSpec.upto poolTellsSpec)

/-- 'tarnlaw16.PoolFinds', WHERE WHAT IT READS IS OF BULK AT MOST 1048576: true; the input reads as it did. -/
def poolFindsUptoRow : OpenClaim := { program := "ytakdnpafdadblaagreat", sum := "12aed32e1cc28b679aa30defa88dd084b06758469b063f701ebdaec0c3fd85a0", func := "tarn/tarnlaw16.PoolFinds", spec := "poolFinds", inPlace := ["math/bits.Add64", "slices.overlaps[tarn/api.Tx]"], unfollowed := true, recurses := true, apart := false, narrowed := true }
def PoolFindsUptoSaid : Prop := poolFindsUptoRow.holds Tryz.pinned (OpenSpec.upto poolFindsSpec)

/-- 'tarnlaw18.EvictNexts', WHERE WHAT IT READS IS OF BULK AT MOST 1048576: true; the input reads as it did. -/
def evictNextsUptoRow : OpenClaim := { program := "ytakdnpafdadblaagreat", sum := "12aed32e1cc28b679aa30defa88dd084b06758469b063f701ebdaec0c3fd85a0", func := "tarn/tarnlaw18.EvictNexts", spec := "evictNexts", inPlace := ["math/bits.Add64", "math/bits.Sub64"], unfollowed := true, recurses := true, named := ["math/bits.divideError", "math/bits.overflowError"], apart := false, narrowed := true }
def EvictNextsUptoSaid : Prop := evictNextsUptoRow.holds Tryz.pinned (OpenSpec.upto evictNextsSpec)

/-- 'tarnlaw18.EvictDowns', WHERE WHAT IT READS IS OF BULK AT MOST 1048576: true; the input reads as it did. -/
def evictDownsUptoRow : OpenClaim := { program := "ytakdnpafdadblaagreat", sum := "12aed32e1cc28b679aa30defa88dd084b06758469b063f701ebdaec0c3fd85a0", func := "tarn/tarnlaw18.EvictDowns", spec := "evictDowns", inPlace := ["math/bits.Add64", "math/bits.Sub64"], unfollowed := true, recurses := true, named := ["math/bits.divideError", "math/bits.overflowError"], apart := false, narrowed := true }
def EvictDownsUptoSaid : Prop := evictDownsUptoRow.holds Tryz.pinned (OpenSpec.upto evictDownsSpec)

/-- 'tarnlaw18.EvictLeast', WHERE WHAT IT READS IS OF BULK AT MOST 1048576: true; the input reads as it did. -/
def evictLeastUptoRow : OpenClaim := { program := "ytakdnpafdadblaagreat", sum := "12aed32e1cc28b679aa30defa88dd084b06758469b063f701ebdaec0c3fd85a0", func := "tarn/tarnlaw18.EvictLeast", spec := "evictLeast", inPlace := ["math/bits.Add64", "math/bits.Sub64"], unfollowed := true, recurses := true, named := ["math/bits.divideError", "math/bits.overflowError"], apart := false, narrowed := true }
def EvictLeastUptoSaid : Prop := evictLeastUptoRow.holds Tryz.pinned (OpenSpec.upto evictLeastSpec)

/-- 'tarnlaw18.EvictTails', WHERE WHAT IT READS IS OF BULK AT MOST 1048576: true; the input reads as it did. -/
def evictTailsUptoRow : OpenClaim := { program := "ytakdnpafdadblaagreat", sum := "12aed32e1cc28b679aa30defa88dd084b06758469b063f701ebdaec0c3fd85a0", func := "tarn/tarnlaw18.EvictTails", spec := "evictTails", inPlace := ["math/bits.Add64", "math/bits.Sub64"], unfollowed := true, recurses := true, named := ["math/bits.divideError", "math/bits.overflowError"], apart := false, narrowed := true }
def EvictTailsUptoSaid : Prop := evictTailsUptoRow.holds Tryz.pinned (OpenSpec.upto evictTailsSpec)

/-- 'tarnlaw18.EvictDear', WHERE WHAT IT READS IS OF BULK AT MOST 1048576: true; the input reads as it did. -/
def evictDearUptoRow : OpenClaim := { program := "ytakdnpafdadblaagreat", sum := "12aed32e1cc28b679aa30defa88dd084b06758469b063f701ebdaec0c3fd85a0", func := "tarn/tarnlaw18.EvictDear", spec := "evictDear", inPlace := ["math/bits.Add64", "math/bits.Sub64"], unfollowed := true, recurses := true, named := ["math/bits.divideError", "math/bits.overflowError"], apart := false, narrowed := true }
def EvictDearUptoSaid : Prop := evictDearUptoRow.holds Tryz.pinned (OpenSpec.upto evictDearSpec)

/-- 'tarnlaw19.AddExact', WHERE WHAT IT READS IS OF BULK AT MOST 1048576: true; the input reads as it did. -/
def addExactUptoRow : OpenClaim := { program := "ytakdnpafdadblaagreat", sum := "12aed32e1cc28b679aa30defa88dd084b06758469b063f701ebdaec0c3fd85a0", func := "tarn/tarnlaw19.AddExact", spec := "addExact", inPlace := ["math/bits.Add64", "slices.overlaps[tarn/api.Tx]", "math/bits.Sub64"], unfollowed := true, recurses := true, named := ["math/bits.divideError", "math/bits.overflowError"], apart := false, narrowed := true }
def AddExactUptoSaid : Prop := addExactUptoRow.holds Tryz.pinned (OpenSpec.upto addExactSpec)

/-- 'tarnlaw19.AddKeeps', WHERE WHAT IT READS IS OF BULK AT MOST 1048576: true; the input reads as it did. -/
def addKeepsUptoRow : OpenClaim := { program := "ytakdnpafdadblaagreat", sum := "12aed32e1cc28b679aa30defa88dd084b06758469b063f701ebdaec0c3fd85a0", func := "tarn/tarnlaw19.AddKeeps", spec := "addKeeps", inPlace := ["math/bits.Add64", "slices.overlaps[tarn/api.Tx]", "math/bits.Sub64"], unfollowed := true, recurses := true, named := ["math/bits.divideError", "math/bits.overflowError"], apart := false, narrowed := true }
def AddKeepsUptoSaid : Prop := addKeepsUptoRow.holds Tryz.pinned (OpenSpec.upto addKeepsSpec)

/-- 'tarnlaw19.AddFull', WHERE WHAT IT READS IS OF BULK AT MOST 1048576: true; the input reads as it did. -/
def addFullUptoRow : OpenClaim := { program := "ytakdnpafdadblaagreat", sum := "12aed32e1cc28b679aa30defa88dd084b06758469b063f701ebdaec0c3fd85a0", func := "tarn/tarnlaw19.AddFull", spec := "addFull", inPlace := ["math/bits.Add64", "slices.overlaps[tarn/api.Tx]", "math/bits.Sub64"], unfollowed := true, recurses := true, named := ["math/bits.divideError", "math/bits.overflowError"], apart := false, narrowed := true }
def AddFullUptoSaid : Prop := addFullUptoRow.holds Tryz.pinned (OpenSpec.upto addFullSpec)

/-- 'tarnlaw19.AddRaw', WHERE WHAT IT READS IS OF BULK AT MOST 1048576: true; the input reads as it did. -/
def addRawUptoRow : OpenClaim := { program := "ytakdnpafdadblaagreat", sum := "12aed32e1cc28b679aa30defa88dd084b06758469b063f701ebdaec0c3fd85a0", func := "tarn/tarnlaw19.AddRaw", spec := "addRaw", inPlace := ["math/bits.Add64", "slices.overlaps[tarn/api.Tx]", "math/bits.Sub64"], unfollowed := true, recurses := true, named := ["math/bits.divideError", "math/bits.overflowError"], apart := false, narrowed := true }
def AddRawUptoSaid : Prop := addRawUptoRow.holds Tryz.pinned (OpenSpec.upto addRawSpec)

/-- 'tarnlaw19.AddReplaces', WHERE WHAT IT READS IS OF BULK AT MOST 1048576: true; the input reads as it did. -/
def addReplacesUptoRow : OpenClaim := { program := "ytakdnpafdadblaagreat", sum := "12aed32e1cc28b679aa30defa88dd084b06758469b063f701ebdaec0c3fd85a0", func := "tarn/tarnlaw19.AddReplaces", spec := "addReplaces", inPlace := ["math/bits.Add64", "slices.overlaps[tarn/api.Tx]", "math/bits.Sub64"], unfollowed := true, recurses := true, named := ["math/bits.divideError", "math/bits.overflowError"], apart := false, narrowed := true }
def AddReplacesUptoSaid : Prop := addReplacesUptoRow.holds Tryz.pinned (OpenSpec.upto addReplacesSpec)

/-- 'tarnlaw19.AddOrders', WHERE WHAT IT READS IS OF BULK AT MOST 1048576: true; the input reads as it did. -/
def addOrdersUptoRow : OpenClaim := { program := "ytakdnpafdadblaagreat", sum := "12aed32e1cc28b679aa30defa88dd084b06758469b063f701ebdaec0c3fd85a0", func := "tarn/tarnlaw19.AddOrders", spec := "addOrders", inPlace := ["math/bits.Add64", "slices.overlaps[tarn/api.Tx]", "math/bits.Sub64"], unfollowed := true, recurses := true, named := ["math/bits.divideError", "math/bits.overflowError"], apart := false, narrowed := true }
def AddOrdersUptoSaid : Prop := addOrdersUptoRow.holds Tryz.pinned (OpenSpec.upto addOrdersSpec)

end Rows
end Go.Proofs.YtakdnpafdadblaaGreat
