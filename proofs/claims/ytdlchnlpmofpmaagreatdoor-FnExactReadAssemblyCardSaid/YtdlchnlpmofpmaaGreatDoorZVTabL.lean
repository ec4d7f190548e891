/- Laws that the proof stands on. -/
import Derived.Stop.LaidErr
import Derived.Stop.ErrReads
import Derived.Test.YtdlchnlpmofpmaaGreatDoorRows
import Derived.Test.YtdlchnlpmofpmaaGreatDoorZVTab
set_option linter.all false
namespace Go.Proofs.YtdlchnlpmofpmaaGreatDoor
open Go.ChangeShapes Go.WideShapes Go.ChangeAt Go.RowKit Go.V Go.Extern.Stop Go.Stop Go.Extern
set_option maxRecDepth 100000
theorem zZ6 : "*" ++ "errors.errorString" = "*errors.errorString" := by decide
theorem yJ1 (u : TypeId) (h : Tryz.prog.typeName? 3 u = some "*errors.errorString") : u = 216 :=
  typeName_ptr_named (nm := "errors.errorString") (by rw [zZ6]; kernel_rfl) (by kernel_rfl) (by decide) u (by rw [zZ6]; exact h)
theorem yW1 : Tryz.prog.globalNamed "strconv.ErrRange" = some ((Tryz.prog.globalNamed "strconv.ErrRange").getD 0) := by kernel_rfl
theorem yW0 : Tryz.prog.globalNamed "strconv.ErrSyntax" = some ((Tryz.prog.globalNamed "strconv.ErrSyntax").getD 0) := by kernel_rfl
theorem yVw : (Tryz.prog.globals[(Tryz.prog.globalNamed "strconv.ErrRange").getD 0]?).map (·.type) = some 59 := by kernel_rfl
theorem yVv : (Tryz.prog.globals[(Tryz.prog.globalNamed "strconv.ErrSyntax").getD 0]?).map (·.type) = some 59 := by kernel_rfl
theorem yXy:Tryz.prog.cellsOf 218=1:=by kernel_rfl
theorem yUh:Tryz.prog.cellsOf 9=1:=by kernel_rfl
theorem ySe:((List.range (354-100)).filter fun t=>Tryz.prog.rowNamed t [101,114,114,111,114])=[59]:=by kernel_rfl
theorem yVy:Tryz.prog.types.size=354-100:=by kernel_rfl
theorem zWy {W : World} (h : laidMetH Tryz.prog [("math/bits.deBruijn32tab", Rows.laid_math_bits_deBruijn32tab), ("math/bits.deBruijn64tab", Rows.laid_math_bits_deBruijn64tab), ("internal/strconv.uint64pow10", Rows.laid_internal_strconv_uint64pow10), ("errors.errorType", Rows.laid_errors_errorType), ("strconv.ErrRange", Rows.laid_strconv_ErrRange), ("strconv.ErrSyntax", Rows.laid_strconv_ErrSyntax)] W) : GI zAr W (fun b => b < W.heap.size) := by have h' : laidMet Tryz.prog [("math/bits.deBruijn32tab", Rows.laid_math_bits_deBruijn32tab), ("math/bits.deBruijn64tab", Rows.laid_math_bits_deBruijn64tab), ("internal/strconv.uint64pow10", Rows.laid_internal_strconv_uint64pow10), ("strconv.ErrRange", Rows.laid_strconv_ErrRange), ("strconv.ErrSyntax", Rows.laid_strconv_ErrSyntax)] W ∧ handlesMet Tryz.prog [("errors.errorType", Rows.laid_errors_errorType)] W := h; obtain ⟨h1, h2⟩ := h'; obtain ⟨name, u, ty, e1, e2, e3, e4, e5⟩ := h2 _ (List.mem_singleton.2 rfl); have en : name = [101, 114, 114, 111, 114] := (Option.some.inj e1).symm; subst en; have hm : ty ∈ (List.range (354 - 100)).filter fun t => Tryz.prog.rowNamed t [101, 114, 114, 111, 114] := List.mem_filter.2 ⟨List.mem_range.2 (by rw [← yVy]; exact e3), e4⟩; rw [ySe] at hm; obtain rfl := List.mem_singleton.1 hm; have hh : typeHandle Tryz.prog 59 = .pointer (some ⟨Tryz.prog.globals.size, yVx, none⟩) := (by kernel_rfl); rw [hh] at e5; obtain ⟨ra, rs, hR, _⟩ := laid_sentinel h1.tail.tail.tail yW1 yVw Tryz.underlying59 yJ1 Tryz.underlying216 Tryz.underlying218 rfl rfl Tryz.underlying9 yXy yUh; obtain ⟨sa, ss, hS, _⟩ := laid_sentinel h1.tail.tail.tail.tail yW0 yVv Tryz.underlying59 yJ1 Tryz.underlying216 Tryz.underlying218 rfl rfl Tryz.underlying9 yXy yUh; exact zRb (ty := 0) h1.tail.tail hR hS e2 e5
end Go.Proofs.YtdlchnlpmofpmaaGreatDoor
