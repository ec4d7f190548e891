/- Laws that the proof stands on. -/
import Derived.Stop.LaidErr
import Derived.Stop.ErrReads
import Derived.Test.YtjkbngjiagknkaaGreatDoorRows
import Derived.Test.YtjkbngjiagknkaaGreatDoorZVTab
set_option linter.all false
namespace Go.Proofs.YtjkbngjiagknkaaGreatDoor
open Go.ChangeShapes Go.WideShapes Go.ChangeAt Go.RowKit Go.V Go.Extern.Stop Go.Stop Go.Extern
set_option maxRecDepth 100000
theorem star_es : "*" ++ "errors.errorString" = "*errors.errorString" := by decide
theorem row_es (u : TypeId) (h : Tryz.prog.typeName? 3 u = some "*errors.errorString") : u = 201 :=
  typeName_ptr_named (nm := "errors.errorString") (by rw [star_es]; kernel_rfl) (by kernel_rfl) (by decide) u (by rw [star_es]; exact h)
theorem gR_es : Tryz.prog.globalNamed "strconv.ErrRange" = some ((Tryz.prog.globalNamed "strconv.ErrRange").getD 0) := by kernel_rfl
theorem gS_es : Tryz.prog.globalNamed "strconv.ErrSyntax" = some ((Tryz.prog.globalNamed "strconv.ErrSyntax").getD 0) := by kernel_rfl
theorem tR_es : (Tryz.prog.globals[(Tryz.prog.globalNamed "strconv.ErrRange").getD 0]?).map (·.type) = some 58 := by kernel_rfl
theorem tS_es : (Tryz.prog.globals[(Tryz.prog.globalNamed "strconv.ErrSyntax").getD 0]?).map (·.type) = some 58 := by kernel_rfl
theorem c_es:Tryz.prog.cellsOf 203=1:=by kernel_rfl
theorem cs_es:Tryz.prog.cellsOf 9=1:=by kernel_rfl
theorem one_es:((List.range (354 - 100)).filter fun t=>Tryz.prog.rowNamed t [101,114,114,111,114])=[58]:=by kernel_rfl
theorem sz_es:Tryz.prog.types.size=354 - 100:=by kernel_rfl
theorem tab_of_row {W : World} (h : laidMetH Tryz.prog [("math/bits.deBruijn32tab", Rows.laid_math_bits_deBruijn32tab), ("math/bits.deBruijn64tab", Rows.laid_math_bits_deBruijn64tab), ("internal/strconv.uint64pow10", Rows.laid_internal_strconv_uint64pow10), ("errors.errorType", Rows.laid_errors_errorType), ("strconv.ErrRange", Rows.laid_strconv_ErrRange), ("strconv.ErrSyntax", Rows.laid_strconv_ErrSyntax)] W) : GI TabG W (fun b => b < W.heap.size) := by have h' : laidMet Tryz.prog [("math/bits.deBruijn32tab", Rows.laid_math_bits_deBruijn32tab), ("math/bits.deBruijn64tab", Rows.laid_math_bits_deBruijn64tab), ("internal/strconv.uint64pow10", Rows.laid_internal_strconv_uint64pow10), ("strconv.ErrRange", Rows.laid_strconv_ErrRange), ("strconv.ErrSyntax", Rows.laid_strconv_ErrSyntax)] W ∧ handlesMet Tryz.prog [("errors.errorType", Rows.laid_errors_errorType)] W := h; obtain ⟨h1, h2⟩ := h'; obtain ⟨name, u, ty, e1, e2, e3, e4, e5⟩ := h2 _ (List.mem_singleton.2 rfl); have en : name = [101, 114, 114, 111, 114] := (Option.some.inj e1).symm; subst en; have hm : ty ∈ (List.range (354 - 100)).filter fun t => Tryz.prog.rowNamed t [101, 114, 114, 111, 114] := List.mem_filter.2 ⟨List.mem_range.2 (by rw [← sz_es]; exact e3), e4⟩; rw [one_es] at hm; obtain rfl := List.mem_singleton.1 hm; have hh : typeHandle Tryz.prog 58 = .pointer (some ⟨Tryz.prog.globals.size, tErr, none⟩) := (by kernel_rfl); rw [hh] at e5; obtain ⟨ra, rs, hR, _⟩ := laid_sentinel h1.tail.tail.tail gR_es tR_es Tryz.underlying58 row_es Tryz.underlying201 Tryz.underlying203 rfl rfl Tryz.underlying9 c_es cs_es; obtain ⟨sa, ss, hS, _⟩ := laid_sentinel h1.tail.tail.tail.tail gS_es tS_es Tryz.underlying58 row_es Tryz.underlying201 Tryz.underlying203 rfl rfl Tryz.underlying9 c_es cs_es; exact tab_of_laidE (ty := 0) h1.tail.tail hR hS e2 e5
end Go.Proofs.YtjkbngjiagknkaaGreatDoor
