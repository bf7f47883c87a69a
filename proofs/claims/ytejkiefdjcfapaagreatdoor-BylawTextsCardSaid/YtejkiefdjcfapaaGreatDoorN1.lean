/- What the laid variables hold. -/
import Derived.Test.YtejkiefdjcfapaaGreatDoorM1
import Derived.Test.YtejkiefdjcfapaaGreatDoorRows
import Derived.Stop.LaidErr
import Derived.RowKitTokens
set_option linter.unusedVariables false
set_option linter.unusedSimpArgs false
namespace Go.Proofs.YtejkiefdjcfapaaGreatDoor
open Go Go.RowKit Go.Sx Go.Lib
set_option maxRecDepth 100000
theorem giw_star: "*" ++ "errors.errorString" = "*errors.errorString" :=by decide
theorem giw_row (u:TypeId) (h:Tryz.prog.typeName? 3 u=some "*errors.errorString"):u=186:=
 typeName_ptr_named (nm:= "errors.errorString") (by rw [giw_star];kernel_rfl) (by kernel_rfl) (by decide) u (by rw [giw_star];exact h)
theorem giw_of {w:World} (h:laidMet Tryz.prog [("math/bits.deBruijn32tab",Rows.laid_math_bits_deBruijn32tab),("math/bits.deBruijn64tab",Rows.laid_math_bits_deBruijn64tab),("internal/strconv.uint64pow10",Rows.laid_internal_strconv_uint64pow10),("unicode/utf8.acceptRanges",Rows.laid_unicode_utf8_acceptRanges),("strconv.ErrRange",Rows.laid_strconv_ErrRange),("strconv.ErrSyntax",Rows.laid_strconv_ErrSyntax),("unicode/utf8.first",Rows.laid_unicode_utf8_first)] w):GIW Tryz.prog w:=by
 have h2:=h.tail;have h3:=h2.tail;have h4:=h3.tail;have h5:=h4.tail;have h6:=h5.tail
 have t64:TabIs Tryz.prog w "math/bits.deBruijn64tab" .u8 [0,1,56,2,57,49,28,3,61,58,42,50,38,29,17,4,62,47,59,36,45,43,51,22,53,39,33,30,24,18,12,5,63,55,48,27,60,41,37,16,46,35,44,21,52,32,23,11,54,26,40,15,34,20,31,10,25,14,19,9,13,8,7,6]:=
  tabIs_of_head (g:=7) (t:=190) (e:=5) (n:=64) (by kernel_rfl) (by kernel_rfl) (by kernel_rfl) (by kernel_rfl) (by kernel_rfl) (by kernel_rfl) h2
 have t10:TabIs Tryz.prog w "internal/strconv.uint64pow10" .u64 pow10Tab:=
  tabIs_of_head (g:=0) (t:=168) (e:=151) (n:=20) (by kernel_rfl) (by kernel_rfl) (by kernel_rfl) (by kernel_rfl) (by kernel_rfl) (by kernel_rfl) h3
 obtain⟨a,s,hr,_,_,_⟩:=laid_sentinel (g:=3) (ti:=44) (te:=188) (ts:=9) h5 (by kernel_rfl) (by kernel_rfl) Tryz.underlying44 giw_row Tryz.underlying186 Tryz.underlying188 rfl rfl Tryz.underlying9 (by kernel_rfl) (by kernel_rfl);obtain⟨b,s',hs,_,_,_⟩:=laid_sentinel (g:=2) (ti:=44) (te:=188) (ts:=9) h6 (by kernel_rfl) (by kernel_rfl) Tryz.underlying44 giw_row Tryz.underlying186 Tryz.underlying188 rfl rfl Tryz.underlying9 (by kernel_rfl) (by kernel_rfl);have hall:((List.range Tryz.prog.globals.size).all fun i=>match Tryz.prog.globals[i]? with|some g=>Tryz.prog.globalNamed g.name==some i|none=>true)=true:=by kernel_rfl
 have hu:∀(b:Nat) (g:Global),Tryz.prog.globals[b]?=some g→Tryz.prog.globalNamed g.name=some b:=fun b g hg=>by
  have:=List.all_eq_true.1 hall b (List.mem_range.2 (Array.getElem?_eq_some_iff.1 hg).1);rw [hg]at this;simpa using this
 exact GIW.ofLaid (last:= "math/bits.deBruijn64tab") (b:=7) (by kernel_rfl) (by kernel_rfl) t64 t10 hs hr hu
end Go.Proofs.YtejkiefdjcfapaaGreatDoor
