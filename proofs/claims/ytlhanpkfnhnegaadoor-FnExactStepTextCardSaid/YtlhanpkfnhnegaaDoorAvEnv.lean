/- The types of this seat, for abstract values. Printed by gen_env.py. -/
import Derived.Test.YtlhanpkfnhnegaaDoorAvK
import Derived.Test.YtlhanpkfnhnegaaDoorText1
import Derived.Test.YtlhanpkfnhnegaaDoorRows
set_option linter.unusedVariables false
set_option linter.unusedSimpArgs false
set_option maxRecDepth 100000
namespace Go.Proofs.YtlhanpkfnhnegaaDoor
open Go.RowKit
def ti2 : TI := ⟨1, 8, false, (.int .i64), (.int .i64 0)⟩
theorem ty2 : TyFact Tryd.prog 2 ti2 := ⟨Tryd.sizeOf2, Tryd.isAgg2, by rw [Tryd.underlying2]; rfl, by kernel_rfl, rfl⟩
def ti3 : TI := ⟨1, 8, false, (.int .i64), (.int .i64 0)⟩
theorem ty3 : TyFact Tryd.prog 3 ti3 := ⟨Tryd.sizeOf3, Tryd.isAgg3, by rw [Tryd.underlying3]; rfl, by kernel_rfl, rfl⟩
def ti4 : TI := ⟨1, 1, false, .bool, (.bool false)⟩
theorem ty4 : TyFact Tryd.prog 4 ti4 := ⟨Tryd.sizeOf4, Tryd.isAgg4, by rw [Tryd.underlying4]; rfl, by kernel_rfl, rfl⟩
def ti5 : TI := ⟨1, 1, false, (.int .u8), (.int .u8 0)⟩
theorem ty5 : TyFact Tryd.prog 5 ti5 := ⟨Tryd.sizeOf5, Tryd.isAgg5, by rw [Tryd.underlying5]; rfl, by kernel_rfl, rfl⟩
def ti9 : TI := ⟨1, 16, false, .str, (.string ⟨#[]⟩)⟩
theorem ty9 : TyFact Tryd.prog 9 ti9 := ⟨Tryd.sizeOf9, Tryd.isAgg9, by rw [Tryd.underlying9]; rfl, by kernel_rfl, rfl⟩
def ti12 : TI := ⟨1, 8, false, (.int .u64), (.int .u64 0)⟩
theorem ty12 : TyFact Tryd.prog 12 ti12 := ⟨Tryd.sizeOf12, Tryd.isAgg12, by rw [Tryd.underlying12]; rfl, by kernel_rfl, rfl⟩
def ti13 : TI := ⟨2, 24, true, (.st [(0, 9), (1, 12)]), (.agg #[(.string ⟨#[]⟩), (.int .u64 0)])⟩
theorem ty13 : TyFact Tryd.prog 13 ti13 := ⟨Tryd.sizeOf13, Tryd.isAgg13, by rw [Tryd.underlying13]; rfl, by kernel_rfl, rfl⟩
def ti21 : TI := ⟨1, 4, false, (.int .i32), (.int .i32 0)⟩
theorem ty21 : TyFact Tryd.prog 21 ti21 := ⟨Tryd.sizeOf21, Tryd.isAgg21, by rw [Tryd.underlying21]; rfl, by kernel_rfl, rfl⟩
def ti22 : TI := ⟨5, 40, true, (.st [(0, 2), (1, 2), (2, 2), (3, 2), (4, 2)]), (.agg #[(.int .i64 0), (.int .i64 0), (.int .i64 0), (.int .i64 0), (.int .i64 0)])⟩
theorem ty22 : TyFact Tryd.prog 22 ti22 := ⟨Tryd.sizeOf22, Tryd.isAgg22, by rw [Tryd.underlying22]; rfl, by kernel_rfl, rfl⟩
def ti23 : TI := ⟨5, 40, true, (.st [(0, 2), (1, 2), (2, 2), (3, 2), (4, 2)]), (.agg #[(.int .i64 0), (.int .i64 0), (.int .i64 0), (.int .i64 0), (.int .i64 0)])⟩
theorem ty23 : TyFact Tryd.prog 23 ti23 := ⟨Tryd.sizeOf23, Tryd.isAgg23, by rw [Tryd.underlying23]; rfl, by kernel_rfl, rfl⟩
def ti25 : TI := ⟨5, 40, true, (.st [(0, 2), (1, 2), (2, 2), (3, 2), (4, 2)]), (.agg #[(.int .i64 0), (.int .i64 0), (.int .i64 0), (.int .i64 0), (.int .i64 0)])⟩
theorem ty25 : TyFact Tryd.prog 25 ti25 := ⟨Tryd.sizeOf25, Tryd.isAgg25, by rw [Tryd.underlying25]; rfl, by kernel_rfl, rfl⟩
def ti28 : TI := ⟨9, 72, true, (.st [(0, 2), (1, 2), (2, 2), (3, 2), (4, 23)]), (.agg #[(.int .i64 0), (.int .i64 0), (.int .i64 0), (.int .i64 0), (.int .i64 0), (.int .i64 0), (.int .i64 0), (.int .i64 0), (.int .i64 0)])⟩
theorem ty28 : TyFact Tryd.prog 28 ti28 := ⟨Tryd.sizeOf28, Tryd.isAgg28, by rw [Tryd.underlying28]; rfl, by kernel_rfl, rfl⟩
def ti29 : TI := ⟨9, 72, true, (.st [(0, 2), (1, 2), (2, 2), (3, 2), (4, 23)]), (.agg #[(.int .i64 0), (.int .i64 0), (.int .i64 0), (.int .i64 0), (.int .i64 0), (.int .i64 0), (.int .i64 0), (.int .i64 0), (.int .i64 0)])⟩
theorem ty29 : TyFact Tryd.prog 29 ti29 := ⟨Tryd.sizeOf29, Tryd.isAgg29, by rw [Tryd.underlying29]; rfl, by kernel_rfl, rfl⟩
def ti31 : TI := ⟨9, 72, true, (.st [(0, 2), (1, 2), (2, 2), (3, 2), (4, 25)]), (.agg #[(.int .i64 0), (.int .i64 0), (.int .i64 0), (.int .i64 0), (.int .i64 0), (.int .i64 0), (.int .i64 0), (.int .i64 0), (.int .i64 0)])⟩
theorem ty31 : TyFact Tryd.prog 31 ti31 := ⟨Tryd.sizeOf31, Tryd.isAgg31, by rw [Tryd.underlying31]; rfl, by kernel_rfl, rfl⟩
def ti32 : TI := ⟨9, 72, true, (.st [(0, 2), (1, 2), (2, 2), (3, 2), (4, 25)]), (.agg #[(.int .i64 0), (.int .i64 0), (.int .i64 0), (.int .i64 0), (.int .i64 0), (.int .i64 0), (.int .i64 0), (.int .i64 0), (.int .i64 0)])⟩
theorem ty32 : TyFact Tryd.prog 32 ti32 := ⟨Tryd.sizeOf32, Tryd.isAgg32, by rw [Tryd.underlying32]; rfl, by kernel_rfl, rfl⟩
def ti35 : TI := ⟨7, 56, true, (.st [(0, 2), (1, 23), (6, 2)]), (.agg #[(.int .i64 0), (.int .i64 0), (.int .i64 0), (.int .i64 0), (.int .i64 0), (.int .i64 0), (.int .i64 0)])⟩
theorem ty35 : TyFact Tryd.prog 35 ti35 := ⟨Tryd.sizeOf35, Tryd.isAgg35, by rw [Tryd.underlying35]; rfl, by kernel_rfl, rfl⟩
def ti36 : TI := ⟨7, 56, true, (.st [(0, 2), (1, 23), (6, 2)]), (.agg #[(.int .i64 0), (.int .i64 0), (.int .i64 0), (.int .i64 0), (.int .i64 0), (.int .i64 0), (.int .i64 0)])⟩
theorem ty36 : TyFact Tryd.prog 36 ti36 := ⟨Tryd.sizeOf36, Tryd.isAgg36, by rw [Tryd.underlying36]; rfl, by kernel_rfl, rfl⟩
def ti38 : TI := ⟨7, 56, true, (.st [(0, 2), (1, 25), (6, 2)]), (.agg #[(.int .i64 0), (.int .i64 0), (.int .i64 0), (.int .i64 0), (.int .i64 0), (.int .i64 0), (.int .i64 0)])⟩
theorem ty38 : TyFact Tryd.prog 38 ti38 := ⟨Tryd.sizeOf38, Tryd.isAgg38, by rw [Tryd.underlying38]; rfl, by kernel_rfl, rfl⟩
def ti39 : TI := ⟨7, 56, true, (.st [(0, 2), (1, 25), (6, 2)]), (.agg #[(.int .i64 0), (.int .i64 0), (.int .i64 0), (.int .i64 0), (.int .i64 0), (.int .i64 0), (.int .i64 0)])⟩
theorem ty39 : TyFact Tryd.prog 39 ti39 := ⟨Tryd.sizeOf39, Tryd.isAgg39, by rw [Tryd.underlying39]; rfl, by kernel_rfl, rfl⟩
def ti42 : TI := ⟨1, 24, false, (.sl 2), (.slice none 0 0)⟩
theorem ty42 : TyFact Tryd.prog 42 ti42 := ⟨Tryd.sizeOf42, Tryd.isAgg42, by rw [Tryd.underlying42]; rfl, by kernel_rfl, rfl⟩
def ti43 : TI := ⟨5, 56, true, (.st [(0, 2), (1, 2), (2, 2), (3, 2), (4, 42)]), (.agg #[(.int .i64 0), (.int .i64 0), (.int .i64 0), (.int .i64 0), (.slice none 0 0)])⟩
theorem ty43 : TyFact Tryd.prog 43 ti43 := ⟨Tryd.sizeOf43, Tryd.isAgg43, by rw [Tryd.underlying43]; rfl, by kernel_rfl, rfl⟩
def ti44 : TI := ⟨5, 56, true, (.st [(0, 2), (1, 2), (2, 2), (3, 2), (4, 42)]), (.agg #[(.int .i64 0), (.int .i64 0), (.int .i64 0), (.int .i64 0), (.slice none 0 0)])⟩
theorem ty44 : TyFact Tryd.prog 44 ti44 := ⟨Tryd.sizeOf44, Tryd.isAgg44, by rw [Tryd.underlying44]; rfl, by kernel_rfl, rfl⟩
def ti47 : TI := ⟨5, 56, true, (.st [(0, 2), (1, 2), (2, 2), (3, 2), (4, 42)]), (.agg #[(.int .i64 0), (.int .i64 0), (.int .i64 0), (.int .i64 0), (.slice none 0 0)])⟩
theorem ty47 : TyFact Tryd.prog 47 ti47 := ⟨Tryd.sizeOf47, Tryd.isAgg47, by rw [Tryd.underlying47]; rfl, by kernel_rfl, rfl⟩
def ti51 : TI := ⟨1, 24, false, (.sl 44), (.slice none 0 0)⟩
theorem ty51 : TyFact Tryd.prog 51 ti51 := ⟨Tryd.sizeOf51, Tryd.isAgg51, by rw [Tryd.underlying51]; rfl, by kernel_rfl, rfl⟩
def ti54 : TI := ⟨1, 24, false, (.sl 47), (.slice none 0 0)⟩
theorem ty54 : TyFact Tryd.prog 54 ti54 := ⟨Tryd.sizeOf54, Tryd.isAgg54, by rw [Tryd.underlying54]; rfl, by kernel_rfl, rfl⟩
def ti62 : TI := ⟨1, 24, false, (.sl 42), (.slice none 0 0)⟩
theorem ty62 : TyFact Tryd.prog 62 ti62 := ⟨Tryd.sizeOf62, Tryd.isAgg62, by rw [Tryd.underlying62]; rfl, by kernel_rfl, rfl⟩
def ti76 : TI := ⟨1, 24, false, (.sl 5), (.slice none 0 0)⟩
theorem ty76 : TyFact Tryd.prog 76 ti76 := ⟨Tryd.sizeOf76, Tryd.isAgg76, by rw [Tryd.underlying76]; rfl, by kernel_rfl, rfl⟩
def ti80 : TI := ⟨1, 8, false, (.int .u64), (.int .u64 0)⟩
theorem ty80 : TyFact Tryd.prog 80 ti80 := ⟨Tryd.sizeOf80, Tryd.isAgg80, by rw [Tryd.underlying80]; rfl, by kernel_rfl, rfl⟩
def ti83 : TI := ⟨1, 24, false, (.sl 39), (.slice none 0 0)⟩
theorem ty83 : TyFact Tryd.prog 83 ti83 := ⟨Tryd.sizeOf83, Tryd.isAgg83, by rw [Tryd.underlying83]; rfl, by kernel_rfl, rfl⟩
def ti85 : TI := ⟨1, 24, false, (.sl 32), (.slice none 0 0)⟩
theorem ty85 : TyFact Tryd.prog 85 ti85 := ⟨Tryd.sizeOf85, Tryd.isAgg85, by rw [Tryd.underlying85]; rfl, by kernel_rfl, rfl⟩
def ti93 : TI := ⟨1, 24, false, (.sl 9), (.slice none 0 0)⟩
theorem ty93 : TyFact Tryd.prog 93 ti93 := ⟨Tryd.sizeOf93, Tryd.isAgg93, by rw [Tryd.underlying93]; rfl, by kernel_rfl, rfl⟩
def ti107 : TI := ⟨2, 32, true, (.st [(0, 106), (1, 76)]), (.agg #[(.pointer none), (.slice none 0 0)])⟩
theorem ty107 : TyFact Tryd.prog 107 ti107 := ⟨Tryd.sizeOf107, Tryd.isAgg107, by rw [Tryd.underlying107]; rfl, by kernel_rfl, rfl⟩
def ti108 : TI := ⟨2, 32, true, (.st [(0, 106), (1, 76)]), (.agg #[(.pointer none), (.slice none 0 0)])⟩
theorem ty108 : TyFact Tryd.prog 108 ti108 := ⟨Tryd.sizeOf108, Tryd.isAgg108, by rw [Tryd.underlying108]; rfl, by kernel_rfl, rfl⟩
def ti117 : TI := ⟨4, 32, true, (.st [(0, 9), (1, 4), (2, 4), (3, 3)]), (.agg #[(.string ⟨#[]⟩), (.bool false), (.bool false), (.int .i64 0)])⟩
theorem ty117 : TyFact Tryd.prog 117 ti117 := ⟨Tryd.sizeOf117, Tryd.isAgg117, by rw [Tryd.underlying117]; rfl, by kernel_rfl, rfl⟩
def ti118 : TI := ⟨4, 32, true, (.st [(0, 9), (1, 4), (2, 4), (3, 3)]), (.agg #[(.string ⟨#[]⟩), (.bool false), (.bool false), (.int .i64 0)])⟩
theorem ty118 : TyFact Tryd.prog 118 ti118 := ⟨Tryd.sizeOf118, Tryd.isAgg118, by rw [Tryd.underlying118]; rfl, by kernel_rfl, rfl⟩
def ti123 : TI := ⟨1, 24, false, (.sl 3), (.slice none 0 0)⟩
theorem ty123 : TyFact Tryd.prog 123 ti123 := ⟨Tryd.sizeOf123, Tryd.isAgg123, by rw [Tryd.underlying123]; rfl, by kernel_rfl, rfl⟩
def ti132 : TI := ⟨3, 40, true, (.st [(0, 76), (1, 3), (2, 80)]), (.agg #[(.slice none 0 0), (.int .i64 0), (.int .u64 0)])⟩
theorem ty132 : TyFact Tryd.prog 132 ti132 := ⟨Tryd.sizeOf132, Tryd.isAgg132, by rw [Tryd.underlying132]; rfl, by kernel_rfl, rfl⟩
def ti133 : TI := ⟨3, 40, true, (.st [(0, 76), (1, 3), (2, 80)]), (.agg #[(.slice none 0 0), (.int .i64 0), (.int .u64 0)])⟩
theorem ty133 : TyFact Tryd.prog 133 ti133 := ⟨Tryd.sizeOf133, Tryd.isAgg133, by rw [Tryd.underlying133]; rfl, by kernel_rfl, rfl⟩
def ti134 : TI := ⟨1, 8, false, (.int .u64), (.int .u64 0)⟩
theorem ty134 : TyFact Tryd.prog 134 ti134 := ⟨Tryd.sizeOf134, Tryd.isAgg134, by rw [Tryd.underlying134]; rfl, by kernel_rfl, rfl⟩
def ti157 : TI := ⟨24, 24, true, (.arr 24 5), (.agg #[(.int .u8 0), (.int .u8 0), (.int .u8 0), (.int .u8 0), (.int .u8 0), (.int .u8 0), (.int .u8 0), (.int .u8 0), (.int .u8 0), (.int .u8 0), (.int .u8 0), (.int .u8 0), (.int .u8 0), (.int .u8 0), (.int .u8 0), (.int .u8 0), (.int .u8 0), (.int .u8 0), (.int .u8 0), (.int .u8 0), (.int .u8 0), (.int .u8 0), (.int .u8 0), (.int .u8 0)])⟩
theorem ty157 : TyFact Tryd.prog 157 ti157 := ⟨Tryd.sizeOf157, Tryd.isAgg157, by rw [Tryd.underlying157]; rfl, by kernel_rfl, rfl⟩
def ti174 : TI := ⟨20, 160, true, (.arr 20 80), (.agg #[(.int .u64 0), (.int .u64 0), (.int .u64 0), (.int .u64 0), (.int .u64 0), (.int .u64 0), (.int .u64 0), (.int .u64 0), (.int .u64 0), (.int .u64 0), (.int .u64 0), (.int .u64 0), (.int .u64 0), (.int .u64 0), (.int .u64 0), (.int .u64 0), (.int .u64 0), (.int .u64 0), (.int .u64 0), (.int .u64 0)])⟩
theorem ty174 : TyFact Tryd.prog 174 ti174 := ⟨Tryd.sizeOf174, Tryd.isAgg174, by rw [Tryd.underlying174]; rfl, by kernel_rfl, rfl⟩
def ti175 : TI := ⟨1, 4, false, (.int .u32), (.int .u32 0)⟩
theorem ty175 : TyFact Tryd.prog 175 ti175 := ⟨Tryd.sizeOf175, Tryd.isAgg175, by rw [Tryd.underlying175]; rfl, by kernel_rfl, rfl⟩
def ti176 : TI := ⟨65, 65, true, (.arr 65 5), (.agg #[(.int .u8 0), (.int .u8 0), (.int .u8 0), (.int .u8 0), (.int .u8 0), (.int .u8 0), (.int .u8 0), (.int .u8 0), (.int .u8 0), (.int .u8 0), (.int .u8 0), (.int .u8 0), (.int .u8 0), (.int .u8 0), (.int .u8 0), (.int .u8 0), (.int .u8 0), (.int .u8 0), (.int .u8 0), (.int .u8 0), (.int .u8 0), (.int .u8 0), (.int .u8 0), (.int .u8 0), (.int .u8 0), (.int .u8 0), (.int .u8 0), (.int .u8 0), (.int .u8 0), (.int .u8 0), (.int .u8 0), (.int .u8 0), (.int .u8 0), (.int .u8 0), (.int .u8 0), (.int .u8 0), (.int .u8 0), (.int .u8 0), (.int .u8 0), (.int .u8 0), (.int .u8 0), (.int .u8 0), (.int .u8 0), (.int .u8 0), (.int .u8 0), (.int .u8 0), (.int .u8 0), (.int .u8 0), (.int .u8 0), (.int .u8 0), (.int .u8 0), (.int .u8 0), (.int .u8 0), (.int .u8 0), (.int .u8 0), (.int .u8 0), (.int .u8 0), (.int .u8 0), (.int .u8 0), (.int .u8 0), (.int .u8 0), (.int .u8 0), (.int .u8 0), (.int .u8 0), (.int .u8 0)])⟩
theorem ty176 : TyFact Tryd.prog 176 ti176 := ⟨Tryd.sizeOf176, Tryd.isAgg176, by rw [Tryd.underlying176]; rfl, by kernel_rfl, rfl⟩
def ti181 : TI := ⟨3, 48, true, (.st [(0, 9), (1, 9), (2, 110)]), (.agg #[(.string ⟨#[]⟩), (.string ⟨#[]⟩), .nilIface])⟩
theorem ty181 : TyFact Tryd.prog 181 ti181 := ⟨Tryd.sizeOf181, Tryd.isAgg181, by rw [Tryd.underlying181]; rfl, by kernel_rfl, rfl⟩
def ti187 : TI := ⟨256, 256, true, (.arr 256 5), (.agg #[(.int .u8 0), (.int .u8 0), (.int .u8 0), (.int .u8 0), (.int .u8 0), (.int .u8 0), (.int .u8 0), (.int .u8 0), (.int .u8 0), (.int .u8 0), (.int .u8 0), (.int .u8 0), (.int .u8 0), (.int .u8 0), (.int .u8 0), (.int .u8 0), (.int .u8 0), (.int .u8 0), (.int .u8 0), (.int .u8 0), (.int .u8 0), (.int .u8 0), (.int .u8 0), (.int .u8 0), (.int .u8 0), (.int .u8 0), (.int .u8 0), (.int .u8 0), (.int .u8 0), (.int .u8 0), (.int .u8 0), (.int .u8 0), (.int .u8 0), (.int .u8 0), (.int .u8 0), (.int .u8 0), (.int .u8 0), (.int .u8 0), (.int .u8 0), (.int .u8 0), (.int .u8 0), (.int .u8 0), (.int .u8 0), (.int .u8 0), (.int .u8 0), (.int .u8 0), (.int .u8 0), (.int .u8 0), (.int .u8 0), (.int .u8 0), (.int .u8 0), (.int .u8 0), (.int .u8 0), (.int .u8 0), (.int .u8 0), (.int .u8 0), (.int .u8 0), (.int .u8 0), (.int .u8 0), (.int .u8 0), (.int .u8 0), (.int .u8 0), (.int .u8 0), (.int .u8 0), (.int .u8 0), (.int .u8 0), (.int .u8 0), (.int .u8 0), (.int .u8 0), (.int .u8 0), (.int .u8 0), (.int .u8 0), (.int .u8 0), (.int .u8 0), (.int .u8 0), (.int .u8 0), (.int .u8 0), (.int .u8 0), (.int .u8 0), (.int .u8 0), (.int .u8 0), (.int .u8 0), (.int .u8 0), (.int .u8 0), (.int .u8 0), (.int .u8 0), (.int .u8 0), (.int .u8 0), (.int .u8 0), (.int .u8 0), (.int .u8 0), (.int .u8 0), (.int .u8 0), (.int .u8 0), (.int .u8 0), (.int .u8 0), (.int .u8 0), (.int .u8 0), (.int .u8 0), (.int .u8 0), (.int .u8 0), (.int .u8 0), (.int .u8 0), (.int .u8 0), (.int .u8 0), (.int .u8 0), (.int .u8 0), (.int .u8 0), (.int .u8 0), (.int .u8 0), (.int .u8 0), (.int .u8 0), (.int .u8 0), (.int .u8 0), (.int .u8 0), (.int .u8 0), (.int .u8 0), (.int .u8 0), (.int .u8 0), (.int .u8 0), (.int .u8 0), (.int .u8 0), (.int .u8 0), (.int .u8 0), (.int .u8 0), (.int .u8 0), (.int .u8 0), (.int .u8 0), (.int .u8 0), (.int .u8 0), (.int .u8 0), (.int .u8 0), (.int .u8 0), (.int .u8 0), (.int .u8 0), (.int .u8 0), (.int .u8 0), (.int .u8 0), (.int .u8 0), (.int .u8 0), (.int .u8 0), (.int .u8 0), (.int .u8 0), (.int .u8 0), (.int .u8 0), (.int .u8 0), (.int .u8 0), (.int .u8 0), (.int .u8 0), (.int .u8 0), (.int .u8 0), (.int .u8 0), (.int .u8 0), (.int .u8 0), (.int .u8 0), (.int .u8 0), (.int .u8 0), (.int .u8 0), (.int .u8 0), (.int .u8 0), (.int .u8 0), (.int .u8 0), (.int .u8 0), (.int .u8 0), (.int .u8 0), (.int .u8 0), (.int .u8 0), (.int .u8 0), (.int .u8 0), (.int .u8 0), (.int .u8 0), (.int .u8 0), (.int .u8 0), (.int .u8 0), (.int .u8 0), (.int .u8 0), (.int .u8 0), (.int .u8 0), (.int .u8 0), (.int .u8 0), (.int .u8 0), (.int .u8 0), (.int .u8 0), (.int .u8 0), (.int .u8 0), (.int .u8 0), (.int .u8 0), (.int .u8 0), (.int .u8 0), (.int .u8 0), (.int .u8 0), (.int .u8 0), (.int .u8 0), (.int .u8 0), (.int .u8 0), (.int .u8 0), (.int .u8 0), (.int .u8 0), (.int .u8 0), (.int .u8 0), (.int .u8 0), (.int .u8 0), (.int .u8 0), (.int .u8 0), (.int .u8 0), (.int .u8 0), (.int .u8 0), (.int .u8 0), (.int .u8 0), (.int .u8 0), (.int .u8 0), (.int .u8 0), (.int .u8 0), (.int .u8 0), (.int .u8 0), (.int .u8 0), (.int .u8 0), (.int .u8 0), (.int .u8 0), (.int .u8 0), (.int .u8 0), (.int .u8 0), (.int .u8 0), (.int .u8 0), (.int .u8 0), (.int .u8 0), (.int .u8 0), (.int .u8 0), (.int .u8 0), (.int .u8 0), (.int .u8 0), (.int .u8 0), (.int .u8 0), (.int .u8 0), (.int .u8 0), (.int .u8 0), (.int .u8 0), (.int .u8 0), (.int .u8 0), (.int .u8 0), (.int .u8 0), (.int .u8 0), (.int .u8 0), (.int .u8 0), (.int .u8 0), (.int .u8 0), (.int .u8 0), (.int .u8 0), (.int .u8 0), (.int .u8 0), (.int .u8 0), (.int .u8 0), (.int .u8 0), (.int .u8 0), (.int .u8 0), (.int .u8 0)])⟩
theorem ty187 : TyFact Tryd.prog 187 ti187 := ⟨Tryd.sizeOf187, Tryd.isAgg187, by rw [Tryd.underlying187]; rfl, by kernel_rfl, rfl⟩
def ti188 : TI := ⟨2, 2, true, (.st [(0, 5), (1, 5)]), (.agg #[(.int .u8 0), (.int .u8 0)])⟩
theorem ty188 : TyFact Tryd.prog 188 ti188 := ⟨Tryd.sizeOf188, Tryd.isAgg188, by rw [Tryd.underlying188]; rfl, by kernel_rfl, rfl⟩
def ti190 : TI := ⟨32, 32, true, (.arr 16 189), (.agg #[(.int .u8 0), (.int .u8 0), (.int .u8 0), (.int .u8 0), (.int .u8 0), (.int .u8 0), (.int .u8 0), (.int .u8 0), (.int .u8 0), (.int .u8 0), (.int .u8 0), (.int .u8 0), (.int .u8 0), (.int .u8 0), (.int .u8 0), (.int .u8 0), (.int .u8 0), (.int .u8 0), (.int .u8 0), (.int .u8 0), (.int .u8 0), (.int .u8 0), (.int .u8 0), (.int .u8 0), (.int .u8 0), (.int .u8 0), (.int .u8 0), (.int .u8 0), (.int .u8 0), (.int .u8 0), (.int .u8 0), (.int .u8 0)])⟩
theorem ty190 : TyFact Tryd.prog 190 ti190 := ⟨Tryd.sizeOf190, Tryd.isAgg190, by rw [Tryd.underlying190]; rfl, by kernel_rfl, rfl⟩
def ti192 : TI := ⟨1, 16, true, (.st [(0, 9)]), (.agg #[(.string ⟨#[]⟩)])⟩
theorem ty192 : TyFact Tryd.prog 192 ti192 := ⟨Tryd.sizeOf192, Tryd.isAgg192, by rw [Tryd.underlying192]; rfl, by kernel_rfl, rfl⟩
def ti194 : TI := ⟨32, 32, true, (.arr 32 5), (.agg #[(.int .u8 0), (.int .u8 0), (.int .u8 0), (.int .u8 0), (.int .u8 0), (.int .u8 0), (.int .u8 0), (.int .u8 0), (.int .u8 0), (.int .u8 0), (.int .u8 0), (.int .u8 0), (.int .u8 0), (.int .u8 0), (.int .u8 0), (.int .u8 0), (.int .u8 0), (.int .u8 0), (.int .u8 0), (.int .u8 0), (.int .u8 0), (.int .u8 0), (.int .u8 0), (.int .u8 0), (.int .u8 0), (.int .u8 0), (.int .u8 0), (.int .u8 0), (.int .u8 0), (.int .u8 0), (.int .u8 0), (.int .u8 0)])⟩
theorem ty194 : TyFact Tryd.prog 194 ti194 := ⟨Tryd.sizeOf194, Tryd.isAgg194, by rw [Tryd.underlying194]; rfl, by kernel_rfl, rfl⟩
def ti195 : TI := ⟨64, 64, true, (.arr 64 5), (.agg #[(.int .u8 0), (.int .u8 0), (.int .u8 0), (.int .u8 0), (.int .u8 0), (.int .u8 0), (.int .u8 0), (.int .u8 0), (.int .u8 0), (.int .u8 0), (.int .u8 0), (.int .u8 0), (.int .u8 0), (.int .u8 0), (.int .u8 0), (.int .u8 0), (.int .u8 0), (.int .u8 0), (.int .u8 0), (.int .u8 0), (.int .u8 0), (.int .u8 0), (.int .u8 0), (.int .u8 0), (.int .u8 0), (.int .u8 0), (.int .u8 0), (.int .u8 0), (.int .u8 0), (.int .u8 0), (.int .u8 0), (.int .u8 0), (.int .u8 0), (.int .u8 0), (.int .u8 0), (.int .u8 0), (.int .u8 0), (.int .u8 0), (.int .u8 0), (.int .u8 0), (.int .u8 0), (.int .u8 0), (.int .u8 0), (.int .u8 0), (.int .u8 0), (.int .u8 0), (.int .u8 0), (.int .u8 0), (.int .u8 0), (.int .u8 0), (.int .u8 0), (.int .u8 0), (.int .u8 0), (.int .u8 0), (.int .u8 0), (.int .u8 0), (.int .u8 0), (.int .u8 0), (.int .u8 0), (.int .u8 0), (.int .u8 0), (.int .u8 0), (.int .u8 0), (.int .u8 0)])⟩
theorem ty195 : TyFact Tryd.prog 195 ti195 := ⟨Tryd.sizeOf195, Tryd.isAgg195, by rw [Tryd.underlying195]; rfl, by kernel_rfl, rfl⟩
def tys : TT := (.node 62 ti62 (.node 29 ti29 (.node 13 ti13 (.node 5 ti5 (.node 3 ti3 (.node 2 ti2 .leaf .leaf) (.node 4 ti4 .leaf .leaf)) (.node 12 ti12 (.node 9 ti9 .leaf .leaf) .leaf)) (.node 23 ti23 (.node 22 ti22 (.node 21 ti21 .leaf .leaf) .leaf) (.node 28 ti28 (.node 25 ti25 .leaf .leaf) .leaf))) (.node 42 ti42 (.node 36 ti36 (.node 32 ti32 (.node 31 ti31 .leaf .leaf) (.node 35 ti35 .leaf .leaf)) (.node 39 ti39 (.node 38 ti38 .leaf .leaf) .leaf)) (.node 47 ti47 (.node 44 ti44 (.node 43 ti43 .leaf .leaf) .leaf) (.node 54 ti54 (.node 51 ti51 .leaf .leaf) .leaf)))) (.node 134 ti134 (.node 108 ti108 (.node 85 ti85 (.node 80 ti80 (.node 76 ti76 .leaf .leaf) (.node 83 ti83 .leaf .leaf)) (.node 107 ti107 (.node 93 ti93 .leaf .leaf) .leaf)) (.node 123 ti123 (.node 118 ti118 (.node 117 ti117 .leaf .leaf) .leaf) (.node 133 ti133 (.node 132 ti132 .leaf .leaf) .leaf))) (.node 187 ti187 (.node 175 ti175 (.node 174 ti174 (.node 157 ti157 .leaf .leaf) .leaf) (.node 181 ti181 (.node 176 ti176 .leaf .leaf) .leaf)) (.node 192 ti192 (.node 190 ti190 (.node 188 ti188 .leaf .leaf) .leaf) (.node 195 ti195 (.node 194 ti194 .leaf .leaf) .leaf)))))
theorem tys_ok : tys.ok Tryd.prog := ⟨ty62, ⟨ty29, ⟨ty13, ⟨ty5, ⟨ty3, ⟨ty2, trivial, trivial⟩, ⟨ty4, trivial, trivial⟩⟩, ⟨ty12, ⟨ty9, trivial, trivial⟩, trivial⟩⟩, ⟨ty23, ⟨ty22, ⟨ty21, trivial, trivial⟩, trivial⟩, ⟨ty28, ⟨ty25, trivial, trivial⟩, trivial⟩⟩⟩, ⟨ty42, ⟨ty36, ⟨ty32, ⟨ty31, trivial, trivial⟩, ⟨ty35, trivial, trivial⟩⟩, ⟨ty39, ⟨ty38, trivial, trivial⟩, trivial⟩⟩, ⟨ty47, ⟨ty44, ⟨ty43, trivial, trivial⟩, trivial⟩, ⟨ty54, ⟨ty51, trivial, trivial⟩, trivial⟩⟩⟩⟩, ⟨ty134, ⟨ty108, ⟨ty85, ⟨ty80, ⟨ty76, trivial, trivial⟩, ⟨ty83, trivial, trivial⟩⟩, ⟨ty107, ⟨ty93, trivial, trivial⟩, trivial⟩⟩, ⟨ty123, ⟨ty118, ⟨ty117, trivial, trivial⟩, trivial⟩, ⟨ty133, ⟨ty132, trivial, trivial⟩, trivial⟩⟩⟩, ⟨ty187, ⟨ty175, ⟨ty174, ⟨ty157, trivial, trivial⟩, trivial⟩, ⟨ty181, ⟨ty176, trivial, trivial⟩, trivial⟩⟩, ⟨ty192, ⟨ty190, ⟨ty188, trivial, trivial⟩, trivial⟩, ⟨ty195, ⟨ty194, trivial, trivial⟩, trivial⟩⟩⟩⟩⟩
noncomputable def av : AEnv := ⟨Tryd.prog, tys, Tab⟩
theorem av_ok : av.Ok := ⟨tys_ok, by kernel_rfl, fun w w' h hb => Tab.below h hb⟩
end Go.Proofs.YtlhanpkfnhnegaaDoor
