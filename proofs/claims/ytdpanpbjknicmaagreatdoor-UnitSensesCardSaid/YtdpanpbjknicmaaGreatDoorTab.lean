/- The tables of the evaluator for this program: types, functions, functions of the library without a Go body; what the evaluator's answers say of it. -/
import Derived.Test.YtdpanpbjknicmaaGreatDoorEc
import Derived.Test.YtdpanpbjknicmaaGreatDoorChecked
namespace Go.Proofs.YtdpanpbjknicmaaGreatDoor
open Go Go.Eng Go.RowKit
set_option linter.unusedVariables false
set_option maxRecDepth 1000000
noncomputable def ti0 : TI := ⟨.tup, 1, 0, .undef, true, true, false⟩
noncomputable def ti1 : TI := ⟨.fn, 1, 8, .nilf, true, true, false⟩
noncomputable def ti2 : TI := ⟨(.int .i64), 1, 8, (.int .i64 (.c 0)), true, true, false⟩
noncomputable def ti3 : TI := ⟨(.int .i64), 1, 8, (.int .i64 (.c 0)), true, true, false⟩
noncomputable def ti4 : TI := ⟨.bool, 1, 1, (.bool (.c false)), true, true, false⟩
noncomputable def ti5 : TI := ⟨(.int .u8), 1, 1, (.int .u8 (.c 0)), true, true, false⟩
noncomputable def ti6 : TI := ⟨(.int .u8), 1, 1, (.int .u8 (.c 0)), true, true, false⟩
noncomputable def ti7 : TI := ⟨(.st [⟨2, 0, 1, false, false⟩, ⟨3, 1, 1, false, false⟩, ⟨4, 2, 1, false, false⟩, ⟨6, 3, 1, false, false⟩]), 4, 24, (.agg [(.int .i64 (.c 0)), (.int .i64 (.c 0)), (.bool (.c false)), (.int .u8 (.c 0))]), true, true, false⟩
noncomputable def ti8 : TI := ⟨(.st [⟨2, 0, 1, false, false⟩, ⟨3, 1, 1, false, false⟩, ⟨4, 2, 1, false, false⟩, ⟨6, 3, 1, false, false⟩]), 4, 24, (.agg [(.int .i64 (.c 0)), (.int .i64 (.c 0)), (.bool (.c false)), (.int .u8 (.c 0))]), true, true, false⟩
noncomputable def ti9 : TI := ⟨.str, 1, 16, (.str []), true, true, false⟩
noncomputable def ti10 : TI := ⟨.str, 1, 16, (.str []), true, true, false⟩
noncomputable def ti11 : TI := ⟨.str, 1, 16, (.str []), true, true, false⟩
noncomputable def ti12 : TI := ⟨(.int .u64), 1, 8, (.int .u64 (.c 0)), true, true, false⟩
noncomputable def ti13 : TI := ⟨(.st [⟨9, 0, 1, false, false⟩, ⟨12, 1, 1, false, false⟩]), 2, 24, (.agg [(.str []), (.int .u64 (.c 0))]), true, true, false⟩
noncomputable def ti14 : TI := ⟨(.st [⟨9, 0, 1, false, false⟩, ⟨12, 1, 1, false, false⟩]), 2, 24, (.agg [(.str []), (.int .u64 (.c 0))]), true, true, false⟩
noncomputable def ti15 : TI := ⟨(.ptr 436), 1, 8, .nilp, true, true, false⟩
noncomputable def ti16 : TI := ⟨(.ptr 439), 1, 8, .nilp, true, true, false⟩
noncomputable def ti17 : TI := ⟨(.ptr 447), 1, 8, .nilp, true, true, false⟩
noncomputable def ti18 : TI := ⟨(.st [⟨17, 0, 1, false, false⟩]), 1, 8, (.agg [.nilp]), true, true, false⟩
noncomputable def ti19 : TI := ⟨(.st [⟨17, 0, 1, false, false⟩]), 1, 8, (.agg [.nilp]), true, true, false⟩
noncomputable def ti20 : TI := ⟨.ifc, 1, 16, .nili, true, true, false⟩
noncomputable def ti21 : TI := ⟨(.int .i32), 1, 4, (.int .i32 (.c 0)), true, true, false⟩
noncomputable def ti22 : TI := ⟨.fn, 1, 8, .nilf, true, true, false⟩
noncomputable def ti23 : TI := ⟨(.ptr 131), 1, 8, .nilp, true, true, false⟩
noncomputable def ti24 : TI := ⟨(.arr 2 23), 2, 16, (.agg [.nilp, .nilp]), true, true, false⟩
noncomputable def ti25 : TI := ⟨.fn, 1, 8, .nilf, true, true, false⟩
noncomputable def ti26 : TI := ⟨(.ptr 110), 1, 8, .nilp, true, true, false⟩
noncomputable def ti27 : TI := ⟨.fn, 1, 8, .nilf, true, true, false⟩
noncomputable def ti28 : TI := ⟨(.int .u8), 1, 1, (.int .u8 (.c 0)), true, true, false⟩
noncomputable def ti29 : TI := ⟨(.int .u16), 1, 2, (.int .u16 (.c 0)), true, true, false⟩
noncomputable def ti30 : TI := ⟨(.int .u64), 1, 8, (.int .u64 (.c 0)), true, true, false⟩
noncomputable def ti31 : TI := ⟨(.st [⟨5, 0, 1, false, false⟩, ⟨29, 1, 1, false, false⟩, ⟨30, 2, 1, false, false⟩, ⟨4, 3, 1, false, false⟩, ⟨3, 4, 1, false, false⟩, ⟨3, 5, 1, false, false⟩, ⟨4, 6, 1, false, false⟩, ⟨4, 7, 1, false, false⟩]), 8, 48, (.agg [(.int .u8 (.c 0)), (.int .u16 (.c 0)), (.int .u64 (.c 0)), (.bool (.c false)), (.int .i64 (.c 0)), (.int .i64 (.c 0)), (.bool (.c false)), (.bool (.c false))]), true, true, false⟩
noncomputable def ti32 : TI := ⟨(.st [⟨5, 0, 1, false, false⟩, ⟨29, 1, 1, false, false⟩, ⟨30, 2, 1, false, false⟩, ⟨4, 3, 1, false, false⟩, ⟨3, 4, 1, false, false⟩, ⟨3, 5, 1, false, false⟩, ⟨4, 6, 1, false, false⟩, ⟨4, 7, 1, false, false⟩]), 8, 48, (.agg [(.int .u8 (.c 0)), (.int .u16 (.c 0)), (.int .u64 (.c 0)), (.bool (.c false)), (.int .i64 (.c 0)), (.int .i64 (.c 0)), (.bool (.c false)), (.bool (.c false))]), true, true, true⟩
noncomputable def ti33 : TI := ⟨(.sl 5), 1, 24, .snil, true, true, false⟩
noncomputable def ti34 : TI := ⟨(.st [⟨28, 0, 1, false, false⟩, ⟨32, 1, 8, true, false⟩, ⟨33, 9, 1, false, false⟩]), 10, 80, (.agg [(.int .u8 (.c 0)), (.int .u8 (.c 0)), (.int .u16 (.c 0)), (.int .u64 (.c 0)), (.bool (.c false)), (.int .i64 (.c 0)), (.int .i64 (.c 0)), (.bool (.c false)), (.bool (.c false)), .snil]), true, true, false⟩
noncomputable def ti35 : TI := ⟨(.st [⟨28, 0, 1, false, false⟩, ⟨32, 1, 8, true, false⟩, ⟨33, 9, 1, false, false⟩]), 10, 80, (.agg [(.int .u8 (.c 0)), (.int .u8 (.c 0)), (.int .u16 (.c 0)), (.int .u64 (.c 0)), (.bool (.c false)), (.int .i64 (.c 0)), (.int .i64 (.c 0)), (.bool (.c false)), (.bool (.c false)), .snil]), true, true, false⟩
noncomputable def ti36 : TI := ⟨.fn, 1, 8, .nilf, true, true, false⟩
noncomputable def ti37 : TI := ⟨.fn, 1, 8, .nilf, true, true, false⟩
noncomputable def ti38 : TI := ⟨.fn, 1, 8, .nilf, true, true, false⟩
noncomputable def ti39 : TI := ⟨.fn, 1, 8, .nilf, true, true, false⟩
noncomputable def ti40 : TI := ⟨.fn, 1, 8, .nilf, true, true, false⟩
noncomputable def ti41 : TI := ⟨.fn, 1, 8, .nilf, true, true, false⟩
noncomputable def ti42 : TI := ⟨.fn, 1, 8, .nilf, true, true, false⟩
noncomputable def ti43 : TI := ⟨(.sl 23), 1, 24, .snil, true, true, false⟩
noncomputable def ti45 : TI := ⟨.fn, 1, 8, .nilf, true, true, false⟩
noncomputable def ti46 : TI := ⟨.fn, 1, 8, .nilf, true, true, false⟩
noncomputable def ti47 : TI := ⟨(.ptr 65), 1, 8, .nilp, true, true, false⟩
noncomputable def ti48 : TI := ⟨(.arr 2 47), 2, 16, (.agg [.nilp, .nilp]), true, true, false⟩
noncomputable def ti49 : TI := ⟨.fn, 1, 8, .nilf, true, true, false⟩
noncomputable def ti50 : TI := ⟨(.ptr 150), 1, 8, .nilp, true, true, false⟩
noncomputable def ti51 : TI := ⟨.fn, 1, 8, .nilf, true, true, false⟩
noncomputable def ti52 : TI := ⟨(.arr 8 30), 8, 64, (.agg [(.int .u64 (.c 0)), (.int .u64 (.c 0)), (.int .u64 (.c 0)), (.int .u64 (.c 0)), (.int .u64 (.c 0)), (.int .u64 (.c 0)), (.int .u64 (.c 0)), (.int .u64 (.c 0))]), true, true, false⟩
noncomputable def ti53 : TI := ⟨(.int .u32), 1, 4, (.int .u32 (.c 0)), true, true, false⟩
noncomputable def ti54 : TI := ⟨(.st [⟨52, 0, 8, true, false⟩, ⟨3, 8, 1, false, false⟩, ⟨3, 9, 1, false, false⟩, ⟨53, 10, 1, false, false⟩, ⟨4, 11, 1, false, false⟩]), 12, 88, (.agg [(.int .u64 (.c 0)), (.int .u64 (.c 0)), (.int .u64 (.c 0)), (.int .u64 (.c 0)), (.int .u64 (.c 0)), (.int .u64 (.c 0)), (.int .u64 (.c 0)), (.int .u64 (.c 0)), (.int .i64 (.c 0)), (.int .i64 (.c 0)), (.int .u32 (.c 0)), (.bool (.c false))]), true, true, false⟩
noncomputable def ti55 : TI := ⟨(.st [⟨52, 0, 8, true, false⟩, ⟨3, 8, 1, false, false⟩, ⟨3, 9, 1, false, false⟩, ⟨53, 10, 1, false, false⟩, ⟨4, 11, 1, false, false⟩]), 12, 88, (.agg [(.int .u64 (.c 0)), (.int .u64 (.c 0)), (.int .u64 (.c 0)), (.int .u64 (.c 0)), (.int .u64 (.c 0)), (.int .u64 (.c 0)), (.int .u64 (.c 0)), (.int .u64 (.c 0)), (.int .i64 (.c 0)), (.int .i64 (.c 0)), (.int .u32 (.c 0)), (.bool (.c false))]), true, true, false⟩
noncomputable def ti56 : TI := ⟨(.st [⟨9, 0, 1, false, false⟩, ⟨9, 1, 1, false, false⟩, ⟨9, 2, 1, false, false⟩, ⟨9, 3, 1, false, false⟩, ⟨3, 4, 1, false, false⟩]), 5, 72, (.agg [(.str []), (.str []), (.str []), (.str []), (.int .i64 (.c 0))]), true, true, false⟩
noncomputable def ti57 : TI := ⟨(.st [⟨9, 0, 1, false, false⟩, ⟨9, 1, 1, false, false⟩, ⟨9, 2, 1, false, false⟩, ⟨9, 3, 1, false, false⟩, ⟨3, 4, 1, false, false⟩]), 5, 72, (.agg [(.str []), (.str []), (.str []), (.str []), (.int .i64 (.c 0))]), true, true, false⟩
noncomputable def ti58 : TI := ⟨(.ptr 218), 1, 8, .nilp, true, true, false⟩
noncomputable def ti59 : TI := ⟨(.ptr 220), 1, 8, .nilp, true, true, false⟩
noncomputable def ti60 : TI := ⟨(.ptr 154), 1, 8, .nilp, true, true, false⟩
noncomputable def ti61 : TI := ⟨(.ptr 55), 1, 8, .nilp, true, true, false⟩
noncomputable def ti62 : TI := ⟨(.ptr 222), 1, 8, .nilp, true, true, false⟩
noncomputable def ti63 : TI := ⟨(.sl 47), 1, 24, .snil, true, true, false⟩
noncomputable def ti64 : TI := ⟨(.st [⟨57, 0, 5, true, false⟩, ⟨58, 5, 1, false, false⟩, ⟨59, 6, 1, false, false⟩, ⟨60, 7, 1, false, false⟩, ⟨61, 8, 1, false, false⟩, ⟨62, 9, 1, false, false⟩, ⟨63, 10, 1, false, false⟩, ⟨4, 11, 1, false, false⟩, ⟨3, 12, 1, false, false⟩, ⟨3, 13, 1, false, false⟩]), 14, 160, (.agg [(.str []), (.str []), (.str []), (.str []), (.int .i64 (.c 0)), .nilp, .nilp, .nilp, .nilp, .nilp, .snil, (.bool (.c false)), (.int .i64 (.c 0)), (.int .i64 (.c 0))]), true, true, false⟩
noncomputable def ti65 : TI := ⟨(.st [⟨57, 0, 5, true, false⟩, ⟨58, 5, 1, false, false⟩, ⟨59, 6, 1, false, false⟩, ⟨60, 7, 1, false, false⟩, ⟨61, 8, 1, false, false⟩, ⟨62, 9, 1, false, false⟩, ⟨63, 10, 1, false, false⟩, ⟨4, 11, 1, false, false⟩, ⟨3, 12, 1, false, false⟩, ⟨3, 13, 1, false, false⟩]), 14, 160, (.agg [(.str []), (.str []), (.str []), (.str []), (.int .i64 (.c 0)), .nilp, .nilp, .nilp, .nilp, .nilp, .snil, (.bool (.c false)), (.int .i64 (.c 0)), (.int .i64 (.c 0))]), true, true, false⟩
noncomputable def ti66 : TI := ⟨.fn, 1, 8, .nilf, true, true, false⟩
noncomputable def ti67 : TI := ⟨(.sl 97), 1, 24, .snil, true, true, false⟩
noncomputable def ti69 : TI := ⟨.fn, 1, 8, .nilf, true, true, false⟩
noncomputable def ti70 : TI := ⟨.fn, 1, 8, .nilf, true, true, false⟩
noncomputable def ti71 : TI := ⟨(.sl 75), 1, 24, .snil, true, true, false⟩
noncomputable def ti72 : TI := ⟨.fn, 1, 8, .nilf, true, true, false⟩
noncomputable def ti73 : TI := ⟨(.sl 3), 1, 24, .snil, true, true, false⟩
noncomputable def ti74 : TI := ⟨(.st [⟨5, 0, 1, false, false⟩, ⟨4, 1, 1, false, false⟩, ⟨3, 2, 1, false, false⟩, ⟨33, 3, 1, false, false⟩, ⟨33, 4, 1, false, false⟩, ⟨3, 5, 1, false, false⟩, ⟨3, 6, 1, false, false⟩]), 7, 80, (.agg [(.int .u8 (.c 0)), (.bool (.c false)), (.int .i64 (.c 0)), .snil, .snil, (.int .i64 (.c 0)), (.int .i64 (.c 0))]), true, true, false⟩
noncomputable def ti75 : TI := ⟨(.st [⟨5, 0, 1, false, false⟩, ⟨4, 1, 1, false, false⟩, ⟨3, 2, 1, false, false⟩, ⟨33, 3, 1, false, false⟩, ⟨33, 4, 1, false, false⟩, ⟨3, 5, 1, false, false⟩, ⟨3, 6, 1, false, false⟩]), 7, 80, (.agg [(.int .u8 (.c 0)), (.bool (.c false)), (.int .i64 (.c 0)), .snil, .snil, (.int .i64 (.c 0)), (.int .i64 (.c 0))]), true, true, false⟩
noncomputable def ti76 : TI := ⟨.fn, 1, 8, .nilf, true, true, false⟩
noncomputable def ti77 : TI := ⟨(.int .i64), 1, 8, (.int .i64 (.c 0)), true, true, false⟩
noncomputable def ti78 : TI := ⟨.fn, 1, 8, .nilf, true, true, false⟩
noncomputable def ti79 : TI := ⟨.fn, 1, 8, .nilf, true, true, false⟩
noncomputable def ti80 : TI := ⟨(.st [⟨9, 0, 1, false, false⟩, ⟨9, 1, 1, false, false⟩, ⟨9, 2, 1, false, false⟩, ⟨9, 3, 1, false, false⟩, ⟨5, 4, 1, false, false⟩]), 5, 72, (.agg [(.str []), (.str []), (.str []), (.str []), (.int .u8 (.c 0))]), true, true, false⟩
noncomputable def ti81 : TI := ⟨(.st [⟨9, 0, 1, false, false⟩, ⟨9, 1, 1, false, false⟩, ⟨9, 2, 1, false, false⟩, ⟨9, 3, 1, false, false⟩, ⟨5, 4, 1, false, false⟩]), 5, 72, (.agg [(.str []), (.str []), (.str []), (.str []), (.int .u8 (.c 0))]), true, true, false⟩
noncomputable def ti83 : TI := ⟨.fn, 1, 8, .nilf, true, true, false⟩
noncomputable def ti84 : TI := ⟨(.st [⟨81, 0, 5, true, false⟩, ⟨3, 5, 1, false, false⟩]), 6, 80, (.agg [(.str []), (.str []), (.str []), (.str []), (.int .u8 (.c 0)), (.int .i64 (.c 0))]), true, true, false⟩
noncomputable def ti85 : TI := ⟨(.st [⟨81, 0, 5, true, false⟩, ⟨3, 5, 1, false, false⟩]), 6, 80, (.agg [(.str []), (.str []), (.str []), (.str []), (.int .u8 (.c 0)), (.int .i64 (.c 0))]), true, true, false⟩
noncomputable def ti86 : TI := ⟨.fn, 1, 8, .nilf, true, true, false⟩
noncomputable def ti87 : TI := ⟨(.int .u8), 1, 1, (.int .u8 (.c 0)), true, true, false⟩
noncomputable def ti88 : TI := ⟨.fn, 1, 8, .nilf, true, true, false⟩
noncomputable def ti89 : TI := ⟨(.int .u8), 1, 1, (.int .u8 (.c 0)), true, true, false⟩
noncomputable def ti90 : TI := ⟨.fn, 1, 8, .nilf, true, true, false⟩
noncomputable def ti91 : TI := ⟨.fn, 1, 8, .nilf, true, true, false⟩
noncomputable def ti92 : TI := ⟨.fn, 1, 8, .nilf, true, true, false⟩
noncomputable def ti93 : TI := ⟨.fn, 1, 8, .nilf, true, true, false⟩
noncomputable def ti94 : TI := ⟨(.arr 4 30), 4, 32, (.agg [(.int .u64 (.c 0)), (.int .u64 (.c 0)), (.int .u64 (.c 0)), (.int .u64 (.c 0))]), true, true, false⟩
noncomputable def ti95 : TI := ⟨.fn, 1, 8, .nilf, true, true, false⟩
noncomputable def ti96 : TI := ⟨(.st [⟨3, 0, 1, false, false⟩, ⟨30, 1, 1, false, false⟩]), 2, 16, (.agg [(.int .i64 (.c 0)), (.int .u64 (.c 0))]), true, true, false⟩
noncomputable def ti97 : TI := ⟨(.st [⟨3, 0, 1, false, false⟩, ⟨30, 1, 1, false, false⟩]), 2, 16, (.agg [(.int .i64 (.c 0)), (.int .u64 (.c 0))]), true, true, true⟩
noncomputable def ti98 : TI := ⟨.fn, 1, 8, .nilf, true, true, false⟩
noncomputable def ti100 : TI := ⟨.fn, 1, 8, .nilf, true, true, false⟩
noncomputable def ti102 : TI := ⟨.fn, 1, 8, .nilf, true, true, false⟩
noncomputable def ti103 : TI := ⟨.fn, 1, 8, .nilf, true, true, false⟩
noncomputable def ti104 : TI := ⟨(.sl 9), 1, 24, .snil, true, true, false⟩
noncomputable def ti105 : TI := ⟨.fn, 1, 8, .nilf, true, true, false⟩
noncomputable def ti106 : TI := ⟨(.map 9 33), 1, 8, .mapn, true, true, false⟩
noncomputable def ti107 : TI := ⟨(.sl 173), 1, 24, .snil, true, true, false⟩
noncomputable def ti108 : TI := ⟨(.map 3 4), 1, 8, .mapn, true, true, false⟩
noncomputable def ti109 : TI := ⟨(.st [⟨106, 0, 1, false, false⟩, ⟨106, 1, 1, false, false⟩, ⟨107, 2, 1, false, false⟩, ⟨3, 3, 1, false, false⟩, ⟨108, 4, 1, false, false⟩, ⟨3, 5, 1, false, false⟩, ⟨4, 6, 1, false, false⟩]), 7, 72, (.agg [.mapn, .mapn, .snil, (.int .i64 (.c 0)), .mapn, (.int .i64 (.c 0)), (.bool (.c false))]), true, true, false⟩
noncomputable def ti110 : TI := ⟨(.st [⟨106, 0, 1, false, false⟩, ⟨106, 1, 1, false, false⟩, ⟨107, 2, 1, false, false⟩, ⟨3, 3, 1, false, false⟩, ⟨108, 4, 1, false, false⟩, ⟨3, 5, 1, false, false⟩, ⟨4, 6, 1, false, false⟩]), 7, 72, (.agg [.mapn, .mapn, .snil, (.int .i64 (.c 0)), .mapn, (.int .i64 (.c 0)), (.bool (.c false))]), true, true, false⟩
noncomputable def ti111 : TI := ⟨(.ptr 166), 1, 8, .nilp, true, true, false⟩
noncomputable def ti112 : TI := ⟨(.ptr 247), 1, 8, .nilp, true, true, false⟩
noncomputable def ti113 : TI := ⟨(.ptr 205), 1, 8, .nilp, true, true, false⟩
noncomputable def ti114 : TI := ⟨(.ptr 201), 1, 8, .nilp, true, true, false⟩
noncomputable def ti115 : TI := ⟨(.ptr 199), 1, 8, .nilp, true, true, false⟩
noncomputable def ti116 : TI := ⟨(.st []), 0, 0, (.agg []), true, true, false⟩
noncomputable def ti117 : TI := ⟨(.st []), 0, 0, (.agg []), true, true, false⟩
noncomputable def ti118 : TI := ⟨(.st []), 0, 0, (.agg []), true, true, false⟩
noncomputable def ti119 : TI := ⟨(.st [⟨118, 0, 0, true, true⟩, ⟨53, 0, 1, false, false⟩]), 1, 4, (.agg [(.int .u32 (.c 0))]), true, true, false⟩
noncomputable def ti120 : TI := ⟨(.st [⟨118, 0, 0, true, true⟩, ⟨53, 0, 1, false, false⟩]), 1, 4, (.agg [(.int .u32 (.c 0))]), true, true, false⟩
noncomputable def ti121 : TI := ⟨(.st [⟨21, 0, 1, false, false⟩, ⟨53, 1, 1, false, false⟩]), 2, 8, (.agg [(.int .i32 (.c 0)), (.int .u32 (.c 0))]), true, true, false⟩
noncomputable def ti122 : TI := ⟨(.st [⟨21, 0, 1, false, false⟩, ⟨53, 1, 1, false, false⟩]), 2, 8, (.agg [(.int .i32 (.c 0)), (.int .u32 (.c 0))]), true, true, false⟩
noncomputable def ti123 : TI := ⟨(.st [⟨117, 0, 0, true, true⟩, ⟨122, 0, 2, true, false⟩]), 2, 8, (.agg [(.int .i32 (.c 0)), (.int .u32 (.c 0))]), true, true, false⟩
noncomputable def ti124 : TI := ⟨(.st [⟨117, 0, 0, true, true⟩, ⟨122, 0, 2, true, false⟩]), 2, 8, (.agg [(.int .i32 (.c 0)), (.int .u32 (.c 0))]), true, true, false⟩
noncomputable def ti125 : TI := ⟨(.st [⟨117, 0, 0, true, true⟩, ⟨120, 0, 1, true, false⟩, ⟨124, 1, 2, true, false⟩]), 3, 12, (.agg [(.int .u32 (.c 0)), (.int .i32 (.c 0)), (.int .u32 (.c 0))]), true, true, false⟩
noncomputable def ti126 : TI := ⟨(.st [⟨117, 0, 0, true, true⟩, ⟨120, 0, 1, true, false⟩, ⟨124, 1, 2, true, false⟩]), 3, 12, (.agg [(.int .u32 (.c 0)), (.int .i32 (.c 0)), (.int .u32 (.c 0))]), true, true, false⟩
noncomputable def ti127 : TI := ⟨(.st []), 0, 0, (.agg []), true, true, false⟩
noncomputable def ti128 : TI := ⟨(.st [⟨118, 0, 0, true, true⟩, ⟨127, 0, 0, true, true⟩, ⟨2, 0, 1, false, false⟩]), 1, 8, (.agg [(.int .i64 (.c 0))]), true, true, false⟩
noncomputable def ti129 : TI := ⟨(.st [⟨118, 0, 0, true, true⟩, ⟨127, 0, 0, true, true⟩, ⟨2, 0, 1, false, false⟩]), 1, 8, (.agg [(.int .i64 (.c 0))]), true, true, false⟩
noncomputable def ti130 : TI := ⟨(.st [⟨81, 0, 5, true, false⟩, ⟨111, 5, 1, false, false⟩, ⟨112, 6, 1, false, false⟩, ⟨113, 7, 1, false, false⟩, ⟨114, 8, 1, false, false⟩, ⟨115, 9, 1, false, false⟩, ⟨43, 10, 1, false, false⟩, ⟨126, 11, 3, true, false⟩, ⟨77, 14, 1, false, false⟩, ⟨129, 15, 1, true, false⟩]), 16, 168, (.agg [(.str []), (.str []), (.str []), (.str []), (.int .u8 (.c 0)), .nilp, .nilp, .nilp, .nilp, .nilp, .snil, (.int .u32 (.c 0)), (.int .i32 (.c 0)), (.int .u32 (.c 0)), (.int .i64 (.c 0)), (.int .i64 (.c 0))]), true, true, false⟩
noncomputable def ti131 : TI := ⟨(.st [⟨81, 0, 5, true, false⟩, ⟨111, 5, 1, false, false⟩, ⟨112, 6, 1, false, false⟩, ⟨113, 7, 1, false, false⟩, ⟨114, 8, 1, false, false⟩, ⟨115, 9, 1, false, false⟩, ⟨43, 10, 1, false, false⟩, ⟨126, 11, 3, true, false⟩, ⟨77, 14, 1, false, false⟩, ⟨129, 15, 1, true, false⟩]), 16, 168, (.agg [(.str []), (.str []), (.str []), (.str []), (.int .u8 (.c 0)), .nilp, .nilp, .nilp, .nilp, .nilp, .snil, (.int .u32 (.c 0)), (.int .i32 (.c 0)), (.int .u32 (.c 0)), (.int .i64 (.c 0)), (.int .i64 (.c 0))]), true, true, false⟩
noncomputable def ti132 : TI := ⟨.fn, 1, 8, .nilf, true, true, false⟩
noncomputable def ti133 : TI := ⟨.fn, 1, 8, .nilf, true, true, false⟩
noncomputable def ti134 : TI := ⟨(.st [⟨89, 0, 1, false, false⟩, ⟨4, 1, 1, false, false⟩, ⟨30, 2, 1, false, false⟩, ⟨30, 3, 1, false, false⟩, ⟨3, 4, 1, false, false⟩, ⟨4, 5, 1, false, false⟩, ⟨5, 6, 1, false, false⟩, ⟨4, 7, 1, false, false⟩, ⟨4, 8, 1, false, false⟩, ⟨5, 9, 1, false, false⟩, ⟨5, 10, 1, false, false⟩, ⟨4, 11, 1, false, false⟩, ⟨5, 12, 1, false, false⟩, ⟨5, 13, 1, false, false⟩, ⟨4, 14, 1, false, false⟩]), 15, 48, (.agg [(.int .u8 (.c 0)), (.bool (.c false)), (.int .u64 (.c 0)), (.int .u64 (.c 0)), (.int .i64 (.c 0)), (.bool (.c false)), (.int .u8 (.c 0)), (.bool (.c false)), (.bool (.c false)), (.int .u8 (.c 0)), (.int .u8 (.c 0)), (.bool (.c false)), (.int .u8 (.c 0)), (.int .u8 (.c 0)), (.bool (.c false))]), true, true, false⟩
noncomputable def ti135 : TI := ⟨(.st [⟨89, 0, 1, false, false⟩, ⟨4, 1, 1, false, false⟩, ⟨30, 2, 1, false, false⟩, ⟨30, 3, 1, false, false⟩, ⟨3, 4, 1, false, false⟩, ⟨4, 5, 1, false, false⟩, ⟨5, 6, 1, false, false⟩, ⟨4, 7, 1, false, false⟩, ⟨4, 8, 1, false, false⟩, ⟨5, 9, 1, false, false⟩, ⟨5, 10, 1, false, false⟩, ⟨4, 11, 1, false, false⟩, ⟨5, 12, 1, false, false⟩, ⟨5, 13, 1, false, false⟩, ⟨4, 14, 1, false, false⟩]), 15, 48, (.agg [(.int .u8 (.c 0)), (.bool (.c false)), (.int .u64 (.c 0)), (.int .u64 (.c 0)), (.int .i64 (.c 0)), (.bool (.c false)), (.int .u8 (.c 0)), (.bool (.c false)), (.bool (.c false)), (.int .u8 (.c 0)), (.int .u8 (.c 0)), (.bool (.c false)), (.int .u8 (.c 0)), (.int .u8 (.c 0)), (.bool (.c false))]), true, true, false⟩
noncomputable def ti137 : TI := ⟨.fn, 1, 8, .nilf, true, true, false⟩
noncomputable def ti139 : TI := ⟨.fn, 1, 8, .nilf, true, true, false⟩
noncomputable def ti140 : TI := ⟨.fn, 1, 8, .nilf, true, true, false⟩
noncomputable def ti141 : TI := ⟨(.st [⟨4, 0, 1, false, false⟩, ⟨4, 1, 1, false, false⟩, ⟨4, 2, 1, false, false⟩]), 3, 3, (.agg [(.bool (.c false)), (.bool (.c false)), (.bool (.c false))]), true, true, false⟩
noncomputable def ti142 : TI := ⟨(.st [⟨4, 0, 1, false, false⟩, ⟨4, 1, 1, false, false⟩, ⟨4, 2, 1, false, false⟩]), 3, 3, (.agg [(.bool (.c false)), (.bool (.c false)), (.bool (.c false))]), true, true, true⟩
noncomputable def ti143 : TI := ⟨.fn, 1, 8, .nilf, true, true, false⟩
noncomputable def ti144 : TI := ⟨.fn, 1, 8, .nilf, true, true, false⟩
noncomputable def ti145 : TI := ⟨.fn, 1, 8, .nilf, true, true, false⟩
noncomputable def ti146 : TI := ⟨.fn, 1, 8, .nilf, true, true, false⟩
noncomputable def ti147 : TI := ⟨(.sl 361), 1, 24, .snil, true, true, false⟩
noncomputable def ti148 : TI := ⟨(.sl 397), 1, 24, .snil, true, true, false⟩
noncomputable def ti149 : TI := ⟨(.st [⟨147, 0, 1, false, false⟩, ⟨148, 1, 1, false, false⟩, ⟨3, 2, 1, false, false⟩, ⟨73, 3, 1, false, false⟩, ⟨3, 4, 1, false, false⟩, ⟨4, 5, 1, false, false⟩]), 6, 96, (.agg [.snil, .snil, (.int .i64 (.c 0)), .snil, (.int .i64 (.c 0)), (.bool (.c false))]), true, true, false⟩
noncomputable def ti150 : TI := ⟨(.st [⟨147, 0, 1, false, false⟩, ⟨148, 1, 1, false, false⟩, ⟨3, 2, 1, false, false⟩, ⟨73, 3, 1, false, false⟩, ⟨3, 4, 1, false, false⟩, ⟨4, 5, 1, false, false⟩]), 6, 96, (.agg [.snil, .snil, (.int .i64 (.c 0)), .snil, (.int .i64 (.c 0)), (.bool (.c false))]), true, true, false⟩
noncomputable def ti151 : TI := ⟨.fn, 1, 8, .nilf, true, true, false⟩
noncomputable def ti152 : TI := ⟨.fn, 1, 8, .nilf, true, true, false⟩
noncomputable def ti153 : TI := ⟨(.st [⟨3, 0, 1, false, false⟩, ⟨3, 1, 1, false, false⟩]), 2, 16, (.agg [(.int .i64 (.c 0)), (.int .i64 (.c 0))]), true, true, false⟩
noncomputable def ti154 : TI := ⟨(.st [⟨3, 0, 1, false, false⟩, ⟨3, 1, 1, false, false⟩]), 2, 16, (.agg [(.int .i64 (.c 0)), (.int .i64 (.c 0))]), true, true, false⟩
noncomputable def ti156 : TI := ⟨.fn, 1, 8, .nilf, true, true, false⟩
noncomputable def ti157 : TI := ⟨.fn, 1, 8, .nilf, true, true, false⟩
noncomputable def ti158 : TI := ⟨.fn, 1, 8, .nilf, true, true, false⟩
noncomputable def ti159 : TI := ⟨.fn, 1, 8, .nilf, true, true, false⟩
noncomputable def ti160 : TI := ⟨(.ptr 245), 1, 8, .nilp, true, true, false⟩
noncomputable def ti162 : TI := ⟨.fn, 1, 8, .nilf, true, true, false⟩
noncomputable def ti164 : TI := ⟨.fn, 1, 8, .nilf, true, true, false⟩
noncomputable def ti165 : TI := ⟨(.st [⟨160, 0, 1, false, false⟩, ⟨5, 1, 1, false, false⟩]), 2, 16, (.agg [.nilp, (.int .u8 (.c 0))]), true, true, false⟩
noncomputable def ti166 : TI := ⟨(.st [⟨160, 0, 1, false, false⟩, ⟨5, 1, 1, false, false⟩]), 2, 16, (.agg [.nilp, (.int .u8 (.c 0))]), true, true, false⟩
noncomputable def ti167 : TI := ⟨.fn, 1, 8, .nilf, true, true, false⟩
noncomputable def ti168 : TI := ⟨.fn, 1, 8, .nilf, true, true, false⟩
noncomputable def ti169 : TI := ⟨.fn, 1, 8, .nilf, true, true, false⟩
noncomputable def ti170 : TI := ⟨.fn, 1, 8, .nilf, true, true, false⟩
noncomputable def ti171 : TI := ⟨.fn, 1, 8, .nilf, true, true, false⟩
noncomputable def ti172 : TI := ⟨(.st [⟨5, 0, 1, false, false⟩, ⟨9, 1, 1, false, false⟩, ⟨9, 2, 1, false, false⟩, ⟨3, 3, 1, false, false⟩, ⟨33, 4, 1, false, false⟩]), 5, 72, (.agg [(.int .u8 (.c 0)), (.str []), (.str []), (.int .i64 (.c 0)), .snil]), true, true, false⟩
noncomputable def ti173 : TI := ⟨(.st [⟨5, 0, 1, false, false⟩, ⟨9, 1, 1, false, false⟩, ⟨9, 2, 1, false, false⟩, ⟨3, 3, 1, false, false⟩, ⟨33, 4, 1, false, false⟩]), 5, 72, (.agg [(.int .u8 (.c 0)), (.str []), (.str []), (.int .i64 (.c 0)), .snil]), true, true, false⟩
noncomputable def ti174 : TI := ⟨.fn, 1, 8, .nilf, true, true, false⟩
noncomputable def ti175 : TI := ⟨.fn, 1, 8, .nilf, true, true, false⟩
noncomputable def ti176 : TI := ⟨.fn, 1, 8, .nilf, true, true, false⟩
noncomputable def ti177 : TI := ⟨.fn, 1, 8, .nilf, true, true, false⟩
noncomputable def ti178 : TI := ⟨(.int .u64), 1, 8, (.int .u64 (.c 0)), true, true, false⟩
noncomputable def ti180 : TI := ⟨.fn, 1, 8, .nilf, true, true, false⟩
noncomputable def ti181 : TI := ⟨.fn, 1, 8, .nilf, true, true, false⟩
noncomputable def ti182 : TI := ⟨(.ptr 32), 1, 8, .nilp, true, true, false⟩
noncomputable def ti184 : TI := ⟨.fn, 1, 8, .nilf, true, true, false⟩
noncomputable def ti185 : TI := ⟨(.ptr 129), 1, 8, .nilp, true, true, false⟩
noncomputable def ti186 : TI := ⟨.fn, 1, 8, .nilf, true, true, false⟩
noncomputable def ti187 : TI := ⟨(.ptr 2), 1, 8, .nilp, true, true, false⟩
noncomputable def ti188 : TI := ⟨.fn, 1, 8, .nilf, true, true, false⟩
noncomputable def ti190 : TI := ⟨.fn, 1, 8, .nilf, true, true, false⟩
noncomputable def ti192 : TI := ⟨.fn, 1, 8, .nilf, true, true, false⟩
noncomputable def ti193 : TI := ⟨.fn, 1, 8, .nilf, true, true, false⟩
noncomputable def ti194 : TI := ⟨.fn, 1, 8, .nilf, true, true, false⟩
noncomputable def ti195 : TI := ⟨(.ptr 135), 1, 8, .nilp, true, true, false⟩
noncomputable def ti196 : TI := ⟨(.sl 29), 1, 24, .snil, true, true, false⟩
noncomputable def ti197 : TI := ⟨(.arr 8 196), 8, 192, (.agg [.snil, .snil, .snil, .snil, .snil, .snil, .snil, .snil]), true, true, false⟩
noncomputable def ti198 : TI := ⟨(.st [⟨197, 0, 8, true, false⟩]), 8, 192, (.agg [.snil, .snil, .snil, .snil, .snil, .snil, .snil, .snil]), true, true, false⟩
noncomputable def ti199 : TI := ⟨(.st [⟨197, 0, 8, true, false⟩]), 8, 192, (.agg [.snil, .snil, .snil, .snil, .snil, .snil, .snil, .snil]), true, true, false⟩
noncomputable def ti200 : TI := ⟨(.st [⟨67, 0, 1, false, false⟩, ⟨53, 1, 1, false, false⟩, ⟨5, 2, 1, false, false⟩, ⟨3, 3, 1, false, false⟩, ⟨4, 4, 1, false, false⟩]), 5, 48, (.agg [.snil, (.int .u32 (.c 0)), (.int .u8 (.c 0)), (.int .i64 (.c 0)), (.bool (.c false))]), true, true, false⟩
noncomputable def ti201 : TI := ⟨(.st [⟨67, 0, 1, false, false⟩, ⟨53, 1, 1, false, false⟩, ⟨5, 2, 1, false, false⟩, ⟨3, 3, 1, false, false⟩, ⟨4, 4, 1, false, false⟩]), 5, 48, (.agg [.snil, (.int .u32 (.c 0)), (.int .u8 (.c 0)), (.int .i64 (.c 0)), (.bool (.c false))]), true, true, false⟩
noncomputable def ti203 : TI := ⟨.fn, 1, 8, .nilf, true, true, false⟩
noncomputable def ti204 : TI := ⟨(.st [⟨142, 0, 3, true, false⟩, ⟨142, 3, 3, true, false⟩]), 6, 6, (.agg [(.bool (.c false)), (.bool (.c false)), (.bool (.c false)), (.bool (.c false)), (.bool (.c false)), (.bool (.c false))]), true, true, false⟩
noncomputable def ti205 : TI := ⟨(.st [⟨142, 0, 3, true, false⟩, ⟨142, 3, 3, true, false⟩]), 6, 6, (.agg [(.bool (.c false)), (.bool (.c false)), (.bool (.c false)), (.bool (.c false)), (.bool (.c false)), (.bool (.c false))]), true, true, false⟩
noncomputable def ti206 : TI := ⟨.fn, 1, 8, .nilf, true, true, false⟩
noncomputable def ti207 : TI := ⟨.fn, 1, 8, .nilf, true, true, false⟩
noncomputable def ti208 : TI := ⟨.fn, 1, 8, .nilf, true, true, false⟩
noncomputable def ti209 : TI := ⟨.fn, 1, 8, .nilf, true, true, false⟩
noncomputable def ti211 : TI := ⟨.fn, 1, 8, .nilf, true, true, false⟩
noncomputable def ti212 : TI := ⟨.fn, 1, 8, .nilf, true, true, false⟩
noncomputable def ti213 : TI := ⟨.fn, 1, 8, .nilf, true, true, false⟩
noncomputable def ti214 : TI := ⟨(.ptr 216), 1, 8, .nilp, true, true, false⟩
noncomputable def ti215 : TI := ⟨(.st [⟨50, 0, 1, false, false⟩, ⟨9, 1, 1, false, false⟩, ⟨3, 2, 1, false, false⟩, ⟨4, 3, 1, false, false⟩]), 4, 40, (.agg [.nilp, (.str []), (.int .i64 (.c 0)), (.bool (.c false))]), true, true, false⟩
noncomputable def ti216 : TI := ⟨(.st [⟨50, 0, 1, false, false⟩, ⟨9, 1, 1, false, false⟩, ⟨3, 2, 1, false, false⟩, ⟨4, 3, 1, false, false⟩]), 4, 40, (.agg [.nilp, (.str []), (.int .i64 (.c 0)), (.bool (.c false))]), true, true, false⟩
noncomputable def ti217 : TI := ⟨(.st [⟨214, 0, 1, false, false⟩, ⟨3, 1, 1, false, false⟩]), 2, 16, (.agg [.nilp, (.int .i64 (.c 0))]), true, true, false⟩
noncomputable def ti218 : TI := ⟨(.st [⟨214, 0, 1, false, false⟩, ⟨3, 1, 1, false, false⟩]), 2, 16, (.agg [.nilp, (.int .i64 (.c 0))]), true, true, false⟩
noncomputable def ti219 : TI := ⟨(.st [⟨50, 0, 1, false, false⟩, ⟨9, 1, 1, false, false⟩, ⟨4, 2, 1, false, false⟩, ⟨3, 3, 1, false, false⟩, ⟨30, 4, 1, false, false⟩]), 5, 48, (.agg [.nilp, (.str []), (.bool (.c false)), (.int .i64 (.c 0)), (.int .u64 (.c 0))]), true, true, false⟩
noncomputable def ti220 : TI := ⟨(.st [⟨50, 0, 1, false, false⟩, ⟨9, 1, 1, false, false⟩, ⟨4, 2, 1, false, false⟩, ⟨3, 3, 1, false, false⟩, ⟨30, 4, 1, false, false⟩]), 5, 48, (.agg [.nilp, (.str []), (.bool (.c false)), (.int .i64 (.c 0)), (.int .u64 (.c 0))]), true, true, false⟩
noncomputable def ti221 : TI := ⟨(.st [⟨197, 0, 8, true, false⟩]), 8, 192, (.agg [.snil, .snil, .snil, .snil, .snil, .snil, .snil, .snil]), true, true, false⟩
noncomputable def ti222 : TI := ⟨(.st [⟨197, 0, 8, true, false⟩]), 8, 192, (.agg [.snil, .snil, .snil, .snil, .snil, .snil, .snil, .snil]), true, true, false⟩
noncomputable def ti224 : TI := ⟨.fn, 1, 8, .nilf, true, true, false⟩
noncomputable def ti226 : TI := ⟨.fn, 1, 8, .nilf, true, true, false⟩
noncomputable def ti227 : TI := ⟨.fn, 1, 8, .nilf, true, true, false⟩
noncomputable def ti229 : TI := ⟨.fn, 1, 8, .nilf, true, true, false⟩
noncomputable def ti230 : TI := ⟨.fn, 1, 8, .nilf, true, true, false⟩
noncomputable def ti231 : TI := ⟨.fn, 1, 8, .nilf, true, true, false⟩
noncomputable def ti232 : TI := ⟨.fn, 1, 8, .nilf, true, true, false⟩
noncomputable def ti234 : TI := ⟨.fn, 1, 8, .nilf, true, true, false⟩
noncomputable def ti235 : TI := ⟨.fn, 1, 8, .nilf, true, true, false⟩
noncomputable def ti236 : TI := ⟨.fn, 1, 8, .nilf, true, true, false⟩
noncomputable def ti237 : TI := ⟨(.ptr 126), 1, 8, .nilp, true, true, false⟩
noncomputable def ti239 : TI := ⟨.fn, 1, 8, .nilf, true, true, false⟩
noncomputable def ti241 : TI := ⟨.fn, 1, 8, .nilf, true, true, false⟩
noncomputable def ti242 : TI := ⟨.fn, 1, 8, .nilf, true, true, false⟩
noncomputable def ti243 : TI := ⟨.fn, 1, 8, .nilf, true, true, false⟩
noncomputable def ti244 : TI := ⟨(.st [⟨26, 0, 1, false, false⟩, ⟨9, 1, 1, false, false⟩, ⟨3, 2, 1, false, false⟩, ⟨4, 3, 1, false, false⟩]), 4, 40, (.agg [.nilp, (.str []), (.int .i64 (.c 0)), (.bool (.c false))]), true, true, false⟩
noncomputable def ti245 : TI := ⟨(.st [⟨26, 0, 1, false, false⟩, ⟨9, 1, 1, false, false⟩, ⟨3, 2, 1, false, false⟩, ⟨4, 3, 1, false, false⟩]), 4, 40, (.agg [.nilp, (.str []), (.int .i64 (.c 0)), (.bool (.c false))]), true, true, false⟩
noncomputable def ti246 : TI := ⟨(.st [⟨26, 0, 1, false, false⟩, ⟨9, 1, 1, false, false⟩, ⟨4, 2, 1, false, false⟩, ⟨3, 3, 1, false, false⟩, ⟨30, 4, 1, false, false⟩]), 5, 48, (.agg [.nilp, (.str []), (.bool (.c false)), (.int .i64 (.c 0)), (.int .u64 (.c 0))]), true, true, false⟩
noncomputable def ti247 : TI := ⟨(.st [⟨26, 0, 1, false, false⟩, ⟨9, 1, 1, false, false⟩, ⟨4, 2, 1, false, false⟩, ⟨3, 3, 1, false, false⟩, ⟨30, 4, 1, false, false⟩]), 5, 48, (.agg [.nilp, (.str []), (.bool (.c false)), (.int .i64 (.c 0)), (.int .u64 (.c 0))]), true, true, false⟩
noncomputable def ti248 : TI := ⟨.fn, 1, 8, .nilf, true, true, false⟩
noncomputable def ti249 : TI := ⟨.fn, 1, 8, .nilf, true, true, false⟩
noncomputable def ti250 : TI := ⟨.fn, 1, 8, .nilf, true, true, false⟩
noncomputable def ti251 : TI := ⟨.fn, 1, 8, .nilf, true, true, false⟩
noncomputable def ti252 : TI := ⟨.fn, 1, 8, .nilf, true, true, false⟩
noncomputable def ti253 : TI := ⟨.fn, 1, 8, .nilf, true, true, false⟩
noncomputable def ti254 : TI := ⟨.fn, 1, 8, .nilf, true, true, false⟩
noncomputable def ti255 : TI := ⟨.fn, 1, 8, .nilf, true, true, false⟩
noncomputable def ti257 : TI := ⟨.fn, 1, 8, .nilf, true, true, false⟩
noncomputable def ti258 : TI := ⟨.fn, 1, 8, .nilf, true, true, false⟩
noncomputable def ti259 : TI := ⟨(.st [⟨5, 0, 1, false, false⟩, ⟨5, 1, 1, false, false⟩, ⟨30, 2, 1, false, false⟩, ⟨30, 3, 1, false, false⟩, ⟨4, 4, 1, false, false⟩]), 5, 32, (.agg [(.int .u8 (.c 0)), (.int .u8 (.c 0)), (.int .u64 (.c 0)), (.int .u64 (.c 0)), (.bool (.c false))]), true, true, false⟩
noncomputable def ti260 : TI := ⟨(.st [⟨5, 0, 1, false, false⟩, ⟨5, 1, 1, false, false⟩, ⟨30, 2, 1, false, false⟩, ⟨30, 3, 1, false, false⟩, ⟨4, 4, 1, false, false⟩]), 5, 32, (.agg [(.int .u8 (.c 0)), (.int .u8 (.c 0)), (.int .u64 (.c 0)), (.int .u64 (.c 0)), (.bool (.c false))]), true, true, false⟩
noncomputable def ti261 : TI := ⟨(.sl 265), 1, 24, .snil, true, true, false⟩
noncomputable def ti263 : TI := ⟨.fn, 1, 8, .nilf, true, true, false⟩
noncomputable def ti264 : TI := ⟨(.st [⟨3, 0, 1, false, false⟩, ⟨29, 1, 1, false, false⟩]), 2, 16, (.agg [(.int .i64 (.c 0)), (.int .u16 (.c 0))]), true, true, false⟩
noncomputable def ti265 : TI := ⟨(.st [⟨3, 0, 1, false, false⟩, ⟨29, 1, 1, false, false⟩]), 2, 16, (.agg [(.int .i64 (.c 0)), (.int .u16 (.c 0))]), true, true, false⟩
noncomputable def ti266 : TI := ⟨(.sl 337), 1, 24, .snil, true, true, false⟩
noncomputable def ti267 : TI := ⟨(.st [⟨104, 0, 1, false, false⟩, ⟨266, 1, 1, false, false⟩]), 2, 48, (.agg [.snil, .snil]), true, true, false⟩
noncomputable def ti268 : TI := ⟨(.st [⟨104, 0, 1, false, false⟩, ⟨266, 1, 1, false, false⟩]), 2, 48, (.agg [.snil, .snil]), true, true, false⟩
noncomputable def ti270 : TI := ⟨.fn, 1, 8, .nilf, true, true, false⟩
noncomputable def ti271 : TI := ⟨(.sl 273), 1, 24, .snil, true, true, false⟩
noncomputable def ti272 : TI := ⟨(.st [⟨9, 0, 1, false, false⟩, ⟨111, 1, 1, false, false⟩, ⟨5, 2, 1, false, false⟩]), 3, 32, (.agg [(.str []), .nilp, (.int .u8 (.c 0))]), true, true, false⟩
noncomputable def ti273 : TI := ⟨(.st [⟨9, 0, 1, false, false⟩, ⟨111, 1, 1, false, false⟩, ⟨5, 2, 1, false, false⟩]), 3, 32, (.agg [(.str []), .nilp, (.int .u8 (.c 0))]), true, true, false⟩
noncomputable def ti275 : TI := ⟨.fn, 1, 8, .nilf, true, true, false⟩
noncomputable def ti276 : TI := ⟨.fn, 1, 8, .nilf, true, true, false⟩
noncomputable def ti277 : TI := ⟨.fn, 1, 8, .nilf, true, true, false⟩
noncomputable def ti278 : TI := ⟨.fn, 1, 8, .nilf, true, true, false⟩
noncomputable def ti279 : TI := ⟨.fn, 1, 8, .nilf, true, true, false⟩
noncomputable def ti280 : TI := ⟨(.sl 348), 1, 24, .snil, true, true, false⟩
noncomputable def ti282 : TI := ⟨.fn, 1, 8, .nilf, true, true, false⟩
noncomputable def ti283 : TI := ⟨.fn, 1, 8, .nilf, true, true, false⟩
noncomputable def ti284 : TI := ⟨.fn, 1, 8, .nilf, true, true, false⟩
noncomputable def ti285 : TI := ⟨.fn, 1, 8, .nilf, true, true, false⟩
noncomputable def ti286 : TI := ⟨.fn, 1, 8, .nilf, true, true, false⟩
noncomputable def ti287 : TI := ⟨.fn, 1, 8, .nilf, true, true, false⟩
noncomputable def ti288 : TI := ⟨.fn, 1, 8, .nilf, true, true, false⟩
noncomputable def ti290 : TI := ⟨.fn, 1, 8, .nilf, true, true, false⟩
noncomputable def ti291 : TI := ⟨.fn, 1, 8, .nilf, true, true, false⟩
noncomputable def ti292 : TI := ⟨.fn, 1, 8, .nilf, true, true, false⟩
noncomputable def ti293 : TI := ⟨.fn, 1, 8, .nilf, true, true, false⟩
noncomputable def ti294 : TI := ⟨.fn, 1, 8, .nilf, true, true, false⟩
noncomputable def ti295 : TI := ⟨.fn, 1, 8, .nilf, true, true, false⟩
noncomputable def ti296 : TI := ⟨.fn, 1, 8, .nilf, true, true, false⟩
noncomputable def ti297 : TI := ⟨(.sl 303), 1, 24, .snil, true, true, false⟩
noncomputable def ti299 : TI := ⟨.fn, 1, 8, .nilf, true, true, false⟩
noncomputable def ti300 : TI := ⟨(.st [⟨3, 0, 1, false, false⟩, ⟨3, 1, 1, false, false⟩, ⟨30, 2, 1, false, false⟩, ⟨30, 3, 1, false, false⟩, ⟨4, 4, 1, false, false⟩]), 5, 40, (.agg [(.int .i64 (.c 0)), (.int .i64 (.c 0)), (.int .u64 (.c 0)), (.int .u64 (.c 0)), (.bool (.c false))]), true, true, false⟩
noncomputable def ti301 : TI := ⟨(.st [⟨3, 0, 1, false, false⟩, ⟨3, 1, 1, false, false⟩, ⟨30, 2, 1, false, false⟩, ⟨30, 3, 1, false, false⟩, ⟨4, 4, 1, false, false⟩]), 5, 40, (.agg [(.int .i64 (.c 0)), (.int .i64 (.c 0)), (.int .u64 (.c 0)), (.int .u64 (.c 0)), (.bool (.c false))]), true, true, false⟩
noncomputable def ti302 : TI := ⟨(.st [⟨3, 0, 1, false, false⟩, ⟨3, 1, 1, false, false⟩]), 2, 16, (.agg [(.int .i64 (.c 0)), (.int .i64 (.c 0))]), true, true, false⟩
noncomputable def ti303 : TI := ⟨(.st [⟨3, 0, 1, false, false⟩, ⟨3, 1, 1, false, false⟩]), 2, 16, (.agg [(.int .i64 (.c 0)), (.int .i64 (.c 0))]), true, true, false⟩
noncomputable def ti304 : TI := ⟨(.sl 373), 1, 24, .snil, true, true, false⟩
noncomputable def ti305 : TI := ⟨(.st [⟨104, 0, 1, false, false⟩, ⟨304, 1, 1, false, false⟩]), 2, 48, (.agg [.snil, .snil]), true, true, false⟩
noncomputable def ti306 : TI := ⟨(.st [⟨104, 0, 1, false, false⟩, ⟨304, 1, 1, false, false⟩]), 2, 48, (.agg [.snil, .snil]), true, true, false⟩
noncomputable def ti308 : TI := ⟨.fn, 1, 8, .nilf, true, true, false⟩
noncomputable def ti309 : TI := ⟨(.sl 311), 1, 24, .snil, true, true, false⟩
noncomputable def ti310 : TI := ⟨(.st [⟨9, 0, 1, false, false⟩, ⟨58, 1, 1, false, false⟩, ⟨3, 2, 1, false, false⟩]), 3, 32, (.agg [(.str []), .nilp, (.int .i64 (.c 0))]), true, true, false⟩
noncomputable def ti311 : TI := ⟨(.st [⟨9, 0, 1, false, false⟩, ⟨58, 1, 1, false, false⟩, ⟨3, 2, 1, false, false⟩]), 3, 32, (.agg [(.str []), .nilp, (.int .i64 (.c 0))]), true, true, false⟩
noncomputable def ti312 : TI := ⟨.fn, 1, 8, .nilf, true, true, false⟩
noncomputable def ti314 : TI := ⟨.fn, 1, 8, .nilf, true, true, false⟩
noncomputable def ti315 : TI := ⟨.fn, 1, 8, .nilf, true, true, false⟩
noncomputable def ti316 : TI := ⟨.fn, 1, 8, .nilf, true, true, false⟩
noncomputable def ti317 : TI := ⟨(.ptr 120), 1, 8, .nilp, true, true, false⟩
noncomputable def ti318 : TI := ⟨.fn, 1, 8, .nilf, true, true, false⟩
noncomputable def ti319 : TI := ⟨(.ptr 53), 1, 8, .nilp, true, true, false⟩
noncomputable def ti320 : TI := ⟨.fn, 1, 8, .nilf, true, true, false⟩
noncomputable def ti321 : TI := ⟨.fn, 1, 8, .nilf, true, true, false⟩
noncomputable def ti323 : TI := ⟨.fn, 1, 8, .nilf, true, true, false⟩
noncomputable def ti324 : TI := ⟨(.int .i8), 1, 1, (.int .i8 (.c 0)), true, true, false⟩
noncomputable def ti325 : TI := ⟨.fn, 1, 8, .nilf, true, true, false⟩
noncomputable def ti327 : TI := ⟨.fn, 1, 8, .nilf, true, true, false⟩
noncomputable def ti328 : TI := ⟨.fn, 1, 8, .nilf, true, true, false⟩
noncomputable def ti329 : TI := ⟨.fn, 1, 8, .nilf, true, true, false⟩
noncomputable def ti330 : TI := ⟨.fn, 1, 8, .nilf, true, true, false⟩
noncomputable def ti331 : TI := ⟨.fn, 1, 8, .nilf, true, true, false⟩
noncomputable def ti332 : TI := ⟨.fn, 1, 8, .nilf, true, true, false⟩
noncomputable def ti333 : TI := ⟨.fn, 1, 8, .nilf, true, true, false⟩
noncomputable def ti335 : TI := ⟨.fn, 1, 8, .nilf, true, true, false⟩
noncomputable def ti336 : TI := ⟨(.st [⟨3, 0, 1, false, false⟩, ⟨3, 1, 1, false, false⟩, ⟨3, 2, 1, false, false⟩, ⟨30, 3, 1, false, false⟩, ⟨30, 4, 1, false, false⟩]), 5, 40, (.agg [(.int .i64 (.c 0)), (.int .i64 (.c 0)), (.int .i64 (.c 0)), (.int .u64 (.c 0)), (.int .u64 (.c 0))]), true, true, false⟩
noncomputable def ti337 : TI := ⟨(.st [⟨3, 0, 1, false, false⟩, ⟨3, 1, 1, false, false⟩, ⟨3, 2, 1, false, false⟩, ⟨30, 3, 1, false, false⟩, ⟨30, 4, 1, false, false⟩]), 5, 40, (.agg [(.int .i64 (.c 0)), (.int .i64 (.c 0)), (.int .i64 (.c 0)), (.int .u64 (.c 0)), (.int .u64 (.c 0))]), true, true, false⟩
noncomputable def ti338 : TI := ⟨(.ptr 273), 1, 8, .nilp, true, true, false⟩
noncomputable def ti339 : TI := ⟨.fn, 1, 8, .nilf, true, true, false⟩
noncomputable def ti341 : TI := ⟨.fn, 1, 8, .nilf, true, true, false⟩
noncomputable def ti343 : TI := ⟨.fn, 1, 8, .nilf, true, true, false⟩
noncomputable def ti344 : TI := ⟨(.arr 16 5), 16, 16, (.agg [(.int .u8 (.c 0)), (.int .u8 (.c 0)), (.int .u8 (.c 0)), (.int .u8 (.c 0)), (.int .u8 (.c 0)), (.int .u8 (.c 0)), (.int .u8 (.c 0)), (.int .u8 (.c 0)), (.int .u8 (.c 0)), (.int .u8 (.c 0)), (.int .u8 (.c 0)), (.int .u8 (.c 0)), (.int .u8 (.c 0)), (.int .u8 (.c 0)), (.int .u8 (.c 0)), (.int .u8 (.c 0))]), true, true, true⟩
noncomputable def ti345 : TI := ⟨(.st [⟨29, 0, 1, false, false⟩, ⟨29, 1, 1, false, false⟩, ⟨53, 2, 1, false, false⟩]), 3, 8, (.agg [(.int .u16 (.c 0)), (.int .u16 (.c 0)), (.int .u32 (.c 0))]), true, true, false⟩
noncomputable def ti346 : TI := ⟨(.st [⟨29, 0, 1, false, false⟩, ⟨29, 1, 1, false, false⟩, ⟨53, 2, 1, false, false⟩]), 3, 8, (.agg [(.int .u16 (.c 0)), (.int .u16 (.c 0)), (.int .u32 (.c 0))]), true, true, false⟩
noncomputable def ti347 : TI := ⟨(.st [⟨344, 0, 16, true, false⟩, ⟨346, 16, 3, true, false⟩]), 19, 24, (.agg [(.int .u8 (.c 0)), (.int .u8 (.c 0)), (.int .u8 (.c 0)), (.int .u8 (.c 0)), (.int .u8 (.c 0)), (.int .u8 (.c 0)), (.int .u8 (.c 0)), (.int .u8 (.c 0)), (.int .u8 (.c 0)), (.int .u8 (.c 0)), (.int .u8 (.c 0)), (.int .u8 (.c 0)), (.int .u8 (.c 0)), (.int .u8 (.c 0)), (.int .u8 (.c 0)), (.int .u8 (.c 0)), (.int .u16 (.c 0)), (.int .u16 (.c 0)), (.int .u32 (.c 0))]), true, true, false⟩
noncomputable def ti348 : TI := ⟨(.st [⟨344, 0, 16, true, false⟩, ⟨346, 16, 3, true, false⟩]), 19, 24, (.agg [(.int .u8 (.c 0)), (.int .u8 (.c 0)), (.int .u8 (.c 0)), (.int .u8 (.c 0)), (.int .u8 (.c 0)), (.int .u8 (.c 0)), (.int .u8 (.c 0)), (.int .u8 (.c 0)), (.int .u8 (.c 0)), (.int .u8 (.c 0)), (.int .u8 (.c 0)), (.int .u8 (.c 0)), (.int .u8 (.c 0)), (.int .u8 (.c 0)), (.int .u8 (.c 0)), (.int .u8 (.c 0)), (.int .u16 (.c 0)), (.int .u16 (.c 0)), (.int .u32 (.c 0))]), true, true, false⟩
noncomputable def ti349 : TI := ⟨.fn, 1, 8, .nilf, true, true, false⟩
noncomputable def ti350 : TI := ⟨.fn, 1, 8, .nilf, true, true, false⟩
noncomputable def ti351 : TI := ⟨.fn, 1, 8, .nilf, true, true, false⟩
noncomputable def ti353 : TI := ⟨.fn, 1, 8, .nilf, true, true, false⟩
noncomputable def ti354 : TI := ⟨.fn, 1, 8, .nilf, true, true, false⟩
noncomputable def ti355 : TI := ⟨.fn, 1, 8, .nilf, true, true, false⟩
noncomputable def ti356 : TI := ⟨.fn, 1, 8, .nilf, true, true, false⟩
noncomputable def ti357 : TI := ⟨.fn, 1, 8, .nilf, true, true, false⟩
noncomputable def ti358 : TI := ⟨.fn, 1, 8, .nilf, true, true, false⟩
noncomputable def ti359 : TI := ⟨.fn, 1, 8, .nilf, true, true, false⟩
noncomputable def ti360 : TI := ⟨(.st [⟨9, 0, 1, false, false⟩, ⟨33, 1, 1, false, false⟩]), 2, 40, (.agg [(.str []), .snil]), true, true, false⟩
noncomputable def ti361 : TI := ⟨(.st [⟨9, 0, 1, false, false⟩, ⟨33, 1, 1, false, false⟩]), 2, 40, (.agg [(.str []), .snil]), true, true, false⟩
noncomputable def ti362 : TI := ⟨.fn, 1, 8, .nilf, true, true, false⟩
noncomputable def ti364 : TI := ⟨.fn, 1, 8, .nilf, true, true, false⟩
noncomputable def ti365 : TI := ⟨.fn, 1, 8, .nilf, true, true, false⟩
noncomputable def ti366 : TI := ⟨.fn, 1, 8, .nilf, true, true, false⟩
noncomputable def ti367 : TI := ⟨.fn, 1, 8, .nilf, true, true, false⟩
noncomputable def ti368 : TI := ⟨.fn, 1, 8, .nilf, true, true, false⟩
noncomputable def ti370 : TI := ⟨.fn, 1, 8, .nilf, true, true, false⟩
noncomputable def ti371 : TI := ⟨.fn, 1, 8, .nilf, true, true, false⟩
noncomputable def ti372 : TI := ⟨.fn, 1, 8, .nilf, true, true, false⟩
noncomputable def ti373 : TI := ⟨(.st [⟨3, 0, 1, false, false⟩, ⟨3, 1, 1, false, false⟩, ⟨3, 2, 1, false, false⟩, ⟨30, 3, 1, false, false⟩, ⟨30, 4, 1, false, false⟩]), 5, 40, (.agg [(.int .i64 (.c 0)), (.int .i64 (.c 0)), (.int .i64 (.c 0)), (.int .u64 (.c 0)), (.int .u64 (.c 0))]), true, true, false⟩
noncomputable def ti374 : TI := ⟨.fn, 1, 8, .nilf, true, true, false⟩
noncomputable def ti376 : TI := ⟨.fn, 1, 8, .nilf, true, true, false⟩
noncomputable def ti377 : TI := ⟨.fn, 1, 8, .nilf, true, true, false⟩
noncomputable def ti378 : TI := ⟨.fn, 1, 8, .nilf, true, true, false⟩
noncomputable def ti379 : TI := ⟨.fn, 1, 8, .nilf, true, true, false⟩
noncomputable def ti380 : TI := ⟨.fn, 1, 8, .nilf, true, true, false⟩
noncomputable def ti381 : TI := ⟨.fn, 1, 8, .nilf, true, true, false⟩
noncomputable def ti382 : TI := ⟨(.ptr 124), 1, 8, .nilp, true, true, false⟩
noncomputable def ti383 : TI := ⟨.fn, 1, 8, .nilf, true, true, false⟩
noncomputable def ti384 : TI := ⟨.fn, 1, 8, .nilf, true, true, false⟩
noncomputable def ti385 : TI := ⟨.fn, 1, 8, .nilf, true, true, false⟩
noncomputable def ti386 : TI := ⟨.fn, 1, 8, .nilf, true, true, false⟩
noncomputable def ti387 : TI := ⟨(.sl 4), 1, 24, .snil, true, true, false⟩
noncomputable def ti388 : TI := ⟨.fn, 1, 8, .nilf, true, true, false⟩
noncomputable def ti389 : TI := ⟨.fn, 1, 8, .nilf, true, true, false⟩
noncomputable def ti390 : TI := ⟨.fn, 1, 8, .nilf, true, true, false⟩
noncomputable def ti391 : TI := ⟨.fn, 1, 8, .nilf, true, true, false⟩
noncomputable def ti392 : TI := ⟨.fn, 1, 8, .nilf, true, true, false⟩
noncomputable def ti393 : TI := ⟨.fn, 1, 8, .nilf, true, true, false⟩
noncomputable def ti394 : TI := ⟨.fn, 1, 8, .nilf, true, true, false⟩
noncomputable def ti395 : TI := ⟨.fn, 1, 8, .nilf, true, true, false⟩
noncomputable def ti396 : TI := ⟨(.st [⟨3, 0, 1, false, false⟩, ⟨9, 1, 1, false, false⟩, ⟨9, 2, 1, false, false⟩, ⟨3, 3, 1, false, false⟩, ⟨33, 4, 1, false, false⟩]), 5, 72, (.agg [(.int .i64 (.c 0)), (.str []), (.str []), (.int .i64 (.c 0)), .snil]), true, true, false⟩
noncomputable def ti397 : TI := ⟨(.st [⟨3, 0, 1, false, false⟩, ⟨9, 1, 1, false, false⟩, ⟨9, 2, 1, false, false⟩, ⟨3, 3, 1, false, false⟩, ⟨33, 4, 1, false, false⟩]), 5, 72, (.agg [(.int .i64 (.c 0)), (.str []), (.str []), (.int .i64 (.c 0)), .snil]), true, true, false⟩
noncomputable def ti398 : TI := ⟨.fn, 1, 8, .nilf, true, true, false⟩
noncomputable def ti399 : TI := ⟨.fn, 1, 8, .nilf, true, true, false⟩
noncomputable def ti400 : TI := ⟨.fn, 1, 8, .nilf, true, true, false⟩
noncomputable def ti401 : TI := ⟨.fn, 1, 8, .nilf, true, true, false⟩
noncomputable def ti402 : TI := ⟨.fn, 1, 8, .nilf, true, true, false⟩
noncomputable def ti403 : TI := ⟨(.ptr 122), 1, 8, .nilp, true, true, false⟩
noncomputable def ti404 : TI := ⟨.fn, 1, 8, .nilf, true, true, false⟩
noncomputable def ti405 : TI := ⟨(.ptr 21), 1, 8, .nilp, true, true, false⟩
noncomputable def ti406 : TI := ⟨.fn, 1, 8, .nilf, true, true, false⟩
noncomputable def ti407 : TI := ⟨.uptr, 1, 8, .nilp, true, true, false⟩
noncomputable def ti408 : TI := ⟨.fn, 1, 8, .nilf, true, true, false⟩
noncomputable def ti409 : TI := ⟨.fn, 1, 8, .nilf, true, true, false⟩
noncomputable def ti410 : TI := ⟨.fn, 1, 8, .nilf, true, true, false⟩
noncomputable def ti411 : TI := ⟨.fn, 1, 8, .nilf, true, true, false⟩
noncomputable def ti412 : TI := ⟨(.arr 256 4), 256, 256, (.agg [(.bool (.c false)), (.bool (.c false)), (.bool (.c false)), (.bool (.c false)), (.bool (.c false)), (.bool (.c false)), (.bool (.c false)), (.bool (.c false)), (.bool (.c false)), (.bool (.c false)), (.bool (.c false)), (.bool (.c false)), (.bool (.c false)), (.bool (.c false)), (.bool (.c false)), (.bool (.c false)), (.bool (.c false)), (.bool (.c false)), (.bool (.c false)), (.bool (.c false)), (.bool (.c false)), (.bool (.c false)), (.bool (.c false)), (.bool (.c false)), (.bool (.c false)), (.bool (.c false)), (.bool (.c false)), (.bool (.c false)), (.bool (.c false)), (.bool (.c false)), (.bool (.c false)), (.bool (.c false)), (.bool (.c false)), (.bool (.c false)), (.bool (.c false)), (.bool (.c false)), (.bool (.c false)), (.bool (.c false)), (.bool (.c false)), (.bool (.c false)), (.bool (.c false)), (.bool (.c false)), (.bool (.c false)), (.bool (.c false)), (.bool (.c false)), (.bool (.c false)), (.bool (.c false)), (.bool (.c false)), (.bool (.c false)), (.bool (.c false)), (.bool (.c false)), (.bool (.c false)), (.bool (.c false)), (.bool (.c false)), (.bool (.c false)), (.bool (.c false)), (.bool (.c false)), (.bool (.c false)), (.bool (.c false)), (.bool (.c false)), (.bool (.c false)), (.bool (.c false)), (.bool (.c false)), (.bool (.c false)), (.bool (.c false)), (.bool (.c false)), (.bool (.c false)), (.bool (.c false)), (.bool (.c false)), (.bool (.c false)), (.bool (.c false)), (.bool (.c false)), (.bool (.c false)), (.bool (.c false)), (.bool (.c false)), (.bool (.c false)), (.bool (.c false)), (.bool (.c false)), (.bool (.c false)), (.bool (.c false)), (.bool (.c false)), (.bool (.c false)), (.bool (.c false)), (.bool (.c false)), (.bool (.c false)), (.bool (.c false)), (.bool (.c false)), (.bool (.c false)), (.bool (.c false)), (.bool (.c false)), (.bool (.c false)), (.bool (.c false)), (.bool (.c false)), (.bool (.c false)), (.bool (.c false)), (.bool (.c false)), (.bool (.c false)), (.bool (.c false)), (.bool (.c false)), (.bool (.c false)), (.bool (.c false)), (.bool (.c false)), (.bool (.c false)), (.bool (.c false)), (.bool (.c false)), (.bool (.c false)), (.bool (.c false)), (.bool (.c false)), (.bool (.c false)), (.bool (.c false)), (.bool (.c false)), (.bool (.c false)), (.bool (.c false)), (.bool (.c false)), (.bool (.c false)), (.bool (.c false)), (.bool (.c false)), (.bool (.c false)), (.bool (.c false)), (.bool (.c false)), (.bool (.c false)), (.bool (.c false)), (.bool (.c false)), (.bool (.c false)), (.bool (.c false)), (.bool (.c false)), (.bool (.c false)), (.bool (.c false)), (.bool (.c false)), (.bool (.c false)), (.bool (.c false)), (.bool (.c false)), (.bool (.c false)), (.bool (.c false)), (.bool (.c false)), (.bool (.c false)), (.bool (.c false)), (.bool (.c false)), (.bool (.c false)), (.bool (.c false)), (.bool (.c false)), (.bool (.c false)), (.bool (.c false)), (.bool (.c false)), (.bool (.c false)), (.bool (.c false)), (.bool (.c false)), (.bool (.c false)), (.bool (.c false)), (.bool (.c false)), (.bool (.c false)), (.bool (.c false)), (.bool (.c false)), (.bool (.c false)), (.bool (.c false)), (.bool (.c false)), (.bool (.c false)), (.bool (.c false)), (.bool (.c false)), (.bool (.c false)), (.bool (.c false)), (.bool (.c false)), (.bool (.c false)), (.bool (.c false)), (.bool (.c false)), (.bool (.c false)), (.bool (.c false)), (.bool (.c false)), (.bool (.c false)), (.bool (.c false)), (.bool (.c false)), (.bool (.c false)), (.bool (.c false)), (.bool (.c false)), (.bool (.c false)), (.bool (.c false)), (.bool (.c false)), (.bool (.c false)), (.bool (.c false)), (.bool (.c false)), (.bool (.c false)), (.bool (.c false)), (.bool (.c false)), (.bool (.c false)), (.bool (.c false)), (.bool (.c false)), (.bool (.c false)), (.bool (.c false)), (.bool (.c false)), (.bool (.c false)), (.bool (.c false)), (.bool (.c false)), (.bool (.c false)), (.bool (.c false)), (.bool (.c false)), (.bool (.c false)), (.bool (.c false)), (.bool (.c false)), (.bool (.c false)), (.bool (.c false)), (.bool (.c false)), (.bool (.c false)), (.bool (.c false)), (.bool (.c false)), (.bool (.c false)), (.bool (.c false)), (.bool (.c false)), (.bool (.c false)), (.bool (.c false)), (.bool (.c false)), (.bool (.c false)), (.bool (.c false)), (.bool (.c false)), (.bool (.c false)), (.bool (.c false)), (.bool (.c false)), (.bool (.c false)), (.bool (.c false)), (.bool (.c false)), (.bool (.c false)), (.bool (.c false)), (.bool (.c false)), (.bool (.c false)), (.bool (.c false)), (.bool (.c false)), (.bool (.c false)), (.bool (.c false)), (.bool (.c false)), (.bool (.c false)), (.bool (.c false)), (.bool (.c false)), (.bool (.c false)), (.bool (.c false)), (.bool (.c false)), (.bool (.c false)), (.bool (.c false)), (.bool (.c false)), (.bool (.c false)), (.bool (.c false)), (.bool (.c false)), (.bool (.c false)), (.bool (.c false)), (.bool (.c false)), (.bool (.c false)), (.bool (.c false)), (.bool (.c false)), (.bool (.c false)), (.bool (.c false)), (.bool (.c false)), (.bool (.c false)), (.bool (.c false)), (.bool (.c false)), (.bool (.c false)), (.bool (.c false)), (.bool (.c false)), (.bool (.c false))]), true, true, false⟩
noncomputable def ti413 : TI := ⟨(.arr 256 4), 256, 256, (.agg [(.bool (.c false)), (.bool (.c false)), (.bool (.c false)), (.bool (.c false)), (.bool (.c false)), (.bool (.c false)), (.bool (.c false)), (.bool (.c false)), (.bool (.c false)), (.bool (.c false)), (.bool (.c false)), (.bool (.c false)), (.bool (.c false)), (.bool (.c false)), (.bool (.c false)), (.bool (.c false)), (.bool (.c false)), (.bool (.c false)), (.bool (.c false)), (.bool (.c false)), (.bool (.c false)), (.bool (.c false)), (.bool (.c false)), (.bool (.c false)), (.bool (.c false)), (.bool (.c false)), (.bool (.c false)), (.bool (.c false)), (.bool (.c false)), (.bool (.c false)), (.bool (.c false)), (.bool (.c false)), (.bool (.c false)), (.bool (.c false)), (.bool (.c false)), (.bool (.c false)), (.bool (.c false)), (.bool (.c false)), (.bool (.c false)), (.bool (.c false)), (.bool (.c false)), (.bool (.c false)), (.bool (.c false)), (.bool (.c false)), (.bool (.c false)), (.bool (.c false)), (.bool (.c false)), (.bool (.c false)), (.bool (.c false)), (.bool (.c false)), (.bool (.c false)), (.bool (.c false)), (.bool (.c false)), (.bool (.c false)), (.bool (.c false)), (.bool (.c false)), (.bool (.c false)), (.bool (.c false)), (.bool (.c false)), (.bool (.c false)), (.bool (.c false)), (.bool (.c false)), (.bool (.c false)), (.bool (.c false)), (.bool (.c false)), (.bool (.c false)), (.bool (.c false)), (.bool (.c false)), (.bool (.c false)), (.bool (.c false)), (.bool (.c false)), (.bool (.c false)), (.bool (.c false)), (.bool (.c false)), (.bool (.c false)), (.bool (.c false)), (.bool (.c false)), (.bool (.c false)), (.bool (.c false)), (.bool (.c false)), (.bool (.c false)), (.bool (.c false)), (.bool (.c false)), (.bool (.c false)), (.bool (.c false)), (.bool (.c false)), (.bool (.c false)), (.bool (.c false)), (.bool (.c false)), (.bool (.c false)), (.bool (.c false)), (.bool (.c false)), (.bool (.c false)), (.bool (.c false)), (.bool (.c false)), (.bool (.c false)), (.bool (.c false)), (.bool (.c false)), (.bool (.c false)), (.bool (.c false)), (.bool (.c false)), (.bool (.c false)), (.bool (.c false)), (.bool (.c false)), (.bool (.c false)), (.bool (.c false)), (.bool (.c false)), (.bool (.c false)), (.bool (.c false)), (.bool (.c false)), (.bool (.c false)), (.bool (.c false)), (.bool (.c false)), (.bool (.c false)), (.bool (.c false)), (.bool (.c false)), (.bool (.c false)), (.bool (.c false)), (.bool (.c false)), (.bool (.c false)), (.bool (.c false)), (.bool (.c false)), (.bool (.c false)), (.bool (.c false)), (.bool (.c false)), (.bool (.c false)), (.bool (.c false)), (.bool (.c false)), (.bool (.c false)), (.bool (.c false)), (.bool (.c false)), (.bool (.c false)), (.bool (.c false)), (.bool (.c false)), (.bool (.c false)), (.bool (.c false)), (.bool (.c false)), (.bool (.c false)), (.bool (.c false)), (.bool (.c false)), (.bool (.c false)), (.bool (.c false)), (.bool (.c false)), (.bool (.c false)), (.bool (.c false)), (.bool (.c false)), (.bool (.c false)), (.bool (.c false)), (.bool (.c false)), (.bool (.c false)), (.bool (.c false)), (.bool (.c false)), (.bool (.c false)), (.bool (.c false)), (.bool (.c false)), (.bool (.c false)), (.bool (.c false)), (.bool (.c false)), (.bool (.c false)), (.bool (.c false)), (.bool (.c false)), (.bool (.c false)), (.bool (.c false)), (.bool (.c false)), (.bool (.c false)), (.bool (.c false)), (.bool (.c false)), (.bool (.c false)), (.bool (.c false)), (.bool (.c false)), (.bool (.c false)), (.bool (.c false)), (.bool (.c false)), (.bool (.c false)), (.bool (.c false)), (.bool (.c false)), (.bool (.c false)), (.bool (.c false)), (.bool (.c false)), (.bool (.c false)), (.bool (.c false)), (.bool (.c false)), (.bool (.c false)), (.bool (.c false)), (.bool (.c false)), (.bool (.c false)), (.bool (.c false)), (.bool (.c false)), (.bool (.c false)), (.bool (.c false)), (.bool (.c false)), (.bool (.c false)), (.bool (.c false)), (.bool (.c false)), (.bool (.c false)), (.bool (.c false)), (.bool (.c false)), (.bool (.c false)), (.bool (.c false)), (.bool (.c false)), (.bool (.c false)), (.bool (.c false)), (.bool (.c false)), (.bool (.c false)), (.bool (.c false)), (.bool (.c false)), (.bool (.c false)), (.bool (.c false)), (.bool (.c false)), (.bool (.c false)), (.bool (.c false)), (.bool (.c false)), (.bool (.c false)), (.bool (.c false)), (.bool (.c false)), (.bool (.c false)), (.bool (.c false)), (.bool (.c false)), (.bool (.c false)), (.bool (.c false)), (.bool (.c false)), (.bool (.c false)), (.bool (.c false)), (.bool (.c false)), (.bool (.c false)), (.bool (.c false)), (.bool (.c false)), (.bool (.c false)), (.bool (.c false)), (.bool (.c false)), (.bool (.c false)), (.bool (.c false)), (.bool (.c false)), (.bool (.c false)), (.bool (.c false)), (.bool (.c false)), (.bool (.c false)), (.bool (.c false)), (.bool (.c false)), (.bool (.c false)), (.bool (.c false)), (.bool (.c false)), (.bool (.c false)), (.bool (.c false)), (.bool (.c false)), (.bool (.c false)), (.bool (.c false)), (.bool (.c false)), (.bool (.c false)), (.bool (.c false)), (.bool (.c false)), (.bool (.c false)), (.bool (.c false)), (.bool (.c false)), (.bool (.c false)), (.bool (.c false))]), true, true, false⟩
noncomputable def ti415 : TI := ⟨.fn, 1, 8, .nilf, true, true, false⟩
noncomputable def ti416 : TI := ⟨.fn, 1, 8, .nilf, true, true, false⟩
noncomputable def ti417 : TI := ⟨(.ptr 413), 1, 8, .nilp, true, true, false⟩
noncomputable def ti418 : TI := ⟨.fn, 1, 8, .nilf, true, true, false⟩
noncomputable def ti419 : TI := ⟨.fn, 1, 8, .nilf, true, true, false⟩
noncomputable def ti420 : TI := ⟨.fn, 1, 8, .nilf, true, true, false⟩
noncomputable def ti421 : TI := ⟨.fn, 1, 8, .nilf, true, true, false⟩
noncomputable def ti422 : TI := ⟨.fn, 1, 8, .nilf, true, true, false⟩
noncomputable def ti424 : TI := ⟨.fn, 1, 8, .nilf, true, true, false⟩
noncomputable def ti425 : TI := ⟨.fn, 1, 8, .nilf, true, true, false⟩
noncomputable def ti426 : TI := ⟨.fn, 1, 8, .nilf, true, true, false⟩
noncomputable def ti427 : TI := ⟨.fn, 1, 8, .nilf, true, true, false⟩
noncomputable def ti428 : TI := ⟨.fn, 1, 8, .nilf, true, true, false⟩
noncomputable def ti429 : TI := ⟨.fn, 1, 8, .nilf, true, true, false⟩
noncomputable def ti430 : TI := ⟨(.arr 256 5), 256, 256, (.agg [(.int .u8 (.c 0)), (.int .u8 (.c 0)), (.int .u8 (.c 0)), (.int .u8 (.c 0)), (.int .u8 (.c 0)), (.int .u8 (.c 0)), (.int .u8 (.c 0)), (.int .u8 (.c 0)), (.int .u8 (.c 0)), (.int .u8 (.c 0)), (.int .u8 (.c 0)), (.int .u8 (.c 0)), (.int .u8 (.c 0)), (.int .u8 (.c 0)), (.int .u8 (.c 0)), (.int .u8 (.c 0)), (.int .u8 (.c 0)), (.int .u8 (.c 0)), (.int .u8 (.c 0)), (.int .u8 (.c 0)), (.int .u8 (.c 0)), (.int .u8 (.c 0)), (.int .u8 (.c 0)), (.int .u8 (.c 0)), (.int .u8 (.c 0)), (.int .u8 (.c 0)), (.int .u8 (.c 0)), (.int .u8 (.c 0)), (.int .u8 (.c 0)), (.int .u8 (.c 0)), (.int .u8 (.c 0)), (.int .u8 (.c 0)), (.int .u8 (.c 0)), (.int .u8 (.c 0)), (.int .u8 (.c 0)), (.int .u8 (.c 0)), (.int .u8 (.c 0)), (.int .u8 (.c 0)), (.int .u8 (.c 0)), (.int .u8 (.c 0)), (.int .u8 (.c 0)), (.int .u8 (.c 0)), (.int .u8 (.c 0)), (.int .u8 (.c 0)), (.int .u8 (.c 0)), (.int .u8 (.c 0)), (.int .u8 (.c 0)), (.int .u8 (.c 0)), (.int .u8 (.c 0)), (.int .u8 (.c 0)), (.int .u8 (.c 0)), (.int .u8 (.c 0)), (.int .u8 (.c 0)), (.int .u8 (.c 0)), (.int .u8 (.c 0)), (.int .u8 (.c 0)), (.int .u8 (.c 0)), (.int .u8 (.c 0)), (.int .u8 (.c 0)), (.int .u8 (.c 0)), (.int .u8 (.c 0)), (.int .u8 (.c 0)), (.int .u8 (.c 0)), (.int .u8 (.c 0)), (.int .u8 (.c 0)), (.int .u8 (.c 0)), (.int .u8 (.c 0)), (.int .u8 (.c 0)), (.int .u8 (.c 0)), (.int .u8 (.c 0)), (.int .u8 (.c 0)), (.int .u8 (.c 0)), (.int .u8 (.c 0)), (.int .u8 (.c 0)), (.int .u8 (.c 0)), (.int .u8 (.c 0)), (.int .u8 (.c 0)), (.int .u8 (.c 0)), (.int .u8 (.c 0)), (.int .u8 (.c 0)), (.int .u8 (.c 0)), (.int .u8 (.c 0)), (.int .u8 (.c 0)), (.int .u8 (.c 0)), (.int .u8 (.c 0)), (.int .u8 (.c 0)), (.int .u8 (.c 0)), (.int .u8 (.c 0)), (.int .u8 (.c 0)), (.int .u8 (.c 0)), (.int .u8 (.c 0)), (.int .u8 (.c 0)), (.int .u8 (.c 0)), (.int .u8 (.c 0)), (.int .u8 (.c 0)), (.int .u8 (.c 0)), (.int .u8 (.c 0)), (.int .u8 (.c 0)), (.int .u8 (.c 0)), (.int .u8 (.c 0)), (.int .u8 (.c 0)), (.int .u8 (.c 0)), (.int .u8 (.c 0)), (.int .u8 (.c 0)), (.int .u8 (.c 0)), (.int .u8 (.c 0)), (.int .u8 (.c 0)), (.int .u8 (.c 0)), (.int .u8 (.c 0)), (.int .u8 (.c 0)), (.int .u8 (.c 0)), (.int .u8 (.c 0)), (.int .u8 (.c 0)), (.int .u8 (.c 0)), (.int .u8 (.c 0)), (.int .u8 (.c 0)), (.int .u8 (.c 0)), (.int .u8 (.c 0)), (.int .u8 (.c 0)), (.int .u8 (.c 0)), (.int .u8 (.c 0)), (.int .u8 (.c 0)), (.int .u8 (.c 0)), (.int .u8 (.c 0)), (.int .u8 (.c 0)), (.int .u8 (.c 0)), (.int .u8 (.c 0)), (.int .u8 (.c 0)), (.int .u8 (.c 0)), (.int .u8 (.c 0)), (.int .u8 (.c 0)), (.int .u8 (.c 0)), (.int .u8 (.c 0)), (.int .u8 (.c 0)), (.int .u8 (.c 0)), (.int .u8 (.c 0)), (.int .u8 (.c 0)), (.int .u8 (.c 0)), (.int .u8 (.c 0)), (.int .u8 (.c 0)), (.int .u8 (.c 0)), (.int .u8 (.c 0)), (.int .u8 (.c 0)), (.int .u8 (.c 0)), (.int .u8 (.c 0)), (.int .u8 (.c 0)), (.int .u8 (.c 0)), (.int .u8 (.c 0)), (.int .u8 (.c 0)), (.int .u8 (.c 0)), (.int .u8 (.c 0)), (.int .u8 (.c 0)), (.int .u8 (.c 0)), (.int .u8 (.c 0)), (.int .u8 (.c 0)), (.int .u8 (.c 0)), (.int .u8 (.c 0)), (.int .u8 (.c 0)), (.int .u8 (.c 0)), (.int .u8 (.c 0)), (.int .u8 (.c 0)), (.int .u8 (.c 0)), (.int .u8 (.c 0)), (.int .u8 (.c 0)), (.int .u8 (.c 0)), (.int .u8 (.c 0)), (.int .u8 (.c 0)), (.int .u8 (.c 0)), (.int .u8 (.c 0)), (.int .u8 (.c 0)), (.int .u8 (.c 0)), (.int .u8 (.c 0)), (.int .u8 (.c 0)), (.int .u8 (.c 0)), (.int .u8 (.c 0)), (.int .u8 (.c 0)), (.int .u8 (.c 0)), (.int .u8 (.c 0)), (.int .u8 (.c 0)), (.int .u8 (.c 0)), (.int .u8 (.c 0)), (.int .u8 (.c 0)), (.int .u8 (.c 0)), (.int .u8 (.c 0)), (.int .u8 (.c 0)), (.int .u8 (.c 0)), (.int .u8 (.c 0)), (.int .u8 (.c 0)), (.int .u8 (.c 0)), (.int .u8 (.c 0)), (.int .u8 (.c 0)), (.int .u8 (.c 0)), (.int .u8 (.c 0)), (.int .u8 (.c 0)), (.int .u8 (.c 0)), (.int .u8 (.c 0)), (.int .u8 (.c 0)), (.int .u8 (.c 0)), (.int .u8 (.c 0)), (.int .u8 (.c 0)), (.int .u8 (.c 0)), (.int .u8 (.c 0)), (.int .u8 (.c 0)), (.int .u8 (.c 0)), (.int .u8 (.c 0)), (.int .u8 (.c 0)), (.int .u8 (.c 0)), (.int .u8 (.c 0)), (.int .u8 (.c 0)), (.int .u8 (.c 0)), (.int .u8 (.c 0)), (.int .u8 (.c 0)), (.int .u8 (.c 0)), (.int .u8 (.c 0)), (.int .u8 (.c 0)), (.int .u8 (.c 0)), (.int .u8 (.c 0)), (.int .u8 (.c 0)), (.int .u8 (.c 0)), (.int .u8 (.c 0)), (.int .u8 (.c 0)), (.int .u8 (.c 0)), (.int .u8 (.c 0)), (.int .u8 (.c 0)), (.int .u8 (.c 0)), (.int .u8 (.c 0)), (.int .u8 (.c 0)), (.int .u8 (.c 0)), (.int .u8 (.c 0)), (.int .u8 (.c 0)), (.int .u8 (.c 0)), (.int .u8 (.c 0)), (.int .u8 (.c 0)), (.int .u8 (.c 0)), (.int .u8 (.c 0)), (.int .u8 (.c 0)), (.int .u8 (.c 0)), (.int .u8 (.c 0)), (.int .u8 (.c 0)), (.int .u8 (.c 0)), (.int .u8 (.c 0)), (.int .u8 (.c 0)), (.int .u8 (.c 0)), (.int .u8 (.c 0)), (.int .u8 (.c 0)), (.int .u8 (.c 0)), (.int .u8 (.c 0)), (.int .u8 (.c 0)), (.int .u8 (.c 0)), (.int .u8 (.c 0)), (.int .u8 (.c 0)), (.int .u8 (.c 0)), (.int .u8 (.c 0)), (.int .u8 (.c 0)), (.int .u8 (.c 0)), (.int .u8 (.c 0))]), true, true, false⟩
noncomputable def ti431 : TI := ⟨(.st [⟨5, 0, 1, false, false⟩, ⟨5, 1, 1, false, false⟩]), 2, 2, (.agg [(.int .u8 (.c 0)), (.int .u8 (.c 0))]), true, true, false⟩
noncomputable def ti432 : TI := ⟨(.st [⟨5, 0, 1, false, false⟩, ⟨5, 1, 1, false, false⟩]), 2, 2, (.agg [(.int .u8 (.c 0)), (.int .u8 (.c 0))]), true, true, false⟩
noncomputable def ti433 : TI := ⟨(.arr 16 432), 32, 32, (.agg [(.int .u8 (.c 0)), (.int .u8 (.c 0)), (.int .u8 (.c 0)), (.int .u8 (.c 0)), (.int .u8 (.c 0)), (.int .u8 (.c 0)), (.int .u8 (.c 0)), (.int .u8 (.c 0)), (.int .u8 (.c 0)), (.int .u8 (.c 0)), (.int .u8 (.c 0)), (.int .u8 (.c 0)), (.int .u8 (.c 0)), (.int .u8 (.c 0)), (.int .u8 (.c 0)), (.int .u8 (.c 0)), (.int .u8 (.c 0)), (.int .u8 (.c 0)), (.int .u8 (.c 0)), (.int .u8 (.c 0)), (.int .u8 (.c 0)), (.int .u8 (.c 0)), (.int .u8 (.c 0)), (.int .u8 (.c 0)), (.int .u8 (.c 0)), (.int .u8 (.c 0)), (.int .u8 (.c 0)), (.int .u8 (.c 0)), (.int .u8 (.c 0)), (.int .u8 (.c 0)), (.int .u8 (.c 0)), (.int .u8 (.c 0))]), true, true, false⟩
noncomputable def ti434 : TI := ⟨.fn, 1, 8, .nilf, true, true, false⟩
noncomputable def ti435 : TI := ⟨(.st [⟨17, 0, 1, false, false⟩, ⟨17, 1, 1, false, false⟩, ⟨17, 2, 1, false, false⟩, ⟨9, 3, 1, false, false⟩]), 4, 40, (.agg [.nilp, .nilp, .nilp, (.str [])]), true, true, false⟩
noncomputable def ti436 : TI := ⟨(.st [⟨17, 0, 1, false, false⟩, ⟨17, 1, 1, false, false⟩, ⟨17, 2, 1, false, false⟩, ⟨9, 3, 1, false, false⟩]), 4, 40, (.agg [.nilp, .nilp, .nilp, (.str [])]), true, true, false⟩
noncomputable def ti437 : TI := ⟨(.arr 0 16), 0, 0, (.agg []), true, true, false⟩
noncomputable def ti438 : TI := ⟨(.st [⟨437, 0, 0, true, true⟩]), 0, 0, (.agg []), true, true, false⟩
noncomputable def ti439 : TI := ⟨(.st [⟨437, 0, 0, true, true⟩]), 0, 0, (.agg []), true, true, false⟩
noncomputable def ti440 : TI := ⟨(.int .u8), 1, 1, (.int .u8 (.c 0)), true, true, false⟩
noncomputable def ti441 : TI := ⟨(.int .u8), 1, 1, (.int .u8 (.c 0)), true, true, false⟩
noncomputable def ti442 : TI := ⟨.fn, 1, 8, .nilf, true, true, false⟩
noncomputable def ti443 : TI := ⟨(.ptr 5), 1, 8, .nilp, true, true, false⟩
noncomputable def ti444 : TI := ⟨(.int .i32), 1, 4, (.int .i32 (.c 0)), true, true, false⟩
noncomputable def ti445 : TI := ⟨(.int .i32), 1, 4, (.int .i32 (.c 0)), true, true, false⟩
noncomputable def ti446 : TI := ⟨(.st [⟨12, 0, 1, false, false⟩, ⟨12, 1, 1, false, false⟩, ⟨53, 2, 1, false, false⟩, ⟨440, 3, 1, false, false⟩, ⟨5, 4, 1, false, false⟩, ⟨5, 5, 1, false, false⟩, ⟨441, 6, 1, false, false⟩, ⟨442, 7, 1, false, false⟩, ⟨443, 8, 1, false, false⟩, ⟨444, 9, 1, false, false⟩, ⟨445, 10, 1, false, false⟩]), 11, 48, (.agg [(.int .u64 (.c 0)), (.int .u64 (.c 0)), (.int .u32 (.c 0)), (.int .u8 (.c 0)), (.int .u8 (.c 0)), (.int .u8 (.c 0)), (.int .u8 (.c 0)), .nilf, .nilp, (.int .i32 (.c 0)), (.int .i32 (.c 0))]), true, true, false⟩
noncomputable def ti447 : TI := ⟨(.st [⟨12, 0, 1, false, false⟩, ⟨12, 1, 1, false, false⟩, ⟨53, 2, 1, false, false⟩, ⟨440, 3, 1, false, false⟩, ⟨5, 4, 1, false, false⟩, ⟨5, 5, 1, false, false⟩, ⟨441, 6, 1, false, false⟩, ⟨442, 7, 1, false, false⟩, ⟨443, 8, 1, false, false⟩, ⟨444, 9, 1, false, false⟩, ⟨445, 10, 1, false, false⟩]), 11, 48, (.agg [(.int .u64 (.c 0)), (.int .u64 (.c 0)), (.int .u32 (.c 0)), (.int .u8 (.c 0)), (.int .u8 (.c 0)), (.int .u8 (.c 0)), (.int .u8 (.c 0)), .nilf, .nilp, (.int .i32 (.c 0)), (.int .i32 (.c 0))]), true, true, false⟩
noncomputable def ti448 : TI := ⟨.fn, 1, 8, .nilf, true, true, false⟩
noncomputable def ttL : T TI := (.node (.node (.node (.node (.node (.node (.node (.node (.node .nil (some ti255) .nil) (some ti127) (.node .nil (some ti383) .nil)) (some ti63) (.node (.node .nil (some ti319) .nil) none (.node .nil (some ti447) .nil))) (some ti31) (.node (.node (.node .nil (some ti287) .nil) (some ti159) (.node .nil (some ti415) .nil)) (some ti95) (.node (.node .nil (some ti351) .nil) none .nil))) (some ti15) (.node (.node (.node (.node .nil (some ti271) .nil) (some ti143) (.node .nil (some ti399) .nil)) (some ti79) (.node (.node .nil (some ti335) .nil) (some ti207) .nil)) (some ti47) (.node (.node (.node .nil (some ti303) .nil) (some ti175) (.node .nil (some ti431) .nil)) (some ti111) (.node (.node .nil (some ti367) .nil) (some ti239) .nil)))) (some ti7) (.node (.node (.node (.node (.node .nil (some ti263) .nil) (some ti135) (.node .nil (some ti391) .nil)) (some ti71) (.node (.node .nil (some ti327) .nil) (some ti199) .nil)) (some ti39) (.node (.node (.node .nil (some ti295) .nil) (some ti167) .nil) (some ti103) (.node (.node .nil (some ti359) .nil) (some ti231) .nil))) (some ti23) (.node (.node (.node (.node .nil (some ti279) .nil) (some ti151) (.node .nil (some ti407) .nil)) (some ti87) (.node (.node .nil (some ti343) .nil) (some ti215) .nil)) (some ti55) (.node (.node (.node .nil (some ti311) .nil) none (.node .nil (some ti439) .nil)) (some ti119) (.node .nil (some ti247) .nil))))) (some ti3) (.node (.node (.node (.node (.node (.node .nil (some ti259) .nil) (some ti131) (.node .nil (some ti387) .nil)) (some ti67) (.node (.node .nil (some ti323) .nil) (some ti195) .nil)) (some ti35) (.node (.node (.node .nil (some ti291) .nil) none (.node .nil (some ti419) .nil)) none (.node (.node .nil (some ti355) .nil) (some ti227) .nil))) (some ti19) (.node (.node (.node (.node .nil (some ti275) .nil) (some ti147) (.node .nil (some ti403) .nil)) (some ti83) (.node (.node .nil (some ti339) .nil) (some ti211) .nil)) (some ti51) (.node (.node .nil none (.node .nil (some ti435) .nil)) (some ti115) (.node (.node .nil (some ti371) .nil) (some ti243) .nil)))) (some ti11) (.node (.node (.node (.node (.node .nil (some ti267) .nil) (some ti139) (.node .nil (some ti395) .nil)) (some ti75) (.node (.node .nil (some ti331) .nil) (some ti203) .nil)) (some ti43) (.node (.node (.node .nil (some ti299) .nil) (some ti171) (.node .nil (some ti427) .nil)) (some ti107) (.node .nil (some ti235) .nil))) (some ti27) (.node (.node (.node (.node .nil (some ti283) .nil) none (.node .nil (some ti411) .nil)) (some ti91) (.node (.node .nil (some ti347) .nil) (some ti219) .nil)) (some ti59) (.node (.node (.node .nil (some ti315) .nil) (some ti187) (.node .nil (some ti443) .nil)) (some ti123) (.node (.node .nil (some ti379) .nil) (some ti251) .nil)))))) (some ti1) (.node (.node (.node (.node (.node (.node (.node .nil (some ti257) .nil) (some ti129) (.node .nil (some ti385) .nil)) (some ti65) (.node (.node .nil (some ti321) .nil) (some ti193) .nil)) (some ti33) (.node (.node .nil none (.node .nil (some ti417) .nil)) (some ti97) (.node (.node .nil (some ti353) .nil) none .nil))) (some ti17) (.node (.node (.node (.node .nil (some ti273) .nil) (some ti145) (.node .nil (some ti401) .nil)) (some ti81) (.node (.node .nil (some ti337) .nil) (some ti209) .nil)) (some ti49) (.node (.node (.node .nil (some ti305) .nil) (some ti177) (.node .nil (some ti433) .nil)) (some ti113) (.node .nil (some ti241) .nil)))) (some ti9) (.node (.node (.node (.node (.node .nil (some ti265) .nil) (some ti137) (.node .nil (some ti393) .nil)) (some ti73) (.node (.node .nil (some ti329) .nil) (some ti201) .nil)) (some ti41) (.node (.node (.node .nil (some ti297) .nil) (some ti169) (.node .nil (some ti425) .nil)) (some ti105) (.node (.node .nil (some ti361) .nil) none .nil))) (some ti25) (.node (.node (.node .nil (some ti153) (.node .nil (some ti409) .nil)) (some ti89) (.node (.node .nil (some ti345) .nil) (some ti217) .nil)) (some ti57) (.node (.node .nil (some ti185) (.node .nil (some ti441) .nil)) (some ti121) (.node (.node .nil (some ti377) .nil) (some ti249) .nil))))) (some ti5) (.node (.node (.node (.node (.node (.node .nil (some ti261) .nil) (some ti133) (.node .nil (some ti389) .nil)) (some ti69) (.node (.node .nil (some ti325) .nil) (some ti197) .nil)) (some ti37) (.node (.node (.node .nil (some ti293) .nil) (some ti165) (.node .nil (some ti421) .nil)) none (.node (.node .nil (some ti357) .nil) (some ti229) .nil))) (some ti21) (.node (.node (.node (.node .nil (some ti277) .nil) (some ti149) (.node .nil (some ti405) .nil)) (some ti85) (.node (.node .nil (some ti341) .nil) (some ti213) .nil)) (some ti53) (.node (.node (.node .nil (some ti309) .nil) (some ti181) (.node .nil (some ti437) .nil)) (some ti117) (.node (.node .nil (some ti373) .nil) (some ti245) .nil)))) (some ti13) (.node (.node (.node (.node .nil (some ti141) (.node .nil (some ti397) .nil)) (some ti77) (.node (.node .nil (some ti333) .nil) (some ti205) .nil)) (some ti45) (.node (.node (.node .nil (some ti301) .nil) (some ti173) (.node .nil (some ti429) .nil)) (some ti109) (.node (.node .nil (some ti365) .nil) (some ti237) .nil))) (some ti29) (.node (.node (.node (.node .nil (some ti285) .nil) (some ti157) (.node .nil (some ti413) .nil)) (some ti93) (.node (.node .nil (some ti349) .nil) (some ti221) .nil)) (some ti61) (.node (.node (.node .nil (some ti317) .nil) none (.node .nil (some ti445) .nil)) (some ti125) (.node (.node .nil (some ti381) .nil) (some ti253) .nil))))))) (some ti0) (.node (.node (.node (.node (.node (.node (.node .nil (some ti128) (.node .nil (some ti384) .nil)) (some ti64) (.node (.node .nil (some ti320) .nil) (some ti192) (.node .nil (some ti448) .nil))) (some ti32) (.node (.node (.node .nil (some ti288) .nil) (some ti160) (.node .nil (some ti416) .nil)) (some ti96) (.node .nil (some ti224) .nil))) (some ti16) (.node (.node (.node (.node .nil (some ti272) .nil) (some ti144) (.node .nil (some ti400) .nil)) (some ti80) (.node (.node .nil (some ti336) .nil) (some ti208) .nil)) (some ti48) (.node (.node (.node .nil (some ti304) .nil) (some ti176) (.node .nil (some ti432) .nil)) (some ti112) (.node (.node .nil (some ti368) .nil) none .nil)))) (some ti8) (.node (.node (.node (.node (.node .nil (some ti264) .nil) none (.node .nil (some ti392) .nil)) (some ti72) (.node (.node .nil (some ti328) .nil) (some ti200) .nil)) (some ti40) (.node (.node (.node .nil (some ti296) .nil) (some ti168) (.node .nil (some ti424) .nil)) (some ti104) (.node (.node .nil (some ti360) .nil) (some ti232) .nil))) (some ti24) (.node (.node (.node (.node .nil (some ti280) .nil) (some ti152) (.node .nil (some ti408) .nil)) (some ti88) (.node (.node .nil (some ti344) .nil) (some ti216) .nil)) (some ti56) (.node (.node (.node .nil (some ti312) .nil) (some ti184) (.node .nil (some ti440) .nil)) (some ti120) (.node (.node .nil (some ti376) .nil) (some ti248) .nil))))) (some ti4) (.node (.node (.node (.node (.node (.node .nil (some ti260) .nil) (some ti132) (.node .nil (some ti388) .nil)) none (.node (.node .nil (some ti324) .nil) (some ti196) .nil)) (some ti36) (.node (.node (.node .nil (some ti292) .nil) (some ti164) (.node .nil (some ti420) .nil)) (some ti100) (.node (.node .nil (some ti356) .nil) none .nil))) (some ti20) (.node (.node (.node (.node .nil (some ti276) .nil) (some ti148) (.node .nil (some ti404) .nil)) (some ti84) (.node .nil (some ti212) .nil)) (some ti52) (.node (.node (.node .nil (some ti308) .nil) (some ti180) (.node .nil (some ti436) .nil)) (some ti116) (.node (.node .nil (some ti372) .nil) (some ti244) .nil)))) (some ti12) (.node (.node (.node (.node (.node .nil (some ti268) .nil) (some ti140) (.node .nil (some ti396) .nil)) (some ti76) (.node (.node .nil (some ti332) .nil) (some ti204) .nil)) none (.node (.node (.node .nil (some ti300) .nil) (some ti172) (.node .nil (some ti428) .nil)) (some ti108) (.node (.node .nil (some ti364) .nil) (some ti236) .nil))) (some ti28) (.node (.node (.node (.node .nil (some ti284) .nil) (some ti156) (.node .nil (some ti412) .nil)) (some ti92) (.node (.node .nil (some ti348) .nil) (some ti220) .nil)) (some ti60) (.node (.node (.node .nil (some ti316) .nil) (some ti188) (.node .nil (some ti444) .nil)) (some ti124) (.node (.node .nil (some ti380) .nil) (some ti252) .nil)))))) (some ti2) (.node (.node (.node (.node (.node (.node (.node .nil (some ti258) .nil) (some ti130) (.node .nil (some ti386) .nil)) (some ti66) (.node .nil (some ti194) .nil)) (some ti34) (.node (.node (.node .nil (some ti290) .nil) (some ti162) (.node .nil (some ti418) .nil)) (some ti98) (.node (.node .nil (some ti354) .nil) (some ti226) .nil))) (some ti18) (.node (.node (.node .nil (some ti146) (.node .nil (some ti402) .nil)) none (.node (.node .nil (some ti338) .nil) none .nil)) (some ti50) (.node (.node (.node .nil (some ti306) .nil) (some ti178) (.node .nil (some ti434) .nil)) (some ti114) (.node (.node .nil (some ti370) .nil) (some ti242) .nil)))) (some ti10) (.node (.node (.node (.node (.node .nil (some ti266) .nil) none (.node .nil (some ti394) .nil)) (some ti74) (.node (.node .nil (some ti330) .nil) none .nil)) (some ti42) (.node (.node .nil (some ti170) (.node .nil (some ti426) .nil)) (some ti106) (.node (.node .nil (some ti362) .nil) (some ti234) .nil))) (some ti26) (.node (.node (.node (.node .nil (some ti282) .nil) (some ti154) (.node .nil (some ti410) .nil)) (some ti90) (.node (.node .nil (some ti346) .nil) (some ti218) .nil)) (some ti58) (.node (.node (.node .nil (some ti314) .nil) (some ti186) (.node .nil (some ti442) .nil)) (some ti122) (.node (.node .nil (some ti378) .nil) (some ti250) .nil))))) (some ti6) (.node (.node (.node (.node (.node .nil (some ti134) (.node .nil (some ti390) .nil)) (some ti70) (.node .nil (some ti198) .nil)) (some ti38) (.node (.node (.node .nil (some ti294) .nil) (some ti166) (.node .nil (some ti422) .nil)) (some ti102) (.node (.node .nil (some ti358) .nil) (some ti230) .nil))) (some ti22) (.node (.node (.node (.node .nil (some ti278) .nil) (some ti150) (.node .nil (some ti406) .nil)) (some ti86) (.node .nil (some ti214) .nil)) (some ti54) (.node (.node (.node .nil (some ti310) .nil) (some ti182) (.node .nil (some ti438) .nil)) (some ti118) (.node (.node .nil (some ti374) .nil) (some ti246) .nil)))) (some ti14) (.node (.node (.node (.node (.node .nil (some ti270) .nil) (some ti142) (.node .nil (some ti398) .nil)) (some ti78) (.node .nil (some ti206) .nil)) (some ti46) (.node (.node (.node .nil (some ti302) .nil) (some ti174) (.node .nil (some ti430) .nil)) (some ti110) (.node (.node .nil (some ti366) .nil) none .nil))) (some ti30) (.node (.node (.node (.node .nil (some ti286) .nil) (some ti158) .nil) (some ti94) (.node (.node .nil (some ti350) .nil) (some ti222) .nil)) (some ti62) (.node (.node (.node .nil (some ti318) .nil) (some ti190) (.node .nil (some ti446) .nil)) (some ti126) (.node (.node .nil (some ti382) .nil) (some ti254) .nil))))))))
noncomputable def ftL : T Func := (.node (.node (.node (.node (.node (.node (.node (.node (.node .nil (some Tryz.f255) .nil) (some Tryz.f127) .nil) (some Tryz.f63) (.node (.node .nil (some Tryz.f319) .nil) (some Tryz.f191) .nil)) (some Tryz.f31) (.node (.node (.node .nil (some Tryz.f287) .nil) (some Tryz.f159) .nil) (some Tryz.f95) (.node .nil (some Tryz.f223) .nil))) (some Tryz.f15) (.node (.node (.node (.node .nil (some Tryz.f271) .nil) (some Tryz.f143) .nil) (some Tryz.f79) (.node (.node .nil (some Tryz.f335) .nil) (some Tryz.f207) .nil)) (some Tryz.f47) (.node (.node (.node .nil (some Tryz.f303) .nil) (some Tryz.f175) .nil) (some Tryz.f111) (.node .nil (some Tryz.f239) .nil)))) (some Tryz.f7) (.node (.node (.node (.node (.node .nil (some Tryz.f263) .nil) (some Tryz.f135) .nil) (some Tryz.f71) (.node (.node .nil (some Tryz.f327) .nil) (some Tryz.f199) .nil)) (some Tryz.f39) (.node (.node (.node .nil (some Tryz.f295) .nil) (some Tryz.f167) .nil) (some Tryz.f103) (.node .nil (some Tryz.f231) .nil))) (some Tryz.f23) (.node (.node (.node (.node .nil (some Tryz.f279) .nil) (some Tryz.f151) .nil) (some Tryz.f87) (.node (.node .nil (some Tryz.f343) .nil) (some Tryz.f215) .nil)) (some Tryz.f55) (.node (.node (.node .nil (some Tryz.f311) .nil) (some Tryz.f183) .nil) (some Tryz.f119) (.node .nil (some Tryz.f247) .nil))))) (some Tryz.f3) (.node (.node (.node (.node (.node (.node .nil (some Tryz.f259) .nil) (some Tryz.f131) .nil) (some Tryz.f67) (.node (.node .nil (some Tryz.f323) .nil) (some Tryz.f195) .nil)) (some Tryz.f35) (.node (.node (.node .nil (some Tryz.f291) .nil) (some Tryz.f163) .nil) (some Tryz.f99) (.node .nil (some Tryz.f227) .nil))) (some Tryz.f19) (.node (.node (.node (.node .nil (some Tryz.f275) .nil) (some Tryz.f147) .nil) (some Tryz.f83) (.node (.node .nil (some Tryz.f339) .nil) (some Tryz.f211) .nil)) (some Tryz.f51) (.node (.node (.node .nil (some Tryz.f307) .nil) (some Tryz.f179) .nil) (some Tryz.f115) (.node .nil (some Tryz.f243) .nil)))) (some Tryz.f11) (.node (.node (.node (.node (.node .nil (some Tryz.f267) .nil) (some Tryz.f139) .nil) (some Tryz.f75) (.node (.node .nil (some Tryz.f331) .nil) (some Tryz.f203) .nil)) (some Tryz.f43) (.node (.node (.node .nil (some Tryz.f299) .nil) (some Tryz.f171) .nil) (some Tryz.f107) (.node .nil (some Tryz.f235) .nil))) (some Tryz.f27) (.node (.node (.node (.node .nil (some Tryz.f283) .nil) (some Tryz.f155) .nil) (some Tryz.f91) (.node (.node .nil (some Tryz.f347) .nil) (some Tryz.f219) .nil)) (some Tryz.f59) (.node (.node (.node .nil (some Tryz.f315) .nil) (some Tryz.f187) .nil) (some Tryz.f123) (.node .nil (some Tryz.f251) .nil)))))) (some Tryz.f1) (.node (.node (.node (.node (.node (.node (.node .nil (some Tryz.f257) .nil) (some Tryz.f129) .nil) (some Tryz.f65) (.node (.node .nil (some Tryz.f321) .nil) (some Tryz.f193) .nil)) (some Tryz.f33) (.node (.node (.node .nil (some Tryz.f289) .nil) (some Tryz.f161) .nil) (some Tryz.f97) (.node .nil (some Tryz.f225) .nil))) (some Tryz.f17) (.node (.node (.node (.node .nil (some Tryz.f273) .nil) (some Tryz.f145) .nil) (some Tryz.f81) (.node (.node .nil (some Tryz.f337) .nil) (some Tryz.f209) .nil)) (some Tryz.f49) (.node (.node (.node .nil (some Tryz.f305) .nil) (some Tryz.f177) .nil) (some Tryz.f113) (.node .nil (some Tryz.f241) .nil)))) (some Tryz.f9) (.node (.node (.node (.node (.node .nil (some Tryz.f265) .nil) (some Tryz.f137) .nil) (some Tryz.f73) (.node (.node .nil (some Tryz.f329) .nil) (some Tryz.f201) .nil)) (some Tryz.f41) (.node (.node (.node .nil (some Tryz.f297) .nil) (some Tryz.f169) .nil) (some Tryz.f105) (.node .nil (some Tryz.f233) .nil))) (some Tryz.f25) (.node (.node (.node (.node .nil (some Tryz.f281) .nil) (some Tryz.f153) .nil) (some Tryz.f89) (.node (.node .nil (some Tryz.f345) .nil) (some Tryz.f217) .nil)) (some Tryz.f57) (.node (.node (.node .nil (some Tryz.f313) .nil) (some Tryz.f185) .nil) (some Tryz.f121) (.node .nil (some Tryz.f249) .nil))))) (some Tryz.f5) (.node (.node (.node (.node (.node (.node .nil (some Tryz.f261) .nil) (some Tryz.f133) .nil) (some Tryz.f69) (.node (.node .nil (some Tryz.f325) .nil) (some Tryz.f197) .nil)) (some Tryz.f37) (.node (.node (.node .nil (some Tryz.f293) .nil) (some Tryz.f165) .nil) (some Tryz.f101) (.node .nil (some Tryz.f229) .nil))) (some Tryz.f21) (.node (.node (.node (.node .nil (some Tryz.f277) .nil) (some Tryz.f149) .nil) (some Tryz.f85) (.node (.node .nil (some Tryz.f341) .nil) (some Tryz.f213) .nil)) (some Tryz.f53) (.node (.node (.node .nil (some Tryz.f309) .nil) (some Tryz.f181) .nil) (some Tryz.f117) (.node .nil (some Tryz.f245) .nil)))) (some Tryz.f13) (.node (.node (.node (.node (.node .nil (some Tryz.f269) .nil) (some Tryz.f141) .nil) (some Tryz.f77) (.node (.node .nil (some Tryz.f333) .nil) (some Tryz.f205) .nil)) (some Tryz.f45) (.node (.node (.node .nil (some Tryz.f301) .nil) (some Tryz.f173) .nil) (some Tryz.f109) (.node .nil (some Tryz.f237) .nil))) (some Tryz.f29) (.node (.node (.node (.node .nil (some Tryz.f285) .nil) (some Tryz.f157) .nil) (some Tryz.f93) (.node (.node .nil (some Tryz.f349) .nil) (some Tryz.f221) .nil)) (some Tryz.f61) (.node (.node (.node .nil (some Tryz.f317) .nil) (some Tryz.f189) .nil) (some Tryz.f125) (.node .nil (some Tryz.f253) .nil))))))) (some Tryz.f0) (.node (.node (.node (.node (.node (.node (.node (.node .nil (some Tryz.f256) .nil) (some Tryz.f128) .nil) (some Tryz.f64) (.node (.node .nil (some Tryz.f320) .nil) (some Tryz.f192) .nil)) (some Tryz.f32) (.node (.node (.node .nil (some Tryz.f288) .nil) (some Tryz.f160) .nil) (some Tryz.f96) (.node .nil (some Tryz.f224) .nil))) (some Tryz.f16) (.node (.node (.node (.node .nil (some Tryz.f272) .nil) (some Tryz.f144) .nil) (some Tryz.f80) (.node (.node .nil (some Tryz.f336) .nil) (some Tryz.f208) .nil)) (some Tryz.f48) (.node (.node (.node .nil (some Tryz.f304) .nil) (some Tryz.f176) .nil) (some Tryz.f112) (.node .nil (some Tryz.f240) .nil)))) (some Tryz.f8) (.node (.node (.node (.node (.node .nil (some Tryz.f264) .nil) (some Tryz.f136) .nil) (some Tryz.f72) (.node (.node .nil (some Tryz.f328) .nil) (some Tryz.f200) .nil)) (some Tryz.f40) (.node (.node (.node .nil (some Tryz.f296) .nil) (some Tryz.f168) .nil) (some Tryz.f104) (.node .nil (some Tryz.f232) .nil))) (some Tryz.f24) (.node (.node (.node (.node .nil (some Tryz.f280) .nil) (some Tryz.f152) .nil) (some Tryz.f88) (.node (.node .nil (some Tryz.f344) .nil) (some Tryz.f216) .nil)) (some Tryz.f56) (.node (.node (.node .nil (some Tryz.f312) .nil) (some Tryz.f184) .nil) (some Tryz.f120) (.node .nil (some Tryz.f248) .nil))))) (some Tryz.f4) (.node (.node (.node (.node (.node (.node .nil (some Tryz.f260) .nil) (some Tryz.f132) .nil) (some Tryz.f68) (.node (.node .nil (some Tryz.f324) .nil) (some Tryz.f196) .nil)) (some Tryz.f36) (.node (.node (.node .nil (some Tryz.f292) .nil) (some Tryz.f164) .nil) (some Tryz.f100) (.node .nil (some Tryz.f228) .nil))) (some Tryz.f20) (.node (.node (.node (.node .nil (some Tryz.f276) .nil) (some Tryz.f148) .nil) (some Tryz.f84) (.node (.node .nil (some Tryz.f340) .nil) (some Tryz.f212) .nil)) (some Tryz.f52) (.node (.node (.node .nil (some Tryz.f308) .nil) (some Tryz.f180) .nil) (some Tryz.f116) (.node .nil (some Tryz.f244) .nil)))) (some Tryz.f12) (.node (.node (.node (.node (.node .nil (some Tryz.f268) .nil) (some Tryz.f140) .nil) (some Tryz.f76) (.node (.node .nil (some Tryz.f332) .nil) (some Tryz.f204) .nil)) (some Tryz.f44) (.node (.node (.node .nil (some Tryz.f300) .nil) (some Tryz.f172) .nil) (some Tryz.f108) (.node .nil (some Tryz.f236) .nil))) (some Tryz.f28) (.node (.node (.node (.node .nil (some Tryz.f284) .nil) (some Tryz.f156) .nil) (some Tryz.f92) (.node (.node .nil (some Tryz.f348) .nil) (some Tryz.f220) .nil)) (some Tryz.f60) (.node (.node (.node .nil (some Tryz.f316) .nil) (some Tryz.f188) .nil) (some Tryz.f124) (.node .nil (some Tryz.f252) .nil)))))) (some Tryz.f2) (.node (.node (.node (.node (.node (.node (.node .nil (some Tryz.f258) .nil) (some Tryz.f130) .nil) (some Tryz.f66) (.node (.node .nil (some Tryz.f322) .nil) (some Tryz.f194) .nil)) (some Tryz.f34) (.node (.node (.node .nil (some Tryz.f290) .nil) (some Tryz.f162) .nil) (some Tryz.f98) (.node .nil (some Tryz.f226) .nil))) (some Tryz.f18) (.node (.node (.node (.node .nil (some Tryz.f274) .nil) (some Tryz.f146) .nil) (some Tryz.f82) (.node (.node .nil (some Tryz.f338) .nil) (some Tryz.f210) .nil)) (some Tryz.f50) (.node (.node (.node .nil (some Tryz.f306) .nil) (some Tryz.f178) .nil) (some Tryz.f114) (.node .nil (some Tryz.f242) .nil)))) (some Tryz.f10) (.node (.node (.node (.node (.node .nil (some Tryz.f266) .nil) (some Tryz.f138) .nil) (some Tryz.f74) (.node (.node .nil (some Tryz.f330) .nil) (some Tryz.f202) .nil)) (some Tryz.f42) (.node (.node (.node .nil (some Tryz.f298) .nil) (some Tryz.f170) .nil) (some Tryz.f106) (.node .nil (some Tryz.f234) .nil))) (some Tryz.f26) (.node (.node (.node (.node .nil (some Tryz.f282) .nil) (some Tryz.f154) .nil) (some Tryz.f90) (.node (.node .nil (some Tryz.f346) .nil) (some Tryz.f218) .nil)) (some Tryz.f58) (.node (.node (.node .nil (some Tryz.f314) .nil) (some Tryz.f186) .nil) (some Tryz.f122) (.node .nil (some Tryz.f250) .nil))))) (some Tryz.f6) (.node (.node (.node (.node (.node (.node .nil (some Tryz.f262) .nil) (some Tryz.f134) .nil) (some Tryz.f70) (.node (.node .nil (some Tryz.f326) .nil) (some Tryz.f198) .nil)) (some Tryz.f38) (.node (.node (.node .nil (some Tryz.f294) .nil) (some Tryz.f166) .nil) (some Tryz.f102) (.node .nil (some Tryz.f230) .nil))) (some Tryz.f22) (.node (.node (.node (.node .nil (some Tryz.f278) .nil) (some Tryz.f150) .nil) (some Tryz.f86) (.node (.node .nil (some Tryz.f342) .nil) (some Tryz.f214) .nil)) (some Tryz.f54) (.node (.node (.node .nil (some Tryz.f310) .nil) (some Tryz.f182) .nil) (some Tryz.f118) (.node .nil (some Tryz.f246) .nil)))) (some Tryz.f14) (.node (.node (.node (.node (.node .nil (some Tryz.f270) .nil) (some Tryz.f142) .nil) (some Tryz.f78) (.node (.node .nil (some Tryz.f334) .nil) (some Tryz.f206) .nil)) (some Tryz.f46) (.node (.node (.node .nil (some Tryz.f302) .nil) (some Tryz.f174) .nil) (some Tryz.f110) (.node .nil (some Tryz.f238) .nil))) (some Tryz.f30) (.node (.node (.node (.node .nil (some Tryz.f286) .nil) (some Tryz.f158) .nil) (some Tryz.f94) (.node .nil (some Tryz.f222) .nil)) (some Tryz.f62) (.node (.node (.node .nil (some Tryz.f318) .nil) (some Tryz.f190) .nil) (some Tryz.f126) (.node .nil (some Tryz.f254) .nil))))))))
theorem x80 : XFn Tryz.prog 80 (.add .i64) := ⟨⟨Tryz.f80, (Extern.Atomic.update (Op.intArith .add) .i64 true), Tryz.func80, rfl, by decide +kernel, by kernel_rfl, by kernel_rfl, rfl⟩⟩
theorem x120 : XFn Tryz.prog 120 (.load .i64) := ⟨⟨Tryz.f120, (Extern.Atomic.loadT (.int .i64)), Tryz.func120, rfl, by decide +kernel, by kernel_rfl, by kernel_rfl, rfl⟩⟩
theorem x129 : XFn Tryz.prog 129 .mclone := ⟨⟨Tryz.f129, (Extern.MapsClone.clone), Tryz.func129, rfl, by decide +kernel, by kernel_rfl, by kernel_rfl, rfl⟩⟩
theorem x201 : XFn Tryz.prog 201 (.load .u32) := ⟨⟨Tryz.f201, (Extern.Atomic.loadT (.int .u32)), Tryz.func201, rfl, by decide +kernel, by kernel_rfl, by kernel_rfl, rfl⟩⟩
theorem x260 : XFn Tryz.prog 260 .store := ⟨⟨Tryz.f260, (Extern.Atomic.storeT), Tryz.func260, rfl, by decide +kernel, by kernel_rfl, by kernel_rfl, rfl⟩⟩
theorem x288 : XFn Tryz.prog 288 .nop := ⟨⟨Tryz.f288, (fun _ => do mark .disable; pure (.tuple #[])), Tryz.func288, rfl, by decide +kernel, by kernel_rfl, by kernel_rfl, ⟨_, rfl⟩⟩⟩
theorem x289 : XFn Tryz.prog 289 (.cas .i32) := ⟨⟨Tryz.f289, (Extern.Atomic.casT (.int .i32)), Tryz.func289, rfl, by decide +kernel, by kernel_rfl, by kernel_rfl, rfl⟩⟩
theorem x290 : XFn Tryz.prog 290 .nop := ⟨⟨Tryz.f290, (fun _ => do mark .enable; pure (.tuple #[])), Tryz.func290, rfl, by decide +kernel, by kernel_rfl, by kernel_rfl, ⟨_, rfl⟩⟩⟩
theorem x291 : XFn Tryz.prog 291 .nopA := ⟨⟨Tryz.f291, (Extern.Race.marked .acquire), Tryz.func291, rfl, by decide +kernel, by kernel_rfl, by kernel_rfl, ⟨_, rfl⟩⟩⟩
theorem x293 : XFn Tryz.prog 293 .nopA := ⟨⟨Tryz.f293, (Extern.Race.marked .releaseMerge), Tryz.func293, rfl, by decide +kernel, by kernel_rfl, by kernel_rfl, ⟨_, rfl⟩⟩⟩
theorem x294 : XFn Tryz.prog 294 (.add .i32) := ⟨⟨Tryz.f294, (Extern.Atomic.update (Op.intArith .add) .i32 true), Tryz.func294, rfl, by decide +kernel, by kernel_rfl, by kernel_rfl, rfl⟩⟩
theorem x326 : XFn Tryz.prog 326 .indexByte := ⟨⟨Tryz.f326, (Extern.BytealgIndexByte.indexByte), Tryz.func326, rfl, by decide +kernel, by kernel_rfl, by kernel_rfl, rfl⟩⟩
noncomputable def xtL : T XK := (.node (.node (.node .nil none (.node (.node (.node .nil none (.node (.node (.node .nil (some .nopA) .nil) none .nil) none .nil)) none .nil) none .nil)) none (.node (.node (.node (.node (.node (.node .nil (some .mclone) .nil) none .nil) none (.node (.node (.node .nil (some (.cas .i32)) .nil) none .nil) none .nil)) none .nil) none (.node (.node (.node .nil none (.node .nil (some (.load .u32)) .nil)) none .nil) none .nil)) none (.node (.node (.node .nil none (.node (.node (.node .nil (some .nopA) .nil) none .nil) none .nil)) none .nil) none .nil))) none (.node (.node (.node (.node (.node .nil none (.node (.node (.node .nil (some .nop) .nil) none .nil) none .nil)) none (.node (.node .nil (some (.add .i64)) .nil) none .nil)) none (.node .nil none (.node .nil none (.node .nil (some (.load .i64)) .nil)))) none (.node (.node (.node (.node (.node (.node .nil (some .store) .nil) none .nil) none .nil) none .nil) none .nil) none .nil)) none (.node (.node (.node (.node .nil none (.node (.node (.node .nil (some .nop) .nil) none .nil) none .nil)) none .nil) none .nil) none (.node (.node (.node (.node .nil none (.node (.node .nil (some .indexByte) .nil) none .nil)) none (.node (.node (.node .nil (some (.add .i32)) .nil) none .nil) none .nil)) none .nil) none .nil))))
noncomputable def E0 : Env := ⟨ttL, ftL, xtL, .nil⟩
theorem k0 : mkTI Tryz.prog [32, 97, 142, 344] 0 = some ti0 := by kernel_rfl
theorem k1 : mkTI Tryz.prog [32, 97, 142, 344] 1 = some ti1 := by kernel_rfl
theorem k2 : mkTI Tryz.prog [32, 97, 142, 344] 2 = some ti2 := by kernel_rfl
theorem k3 : mkTI Tryz.prog [32, 97, 142, 344] 3 = some ti3 := by kernel_rfl
theorem k4 : mkTI Tryz.prog [32, 97, 142, 344] 4 = some ti4 := by kernel_rfl
theorem k5 : mkTI Tryz.prog [32, 97, 142, 344] 5 = some ti5 := by kernel_rfl
theorem k6 : mkTI Tryz.prog [32, 97, 142, 344] 6 = some ti6 := by kernel_rfl
theorem k7 : mkTI Tryz.prog [32, 97, 142, 344] 7 = some ti7 := by kernel_rfl
theorem k8 : mkTI Tryz.prog [32, 97, 142, 344] 8 = some ti8 := by kernel_rfl
theorem k9 : mkTI Tryz.prog [32, 97, 142, 344] 9 = some ti9 := by kernel_rfl
theorem k10 : mkTI Tryz.prog [32, 97, 142, 344] 10 = some ti10 := by kernel_rfl
theorem k11 : mkTI Tryz.prog [32, 97, 142, 344] 11 = some ti11 := by kernel_rfl
theorem k12 : mkTI Tryz.prog [32, 97, 142, 344] 12 = some ti12 := by kernel_rfl
theorem k13 : mkTI Tryz.prog [32, 97, 142, 344] 13 = some ti13 := by kernel_rfl
theorem k14 : mkTI Tryz.prog [32, 97, 142, 344] 14 = some ti14 := by kernel_rfl
theorem k15 : mkTI Tryz.prog [32, 97, 142, 344] 15 = some ti15 := by kernel_rfl
theorem k16 : mkTI Tryz.prog [32, 97, 142, 344] 16 = some ti16 := by kernel_rfl
theorem k17 : mkTI Tryz.prog [32, 97, 142, 344] 17 = some ti17 := by kernel_rfl
theorem k18 : mkTI Tryz.prog [32, 97, 142, 344] 18 = some ti18 := by kernel_rfl
theorem k19 : mkTI Tryz.prog [32, 97, 142, 344] 19 = some ti19 := by kernel_rfl
theorem k20 : mkTI Tryz.prog [32, 97, 142, 344] 20 = some ti20 := by kernel_rfl
theorem k21 : mkTI Tryz.prog [32, 97, 142, 344] 21 = some ti21 := by kernel_rfl
theorem k22 : mkTI Tryz.prog [32, 97, 142, 344] 22 = some ti22 := by kernel_rfl
theorem k23 : mkTI Tryz.prog [32, 97, 142, 344] 23 = some ti23 := by kernel_rfl
theorem k24 : mkTI Tryz.prog [32, 97, 142, 344] 24 = some ti24 := by kernel_rfl
theorem k25 : mkTI Tryz.prog [32, 97, 142, 344] 25 = some ti25 := by kernel_rfl
theorem k26 : mkTI Tryz.prog [32, 97, 142, 344] 26 = some ti26 := by kernel_rfl
theorem k27 : mkTI Tryz.prog [32, 97, 142, 344] 27 = some ti27 := by kernel_rfl
theorem k28 : mkTI Tryz.prog [32, 97, 142, 344] 28 = some ti28 := by kernel_rfl
theorem k29 : mkTI Tryz.prog [32, 97, 142, 344] 29 = some ti29 := by kernel_rfl
theorem k30 : mkTI Tryz.prog [32, 97, 142, 344] 30 = some ti30 := by kernel_rfl
theorem k31 : mkTI Tryz.prog [32, 97, 142, 344] 31 = some ti31 := by kernel_rfl
theorem k32 : mkTI Tryz.prog [32, 97, 142, 344] 32 = some ti32 := by kernel_rfl
theorem k33 : mkTI Tryz.prog [32, 97, 142, 344] 33 = some ti33 := by kernel_rfl
theorem k34 : mkTI Tryz.prog [32, 97, 142, 344] 34 = some ti34 := by kernel_rfl
theorem k35 : mkTI Tryz.prog [32, 97, 142, 344] 35 = some ti35 := by kernel_rfl
theorem k36 : mkTI Tryz.prog [32, 97, 142, 344] 36 = some ti36 := by kernel_rfl
theorem k37 : mkTI Tryz.prog [32, 97, 142, 344] 37 = some ti37 := by kernel_rfl
theorem k38 : mkTI Tryz.prog [32, 97, 142, 344] 38 = some ti38 := by kernel_rfl
theorem k39 : mkTI Tryz.prog [32, 97, 142, 344] 39 = some ti39 := by kernel_rfl
theorem k40 : mkTI Tryz.prog [32, 97, 142, 344] 40 = some ti40 := by kernel_rfl
theorem k41 : mkTI Tryz.prog [32, 97, 142, 344] 41 = some ti41 := by kernel_rfl
theorem k42 : mkTI Tryz.prog [32, 97, 142, 344] 42 = some ti42 := by kernel_rfl
theorem k43 : mkTI Tryz.prog [32, 97, 142, 344] 43 = some ti43 := by kernel_rfl
theorem k45 : mkTI Tryz.prog [32, 97, 142, 344] 45 = some ti45 := by kernel_rfl
theorem k46 : mkTI Tryz.prog [32, 97, 142, 344] 46 = some ti46 := by kernel_rfl
theorem k47 : mkTI Tryz.prog [32, 97, 142, 344] 47 = some ti47 := by kernel_rfl
theorem k48 : mkTI Tryz.prog [32, 97, 142, 344] 48 = some ti48 := by kernel_rfl
theorem k49 : mkTI Tryz.prog [32, 97, 142, 344] 49 = some ti49 := by kernel_rfl
theorem k50 : mkTI Tryz.prog [32, 97, 142, 344] 50 = some ti50 := by kernel_rfl
theorem k51 : mkTI Tryz.prog [32, 97, 142, 344] 51 = some ti51 := by kernel_rfl
theorem k52 : mkTI Tryz.prog [32, 97, 142, 344] 52 = some ti52 := by kernel_rfl
theorem k53 : mkTI Tryz.prog [32, 97, 142, 344] 53 = some ti53 := by kernel_rfl
theorem k54 : mkTI Tryz.prog [32, 97, 142, 344] 54 = some ti54 := by kernel_rfl
theorem k55 : mkTI Tryz.prog [32, 97, 142, 344] 55 = some ti55 := by kernel_rfl
theorem k56 : mkTI Tryz.prog [32, 97, 142, 344] 56 = some ti56 := by kernel_rfl
theorem k57 : mkTI Tryz.prog [32, 97, 142, 344] 57 = some ti57 := by kernel_rfl
theorem k58 : mkTI Tryz.prog [32, 97, 142, 344] 58 = some ti58 := by kernel_rfl
theorem k59 : mkTI Tryz.prog [32, 97, 142, 344] 59 = some ti59 := by kernel_rfl
theorem k60 : mkTI Tryz.prog [32, 97, 142, 344] 60 = some ti60 := by kernel_rfl
theorem k61 : mkTI Tryz.prog [32, 97, 142, 344] 61 = some ti61 := by kernel_rfl
theorem k62 : mkTI Tryz.prog [32, 97, 142, 344] 62 = some ti62 := by kernel_rfl
theorem k63 : mkTI Tryz.prog [32, 97, 142, 344] 63 = some ti63 := by kernel_rfl
theorem k64 : mkTI Tryz.prog [32, 97, 142, 344] 64 = some ti64 := by kernel_rfl
theorem k65 : mkTI Tryz.prog [32, 97, 142, 344] 65 = some ti65 := by kernel_rfl
theorem k66 : mkTI Tryz.prog [32, 97, 142, 344] 66 = some ti66 := by kernel_rfl
theorem k67 : mkTI Tryz.prog [32, 97, 142, 344] 67 = some ti67 := by kernel_rfl
theorem k69 : mkTI Tryz.prog [32, 97, 142, 344] 69 = some ti69 := by kernel_rfl
theorem k70 : mkTI Tryz.prog [32, 97, 142, 344] 70 = some ti70 := by kernel_rfl
theorem k71 : mkTI Tryz.prog [32, 97, 142, 344] 71 = some ti71 := by kernel_rfl
theorem k72 : mkTI Tryz.prog [32, 97, 142, 344] 72 = some ti72 := by kernel_rfl
theorem k73 : mkTI Tryz.prog [32, 97, 142, 344] 73 = some ti73 := by kernel_rfl
theorem k74 : mkTI Tryz.prog [32, 97, 142, 344] 74 = some ti74 := by kernel_rfl
theorem k75 : mkTI Tryz.prog [32, 97, 142, 344] 75 = some ti75 := by kernel_rfl
theorem k76 : mkTI Tryz.prog [32, 97, 142, 344] 76 = some ti76 := by kernel_rfl
theorem k77 : mkTI Tryz.prog [32, 97, 142, 344] 77 = some ti77 := by kernel_rfl
theorem k78 : mkTI Tryz.prog [32, 97, 142, 344] 78 = some ti78 := by kernel_rfl
theorem k79 : mkTI Tryz.prog [32, 97, 142, 344] 79 = some ti79 := by kernel_rfl
theorem k80 : mkTI Tryz.prog [32, 97, 142, 344] 80 = some ti80 := by kernel_rfl
theorem k81 : mkTI Tryz.prog [32, 97, 142, 344] 81 = some ti81 := by kernel_rfl
theorem k83 : mkTI Tryz.prog [32, 97, 142, 344] 83 = some ti83 := by kernel_rfl
theorem k84 : mkTI Tryz.prog [32, 97, 142, 344] 84 = some ti84 := by kernel_rfl
theorem k85 : mkTI Tryz.prog [32, 97, 142, 344] 85 = some ti85 := by kernel_rfl
theorem k86 : mkTI Tryz.prog [32, 97, 142, 344] 86 = some ti86 := by kernel_rfl
theorem k87 : mkTI Tryz.prog [32, 97, 142, 344] 87 = some ti87 := by kernel_rfl
theorem k88 : mkTI Tryz.prog [32, 97, 142, 344] 88 = some ti88 := by kernel_rfl
theorem k89 : mkTI Tryz.prog [32, 97, 142, 344] 89 = some ti89 := by kernel_rfl
theorem k90 : mkTI Tryz.prog [32, 97, 142, 344] 90 = some ti90 := by kernel_rfl
theorem k91 : mkTI Tryz.prog [32, 97, 142, 344] 91 = some ti91 := by kernel_rfl
theorem k92 : mkTI Tryz.prog [32, 97, 142, 344] 92 = some ti92 := by kernel_rfl
theorem k93 : mkTI Tryz.prog [32, 97, 142, 344] 93 = some ti93 := by kernel_rfl
theorem k94 : mkTI Tryz.prog [32, 97, 142, 344] 94 = some ti94 := by kernel_rfl
theorem k95 : mkTI Tryz.prog [32, 97, 142, 344] 95 = some ti95 := by kernel_rfl
theorem k96 : mkTI Tryz.prog [32, 97, 142, 344] 96 = some ti96 := by kernel_rfl
theorem k97 : mkTI Tryz.prog [32, 97, 142, 344] 97 = some ti97 := by kernel_rfl
theorem k98 : mkTI Tryz.prog [32, 97, 142, 344] 98 = some ti98 := by kernel_rfl
theorem k100 : mkTI Tryz.prog [32, 97, 142, 344] 100 = some ti100 := by kernel_rfl
theorem k102 : mkTI Tryz.prog [32, 97, 142, 344] 102 = some ti102 := by kernel_rfl
theorem k103 : mkTI Tryz.prog [32, 97, 142, 344] 103 = some ti103 := by kernel_rfl
theorem k104 : mkTI Tryz.prog [32, 97, 142, 344] 104 = some ti104 := by kernel_rfl
theorem k105 : mkTI Tryz.prog [32, 97, 142, 344] 105 = some ti105 := by kernel_rfl
theorem k106 : mkTI Tryz.prog [32, 97, 142, 344] 106 = some ti106 := by kernel_rfl
theorem k107 : mkTI Tryz.prog [32, 97, 142, 344] 107 = some ti107 := by kernel_rfl
theorem k108 : mkTI Tryz.prog [32, 97, 142, 344] 108 = some ti108 := by kernel_rfl
theorem k109 : mkTI Tryz.prog [32, 97, 142, 344] 109 = some ti109 := by kernel_rfl
theorem k110 : mkTI Tryz.prog [32, 97, 142, 344] 110 = some ti110 := by kernel_rfl
theorem k111 : mkTI Tryz.prog [32, 97, 142, 344] 111 = some ti111 := by kernel_rfl
theorem k112 : mkTI Tryz.prog [32, 97, 142, 344] 112 = some ti112 := by kernel_rfl
theorem k113 : mkTI Tryz.prog [32, 97, 142, 344] 113 = some ti113 := by kernel_rfl
theorem k114 : mkTI Tryz.prog [32, 97, 142, 344] 114 = some ti114 := by kernel_rfl
theorem k115 : mkTI Tryz.prog [32, 97, 142, 344] 115 = some ti115 := by kernel_rfl
theorem k116 : mkTI Tryz.prog [32, 97, 142, 344] 116 = some ti116 := by kernel_rfl
theorem k117 : mkTI Tryz.prog [32, 97, 142, 344] 117 = some ti117 := by kernel_rfl
theorem k118 : mkTI Tryz.prog [32, 97, 142, 344] 118 = some ti118 := by kernel_rfl
theorem k119 : mkTI Tryz.prog [32, 97, 142, 344] 119 = some ti119 := by kernel_rfl
theorem k120 : mkTI Tryz.prog [32, 97, 142, 344] 120 = some ti120 := by kernel_rfl
theorem k121 : mkTI Tryz.prog [32, 97, 142, 344] 121 = some ti121 := by kernel_rfl
theorem k122 : mkTI Tryz.prog [32, 97, 142, 344] 122 = some ti122 := by kernel_rfl
theorem k123 : mkTI Tryz.prog [32, 97, 142, 344] 123 = some ti123 := by kernel_rfl
theorem k124 : mkTI Tryz.prog [32, 97, 142, 344] 124 = some ti124 := by kernel_rfl
theorem k125 : mkTI Tryz.prog [32, 97, 142, 344] 125 = some ti125 := by kernel_rfl
theorem k126 : mkTI Tryz.prog [32, 97, 142, 344] 126 = some ti126 := by kernel_rfl
theorem k127 : mkTI Tryz.prog [32, 97, 142, 344] 127 = some ti127 := by kernel_rfl
theorem k128 : mkTI Tryz.prog [32, 97, 142, 344] 128 = some ti128 := by kernel_rfl
theorem k129 : mkTI Tryz.prog [32, 97, 142, 344] 129 = some ti129 := by kernel_rfl
theorem k130 : mkTI Tryz.prog [32, 97, 142, 344] 130 = some ti130 := by kernel_rfl
theorem k131 : mkTI Tryz.prog [32, 97, 142, 344] 131 = some ti131 := by kernel_rfl
theorem k132 : mkTI Tryz.prog [32, 97, 142, 344] 132 = some ti132 := by kernel_rfl
theorem k133 : mkTI Tryz.prog [32, 97, 142, 344] 133 = some ti133 := by kernel_rfl
theorem k134 : mkTI Tryz.prog [32, 97, 142, 344] 134 = some ti134 := by kernel_rfl
theorem k135 : mkTI Tryz.prog [32, 97, 142, 344] 135 = some ti135 := by kernel_rfl
theorem k137 : mkTI Tryz.prog [32, 97, 142, 344] 137 = some ti137 := by kernel_rfl
theorem k139 : mkTI Tryz.prog [32, 97, 142, 344] 139 = some ti139 := by kernel_rfl
theorem k140 : mkTI Tryz.prog [32, 97, 142, 344] 140 = some ti140 := by kernel_rfl
theorem k141 : mkTI Tryz.prog [32, 97, 142, 344] 141 = some ti141 := by kernel_rfl
theorem k142 : mkTI Tryz.prog [32, 97, 142, 344] 142 = some ti142 := by kernel_rfl
theorem k143 : mkTI Tryz.prog [32, 97, 142, 344] 143 = some ti143 := by kernel_rfl
theorem k144 : mkTI Tryz.prog [32, 97, 142, 344] 144 = some ti144 := by kernel_rfl
theorem k145 : mkTI Tryz.prog [32, 97, 142, 344] 145 = some ti145 := by kernel_rfl
theorem k146 : mkTI Tryz.prog [32, 97, 142, 344] 146 = some ti146 := by kernel_rfl
theorem k147 : mkTI Tryz.prog [32, 97, 142, 344] 147 = some ti147 := by kernel_rfl
theorem k148 : mkTI Tryz.prog [32, 97, 142, 344] 148 = some ti148 := by kernel_rfl
theorem k149 : mkTI Tryz.prog [32, 97, 142, 344] 149 = some ti149 := by kernel_rfl
theorem k150 : mkTI Tryz.prog [32, 97, 142, 344] 150 = some ti150 := by kernel_rfl
theorem k151 : mkTI Tryz.prog [32, 97, 142, 344] 151 = some ti151 := by kernel_rfl
theorem k152 : mkTI Tryz.prog [32, 97, 142, 344] 152 = some ti152 := by kernel_rfl
theorem k153 : mkTI Tryz.prog [32, 97, 142, 344] 153 = some ti153 := by kernel_rfl
theorem k154 : mkTI Tryz.prog [32, 97, 142, 344] 154 = some ti154 := by kernel_rfl
theorem k156 : mkTI Tryz.prog [32, 97, 142, 344] 156 = some ti156 := by kernel_rfl
theorem k157 : mkTI Tryz.prog [32, 97, 142, 344] 157 = some ti157 := by kernel_rfl
theorem k158 : mkTI Tryz.prog [32, 97, 142, 344] 158 = some ti158 := by kernel_rfl
theorem k159 : mkTI Tryz.prog [32, 97, 142, 344] 159 = some ti159 := by kernel_rfl
theorem k160 : mkTI Tryz.prog [32, 97, 142, 344] 160 = some ti160 := by kernel_rfl
theorem k162 : mkTI Tryz.prog [32, 97, 142, 344] 162 = some ti162 := by kernel_rfl
theorem k164 : mkTI Tryz.prog [32, 97, 142, 344] 164 = some ti164 := by kernel_rfl
theorem k165 : mkTI Tryz.prog [32, 97, 142, 344] 165 = some ti165 := by kernel_rfl
theorem k166 : mkTI Tryz.prog [32, 97, 142, 344] 166 = some ti166 := by kernel_rfl
theorem k167 : mkTI Tryz.prog [32, 97, 142, 344] 167 = some ti167 := by kernel_rfl
theorem k168 : mkTI Tryz.prog [32, 97, 142, 344] 168 = some ti168 := by kernel_rfl
theorem k169 : mkTI Tryz.prog [32, 97, 142, 344] 169 = some ti169 := by kernel_rfl
theorem k170 : mkTI Tryz.prog [32, 97, 142, 344] 170 = some ti170 := by kernel_rfl
theorem k171 : mkTI Tryz.prog [32, 97, 142, 344] 171 = some ti171 := by kernel_rfl
theorem k172 : mkTI Tryz.prog [32, 97, 142, 344] 172 = some ti172 := by kernel_rfl
theorem k173 : mkTI Tryz.prog [32, 97, 142, 344] 173 = some ti173 := by kernel_rfl
theorem k174 : mkTI Tryz.prog [32, 97, 142, 344] 174 = some ti174 := by kernel_rfl
theorem k175 : mkTI Tryz.prog [32, 97, 142, 344] 175 = some ti175 := by kernel_rfl
theorem k176 : mkTI Tryz.prog [32, 97, 142, 344] 176 = some ti176 := by kernel_rfl
theorem k177 : mkTI Tryz.prog [32, 97, 142, 344] 177 = some ti177 := by kernel_rfl
theorem k178 : mkTI Tryz.prog [32, 97, 142, 344] 178 = some ti178 := by kernel_rfl
theorem k180 : mkTI Tryz.prog [32, 97, 142, 344] 180 = some ti180 := by kernel_rfl
theorem k181 : mkTI Tryz.prog [32, 97, 142, 344] 181 = some ti181 := by kernel_rfl
theorem k182 : mkTI Tryz.prog [32, 97, 142, 344] 182 = some ti182 := by kernel_rfl
theorem k184 : mkTI Tryz.prog [32, 97, 142, 344] 184 = some ti184 := by kernel_rfl
theorem k185 : mkTI Tryz.prog [32, 97, 142, 344] 185 = some ti185 := by kernel_rfl
theorem k186 : mkTI Tryz.prog [32, 97, 142, 344] 186 = some ti186 := by kernel_rfl
theorem k187 : mkTI Tryz.prog [32, 97, 142, 344] 187 = some ti187 := by kernel_rfl
theorem k188 : mkTI Tryz.prog [32, 97, 142, 344] 188 = some ti188 := by kernel_rfl
theorem k190 : mkTI Tryz.prog [32, 97, 142, 344] 190 = some ti190 := by kernel_rfl
theorem k192 : mkTI Tryz.prog [32, 97, 142, 344] 192 = some ti192 := by kernel_rfl
theorem k193 : mkTI Tryz.prog [32, 97, 142, 344] 193 = some ti193 := by kernel_rfl
theorem k194 : mkTI Tryz.prog [32, 97, 142, 344] 194 = some ti194 := by kernel_rfl
theorem k195 : mkTI Tryz.prog [32, 97, 142, 344] 195 = some ti195 := by kernel_rfl
theorem k196 : mkTI Tryz.prog [32, 97, 142, 344] 196 = some ti196 := by kernel_rfl
theorem k197 : mkTI Tryz.prog [32, 97, 142, 344] 197 = some ti197 := by kernel_rfl
theorem k198 : mkTI Tryz.prog [32, 97, 142, 344] 198 = some ti198 := by kernel_rfl
theorem k199 : mkTI Tryz.prog [32, 97, 142, 344] 199 = some ti199 := by kernel_rfl
theorem k200 : mkTI Tryz.prog [32, 97, 142, 344] 200 = some ti200 := by kernel_rfl
theorem k201 : mkTI Tryz.prog [32, 97, 142, 344] 201 = some ti201 := by kernel_rfl
theorem k203 : mkTI Tryz.prog [32, 97, 142, 344] 203 = some ti203 := by kernel_rfl
theorem k204 : mkTI Tryz.prog [32, 97, 142, 344] 204 = some ti204 := by kernel_rfl
theorem k205 : mkTI Tryz.prog [32, 97, 142, 344] 205 = some ti205 := by kernel_rfl
theorem k206 : mkTI Tryz.prog [32, 97, 142, 344] 206 = some ti206 := by kernel_rfl
theorem k207 : mkTI Tryz.prog [32, 97, 142, 344] 207 = some ti207 := by kernel_rfl
theorem k208 : mkTI Tryz.prog [32, 97, 142, 344] 208 = some ti208 := by kernel_rfl
theorem k209 : mkTI Tryz.prog [32, 97, 142, 344] 209 = some ti209 := by kernel_rfl
theorem k211 : mkTI Tryz.prog [32, 97, 142, 344] 211 = some ti211 := by kernel_rfl
theorem k212 : mkTI Tryz.prog [32, 97, 142, 344] 212 = some ti212 := by kernel_rfl
theorem k213 : mkTI Tryz.prog [32, 97, 142, 344] 213 = some ti213 := by kernel_rfl
theorem k214 : mkTI Tryz.prog [32, 97, 142, 344] 214 = some ti214 := by kernel_rfl
theorem k215 : mkTI Tryz.prog [32, 97, 142, 344] 215 = some ti215 := by kernel_rfl
theorem k216 : mkTI Tryz.prog [32, 97, 142, 344] 216 = some ti216 := by kernel_rfl
theorem k217 : mkTI Tryz.prog [32, 97, 142, 344] 217 = some ti217 := by kernel_rfl
theorem k218 : mkTI Tryz.prog [32, 97, 142, 344] 218 = some ti218 := by kernel_rfl
theorem k219 : mkTI Tryz.prog [32, 97, 142, 344] 219 = some ti219 := by kernel_rfl
theorem k220 : mkTI Tryz.prog [32, 97, 142, 344] 220 = some ti220 := by kernel_rfl
theorem k221 : mkTI Tryz.prog [32, 97, 142, 344] 221 = some ti221 := by kernel_rfl
theorem k222 : mkTI Tryz.prog [32, 97, 142, 344] 222 = some ti222 := by kernel_rfl
theorem k224 : mkTI Tryz.prog [32, 97, 142, 344] 224 = some ti224 := by kernel_rfl
theorem k226 : mkTI Tryz.prog [32, 97, 142, 344] 226 = some ti226 := by kernel_rfl
theorem k227 : mkTI Tryz.prog [32, 97, 142, 344] 227 = some ti227 := by kernel_rfl
theorem k229 : mkTI Tryz.prog [32, 97, 142, 344] 229 = some ti229 := by kernel_rfl
theorem k230 : mkTI Tryz.prog [32, 97, 142, 344] 230 = some ti230 := by kernel_rfl
theorem k231 : mkTI Tryz.prog [32, 97, 142, 344] 231 = some ti231 := by kernel_rfl
theorem k232 : mkTI Tryz.prog [32, 97, 142, 344] 232 = some ti232 := by kernel_rfl
theorem k234 : mkTI Tryz.prog [32, 97, 142, 344] 234 = some ti234 := by kernel_rfl
theorem k235 : mkTI Tryz.prog [32, 97, 142, 344] 235 = some ti235 := by kernel_rfl
theorem k236 : mkTI Tryz.prog [32, 97, 142, 344] 236 = some ti236 := by kernel_rfl
theorem k237 : mkTI Tryz.prog [32, 97, 142, 344] 237 = some ti237 := by kernel_rfl
theorem k239 : mkTI Tryz.prog [32, 97, 142, 344] 239 = some ti239 := by kernel_rfl
theorem k241 : mkTI Tryz.prog [32, 97, 142, 344] 241 = some ti241 := by kernel_rfl
theorem k242 : mkTI Tryz.prog [32, 97, 142, 344] 242 = some ti242 := by kernel_rfl
theorem k243 : mkTI Tryz.prog [32, 97, 142, 344] 243 = some ti243 := by kernel_rfl
theorem k244 : mkTI Tryz.prog [32, 97, 142, 344] 244 = some ti244 := by kernel_rfl
theorem k245 : mkTI Tryz.prog [32, 97, 142, 344] 245 = some ti245 := by kernel_rfl
theorem k246 : mkTI Tryz.prog [32, 97, 142, 344] 246 = some ti246 := by kernel_rfl
theorem k247 : mkTI Tryz.prog [32, 97, 142, 344] 247 = some ti247 := by kernel_rfl
theorem k248 : mkTI Tryz.prog [32, 97, 142, 344] 248 = some ti248 := by kernel_rfl
theorem k249 : mkTI Tryz.prog [32, 97, 142, 344] 249 = some ti249 := by kernel_rfl
theorem k250 : mkTI Tryz.prog [32, 97, 142, 344] 250 = some ti250 := by kernel_rfl
theorem k251 : mkTI Tryz.prog [32, 97, 142, 344] 251 = some ti251 := by kernel_rfl
theorem k252 : mkTI Tryz.prog [32, 97, 142, 344] 252 = some ti252 := by kernel_rfl
theorem k253 : mkTI Tryz.prog [32, 97, 142, 344] 253 = some ti253 := by kernel_rfl
theorem k254 : mkTI Tryz.prog [32, 97, 142, 344] 254 = some ti254 := by kernel_rfl
theorem k255 : mkTI Tryz.prog [32, 97, 142, 344] 255 = some ti255 := by kernel_rfl
theorem k257 : mkTI Tryz.prog [32, 97, 142, 344] 257 = some ti257 := by kernel_rfl
theorem k258 : mkTI Tryz.prog [32, 97, 142, 344] 258 = some ti258 := by kernel_rfl
theorem k259 : mkTI Tryz.prog [32, 97, 142, 344] 259 = some ti259 := by kernel_rfl
theorem k260 : mkTI Tryz.prog [32, 97, 142, 344] 260 = some ti260 := by kernel_rfl
theorem k261 : mkTI Tryz.prog [32, 97, 142, 344] 261 = some ti261 := by kernel_rfl
theorem k263 : mkTI Tryz.prog [32, 97, 142, 344] 263 = some ti263 := by kernel_rfl
theorem k264 : mkTI Tryz.prog [32, 97, 142, 344] 264 = some ti264 := by kernel_rfl
theorem k265 : mkTI Tryz.prog [32, 97, 142, 344] 265 = some ti265 := by kernel_rfl
theorem k266 : mkTI Tryz.prog [32, 97, 142, 344] 266 = some ti266 := by kernel_rfl
theorem k267 : mkTI Tryz.prog [32, 97, 142, 344] 267 = some ti267 := by kernel_rfl
theorem k268 : mkTI Tryz.prog [32, 97, 142, 344] 268 = some ti268 := by kernel_rfl
theorem k270 : mkTI Tryz.prog [32, 97, 142, 344] 270 = some ti270 := by kernel_rfl
theorem k271 : mkTI Tryz.prog [32, 97, 142, 344] 271 = some ti271 := by kernel_rfl
theorem k272 : mkTI Tryz.prog [32, 97, 142, 344] 272 = some ti272 := by kernel_rfl
theorem k273 : mkTI Tryz.prog [32, 97, 142, 344] 273 = some ti273 := by kernel_rfl
theorem k275 : mkTI Tryz.prog [32, 97, 142, 344] 275 = some ti275 := by kernel_rfl
theorem k276 : mkTI Tryz.prog [32, 97, 142, 344] 276 = some ti276 := by kernel_rfl
theorem k277 : mkTI Tryz.prog [32, 97, 142, 344] 277 = some ti277 := by kernel_rfl
theorem k278 : mkTI Tryz.prog [32, 97, 142, 344] 278 = some ti278 := by kernel_rfl
theorem k279 : mkTI Tryz.prog [32, 97, 142, 344] 279 = some ti279 := by kernel_rfl
theorem k280 : mkTI Tryz.prog [32, 97, 142, 344] 280 = some ti280 := by kernel_rfl
theorem k282 : mkTI Tryz.prog [32, 97, 142, 344] 282 = some ti282 := by kernel_rfl
theorem k283 : mkTI Tryz.prog [32, 97, 142, 344] 283 = some ti283 := by kernel_rfl
theorem k284 : mkTI Tryz.prog [32, 97, 142, 344] 284 = some ti284 := by kernel_rfl
theorem k285 : mkTI Tryz.prog [32, 97, 142, 344] 285 = some ti285 := by kernel_rfl
theorem k286 : mkTI Tryz.prog [32, 97, 142, 344] 286 = some ti286 := by kernel_rfl
theorem k287 : mkTI Tryz.prog [32, 97, 142, 344] 287 = some ti287 := by kernel_rfl
theorem k288 : mkTI Tryz.prog [32, 97, 142, 344] 288 = some ti288 := by kernel_rfl
theorem k290 : mkTI Tryz.prog [32, 97, 142, 344] 290 = some ti290 := by kernel_rfl
theorem k291 : mkTI Tryz.prog [32, 97, 142, 344] 291 = some ti291 := by kernel_rfl
theorem k292 : mkTI Tryz.prog [32, 97, 142, 344] 292 = some ti292 := by kernel_rfl
theorem k293 : mkTI Tryz.prog [32, 97, 142, 344] 293 = some ti293 := by kernel_rfl
theorem k294 : mkTI Tryz.prog [32, 97, 142, 344] 294 = some ti294 := by kernel_rfl
theorem k295 : mkTI Tryz.prog [32, 97, 142, 344] 295 = some ti295 := by kernel_rfl
theorem k296 : mkTI Tryz.prog [32, 97, 142, 344] 296 = some ti296 := by kernel_rfl
theorem k297 : mkTI Tryz.prog [32, 97, 142, 344] 297 = some ti297 := by kernel_rfl
theorem k299 : mkTI Tryz.prog [32, 97, 142, 344] 299 = some ti299 := by kernel_rfl
theorem k300 : mkTI Tryz.prog [32, 97, 142, 344] 300 = some ti300 := by kernel_rfl
theorem k301 : mkTI Tryz.prog [32, 97, 142, 344] 301 = some ti301 := by kernel_rfl
theorem k302 : mkTI Tryz.prog [32, 97, 142, 344] 302 = some ti302 := by kernel_rfl
theorem k303 : mkTI Tryz.prog [32, 97, 142, 344] 303 = some ti303 := by kernel_rfl
theorem k304 : mkTI Tryz.prog [32, 97, 142, 344] 304 = some ti304 := by kernel_rfl
theorem k305 : mkTI Tryz.prog [32, 97, 142, 344] 305 = some ti305 := by kernel_rfl
theorem k306 : mkTI Tryz.prog [32, 97, 142, 344] 306 = some ti306 := by kernel_rfl
theorem k308 : mkTI Tryz.prog [32, 97, 142, 344] 308 = some ti308 := by kernel_rfl
theorem k309 : mkTI Tryz.prog [32, 97, 142, 344] 309 = some ti309 := by kernel_rfl
theorem k310 : mkTI Tryz.prog [32, 97, 142, 344] 310 = some ti310 := by kernel_rfl
theorem k311 : mkTI Tryz.prog [32, 97, 142, 344] 311 = some ti311 := by kernel_rfl
theorem k312 : mkTI Tryz.prog [32, 97, 142, 344] 312 = some ti312 := by kernel_rfl
theorem k314 : mkTI Tryz.prog [32, 97, 142, 344] 314 = some ti314 := by kernel_rfl
theorem k315 : mkTI Tryz.prog [32, 97, 142, 344] 315 = some ti315 := by kernel_rfl
theorem k316 : mkTI Tryz.prog [32, 97, 142, 344] 316 = some ti316 := by kernel_rfl
theorem k317 : mkTI Tryz.prog [32, 97, 142, 344] 317 = some ti317 := by kernel_rfl
theorem k318 : mkTI Tryz.prog [32, 97, 142, 344] 318 = some ti318 := by kernel_rfl
theorem k319 : mkTI Tryz.prog [32, 97, 142, 344] 319 = some ti319 := by kernel_rfl
theorem k320 : mkTI Tryz.prog [32, 97, 142, 344] 320 = some ti320 := by kernel_rfl
theorem k321 : mkTI Tryz.prog [32, 97, 142, 344] 321 = some ti321 := by kernel_rfl
theorem k323 : mkTI Tryz.prog [32, 97, 142, 344] 323 = some ti323 := by kernel_rfl
theorem k324 : mkTI Tryz.prog [32, 97, 142, 344] 324 = some ti324 := by kernel_rfl
theorem k325 : mkTI Tryz.prog [32, 97, 142, 344] 325 = some ti325 := by kernel_rfl
theorem k327 : mkTI Tryz.prog [32, 97, 142, 344] 327 = some ti327 := by kernel_rfl
theorem k328 : mkTI Tryz.prog [32, 97, 142, 344] 328 = some ti328 := by kernel_rfl
theorem k329 : mkTI Tryz.prog [32, 97, 142, 344] 329 = some ti329 := by kernel_rfl
theorem k330 : mkTI Tryz.prog [32, 97, 142, 344] 330 = some ti330 := by kernel_rfl
theorem k331 : mkTI Tryz.prog [32, 97, 142, 344] 331 = some ti331 := by kernel_rfl
theorem k332 : mkTI Tryz.prog [32, 97, 142, 344] 332 = some ti332 := by kernel_rfl
theorem k333 : mkTI Tryz.prog [32, 97, 142, 344] 333 = some ti333 := by kernel_rfl
theorem k335 : mkTI Tryz.prog [32, 97, 142, 344] 335 = some ti335 := by kernel_rfl
theorem k336 : mkTI Tryz.prog [32, 97, 142, 344] 336 = some ti336 := by kernel_rfl
theorem k337 : mkTI Tryz.prog [32, 97, 142, 344] 337 = some ti337 := by kernel_rfl
theorem k338 : mkTI Tryz.prog [32, 97, 142, 344] 338 = some ti338 := by kernel_rfl
theorem k339 : mkTI Tryz.prog [32, 97, 142, 344] 339 = some ti339 := by kernel_rfl
theorem k341 : mkTI Tryz.prog [32, 97, 142, 344] 341 = some ti341 := by kernel_rfl
theorem k343 : mkTI Tryz.prog [32, 97, 142, 344] 343 = some ti343 := by kernel_rfl
theorem k344 : mkTI Tryz.prog [32, 97, 142, 344] 344 = some ti344 := by kernel_rfl
theorem k345 : mkTI Tryz.prog [32, 97, 142, 344] 345 = some ti345 := by kernel_rfl
theorem k346 : mkTI Tryz.prog [32, 97, 142, 344] 346 = some ti346 := by kernel_rfl
theorem k347 : mkTI Tryz.prog [32, 97, 142, 344] 347 = some ti347 := by kernel_rfl
theorem k348 : mkTI Tryz.prog [32, 97, 142, 344] 348 = some ti348 := by kernel_rfl
theorem k349 : mkTI Tryz.prog [32, 97, 142, 344] 349 = some ti349 := by kernel_rfl
theorem k350 : mkTI Tryz.prog [32, 97, 142, 344] 350 = some ti350 := by kernel_rfl
theorem k351 : mkTI Tryz.prog [32, 97, 142, 344] 351 = some ti351 := by kernel_rfl
theorem k353 : mkTI Tryz.prog [32, 97, 142, 344] 353 = some ti353 := by kernel_rfl
theorem k354 : mkTI Tryz.prog [32, 97, 142, 344] 354 = some ti354 := by kernel_rfl
theorem k355 : mkTI Tryz.prog [32, 97, 142, 344] 355 = some ti355 := by kernel_rfl
theorem k356 : mkTI Tryz.prog [32, 97, 142, 344] 356 = some ti356 := by kernel_rfl
theorem k357 : mkTI Tryz.prog [32, 97, 142, 344] 357 = some ti357 := by kernel_rfl
theorem k358 : mkTI Tryz.prog [32, 97, 142, 344] 358 = some ti358 := by kernel_rfl
theorem k359 : mkTI Tryz.prog [32, 97, 142, 344] 359 = some ti359 := by kernel_rfl
theorem k360 : mkTI Tryz.prog [32, 97, 142, 344] 360 = some ti360 := by kernel_rfl
theorem k361 : mkTI Tryz.prog [32, 97, 142, 344] 361 = some ti361 := by kernel_rfl
theorem k362 : mkTI Tryz.prog [32, 97, 142, 344] 362 = some ti362 := by kernel_rfl
theorem k364 : mkTI Tryz.prog [32, 97, 142, 344] 364 = some ti364 := by kernel_rfl
theorem k365 : mkTI Tryz.prog [32, 97, 142, 344] 365 = some ti365 := by kernel_rfl
theorem k366 : mkTI Tryz.prog [32, 97, 142, 344] 366 = some ti366 := by kernel_rfl
theorem k367 : mkTI Tryz.prog [32, 97, 142, 344] 367 = some ti367 := by kernel_rfl
theorem k368 : mkTI Tryz.prog [32, 97, 142, 344] 368 = some ti368 := by kernel_rfl
theorem k370 : mkTI Tryz.prog [32, 97, 142, 344] 370 = some ti370 := by kernel_rfl
theorem k371 : mkTI Tryz.prog [32, 97, 142, 344] 371 = some ti371 := by kernel_rfl
theorem k372 : mkTI Tryz.prog [32, 97, 142, 344] 372 = some ti372 := by kernel_rfl
theorem k373 : mkTI Tryz.prog [32, 97, 142, 344] 373 = some ti373 := by kernel_rfl
theorem k374 : mkTI Tryz.prog [32, 97, 142, 344] 374 = some ti374 := by kernel_rfl
theorem k376 : mkTI Tryz.prog [32, 97, 142, 344] 376 = some ti376 := by kernel_rfl
theorem k377 : mkTI Tryz.prog [32, 97, 142, 344] 377 = some ti377 := by kernel_rfl
theorem k378 : mkTI Tryz.prog [32, 97, 142, 344] 378 = some ti378 := by kernel_rfl
theorem k379 : mkTI Tryz.prog [32, 97, 142, 344] 379 = some ti379 := by kernel_rfl
theorem k380 : mkTI Tryz.prog [32, 97, 142, 344] 380 = some ti380 := by kernel_rfl
theorem k381 : mkTI Tryz.prog [32, 97, 142, 344] 381 = some ti381 := by kernel_rfl
theorem k382 : mkTI Tryz.prog [32, 97, 142, 344] 382 = some ti382 := by kernel_rfl
theorem k383 : mkTI Tryz.prog [32, 97, 142, 344] 383 = some ti383 := by kernel_rfl
theorem k384 : mkTI Tryz.prog [32, 97, 142, 344] 384 = some ti384 := by kernel_rfl
theorem k385 : mkTI Tryz.prog [32, 97, 142, 344] 385 = some ti385 := by kernel_rfl
theorem k386 : mkTI Tryz.prog [32, 97, 142, 344] 386 = some ti386 := by kernel_rfl
theorem k387 : mkTI Tryz.prog [32, 97, 142, 344] 387 = some ti387 := by kernel_rfl
theorem k388 : mkTI Tryz.prog [32, 97, 142, 344] 388 = some ti388 := by kernel_rfl
theorem k389 : mkTI Tryz.prog [32, 97, 142, 344] 389 = some ti389 := by kernel_rfl
theorem k390 : mkTI Tryz.prog [32, 97, 142, 344] 390 = some ti390 := by kernel_rfl
theorem k391 : mkTI Tryz.prog [32, 97, 142, 344] 391 = some ti391 := by kernel_rfl
theorem k392 : mkTI Tryz.prog [32, 97, 142, 344] 392 = some ti392 := by kernel_rfl
theorem k393 : mkTI Tryz.prog [32, 97, 142, 344] 393 = some ti393 := by kernel_rfl
theorem k394 : mkTI Tryz.prog [32, 97, 142, 344] 394 = some ti394 := by kernel_rfl
theorem k395 : mkTI Tryz.prog [32, 97, 142, 344] 395 = some ti395 := by kernel_rfl
theorem k396 : mkTI Tryz.prog [32, 97, 142, 344] 396 = some ti396 := by kernel_rfl
theorem k397 : mkTI Tryz.prog [32, 97, 142, 344] 397 = some ti397 := by kernel_rfl
theorem k398 : mkTI Tryz.prog [32, 97, 142, 344] 398 = some ti398 := by kernel_rfl
theorem k399 : mkTI Tryz.prog [32, 97, 142, 344] 399 = some ti399 := by kernel_rfl
theorem k400 : mkTI Tryz.prog [32, 97, 142, 344] 400 = some ti400 := by kernel_rfl
theorem k401 : mkTI Tryz.prog [32, 97, 142, 344] 401 = some ti401 := by kernel_rfl
theorem k402 : mkTI Tryz.prog [32, 97, 142, 344] 402 = some ti402 := by kernel_rfl
theorem k403 : mkTI Tryz.prog [32, 97, 142, 344] 403 = some ti403 := by kernel_rfl
theorem k404 : mkTI Tryz.prog [32, 97, 142, 344] 404 = some ti404 := by kernel_rfl
theorem k405 : mkTI Tryz.prog [32, 97, 142, 344] 405 = some ti405 := by kernel_rfl
theorem k406 : mkTI Tryz.prog [32, 97, 142, 344] 406 = some ti406 := by kernel_rfl
theorem k407 : mkTI Tryz.prog [32, 97, 142, 344] 407 = some ti407 := by kernel_rfl
theorem k408 : mkTI Tryz.prog [32, 97, 142, 344] 408 = some ti408 := by kernel_rfl
theorem k409 : mkTI Tryz.prog [32, 97, 142, 344] 409 = some ti409 := by kernel_rfl
theorem k410 : mkTI Tryz.prog [32, 97, 142, 344] 410 = some ti410 := by kernel_rfl
theorem k411 : mkTI Tryz.prog [32, 97, 142, 344] 411 = some ti411 := by kernel_rfl
theorem k412 : mkTI Tryz.prog [32, 97, 142, 344] 412 = some ti412 := by kernel_rfl
theorem k413 : mkTI Tryz.prog [32, 97, 142, 344] 413 = some ti413 := by kernel_rfl
theorem k415 : mkTI Tryz.prog [32, 97, 142, 344] 415 = some ti415 := by kernel_rfl
theorem k416 : mkTI Tryz.prog [32, 97, 142, 344] 416 = some ti416 := by kernel_rfl
theorem k417 : mkTI Tryz.prog [32, 97, 142, 344] 417 = some ti417 := by kernel_rfl
theorem k418 : mkTI Tryz.prog [32, 97, 142, 344] 418 = some ti418 := by kernel_rfl
theorem k419 : mkTI Tryz.prog [32, 97, 142, 344] 419 = some ti419 := by kernel_rfl
theorem k420 : mkTI Tryz.prog [32, 97, 142, 344] 420 = some ti420 := by kernel_rfl
theorem k421 : mkTI Tryz.prog [32, 97, 142, 344] 421 = some ti421 := by kernel_rfl
theorem k422 : mkTI Tryz.prog [32, 97, 142, 344] 422 = some ti422 := by kernel_rfl
theorem k424 : mkTI Tryz.prog [32, 97, 142, 344] 424 = some ti424 := by kernel_rfl
theorem k425 : mkTI Tryz.prog [32, 97, 142, 344] 425 = some ti425 := by kernel_rfl
theorem k426 : mkTI Tryz.prog [32, 97, 142, 344] 426 = some ti426 := by kernel_rfl
theorem k427 : mkTI Tryz.prog [32, 97, 142, 344] 427 = some ti427 := by kernel_rfl
theorem k428 : mkTI Tryz.prog [32, 97, 142, 344] 428 = some ti428 := by kernel_rfl
theorem k429 : mkTI Tryz.prog [32, 97, 142, 344] 429 = some ti429 := by kernel_rfl
theorem k430 : mkTI Tryz.prog [32, 97, 142, 344] 430 = some ti430 := by kernel_rfl
theorem k431 : mkTI Tryz.prog [32, 97, 142, 344] 431 = some ti431 := by kernel_rfl
theorem k432 : mkTI Tryz.prog [32, 97, 142, 344] 432 = some ti432 := by kernel_rfl
theorem k433 : mkTI Tryz.prog [32, 97, 142, 344] 433 = some ti433 := by kernel_rfl
theorem k434 : mkTI Tryz.prog [32, 97, 142, 344] 434 = some ti434 := by kernel_rfl
theorem k435 : mkTI Tryz.prog [32, 97, 142, 344] 435 = some ti435 := by kernel_rfl
theorem k436 : mkTI Tryz.prog [32, 97, 142, 344] 436 = some ti436 := by kernel_rfl
theorem k437 : mkTI Tryz.prog [32, 97, 142, 344] 437 = some ti437 := by kernel_rfl
theorem k438 : mkTI Tryz.prog [32, 97, 142, 344] 438 = some ti438 := by kernel_rfl
theorem k439 : mkTI Tryz.prog [32, 97, 142, 344] 439 = some ti439 := by kernel_rfl
theorem k440 : mkTI Tryz.prog [32, 97, 142, 344] 440 = some ti440 := by kernel_rfl
theorem k441 : mkTI Tryz.prog [32, 97, 142, 344] 441 = some ti441 := by kernel_rfl
theorem k442 : mkTI Tryz.prog [32, 97, 142, 344] 442 = some ti442 := by kernel_rfl
theorem k443 : mkTI Tryz.prog [32, 97, 142, 344] 443 = some ti443 := by kernel_rfl
theorem k444 : mkTI Tryz.prog [32, 97, 142, 344] 444 = some ti444 := by kernel_rfl
theorem k445 : mkTI Tryz.prog [32, 97, 142, 344] 445 = some ti445 := by kernel_rfl
theorem k446 : mkTI Tryz.prog [32, 97, 142, 344] 446 = some ti446 := by kernel_rfl
theorem k447 : mkTI Tryz.prog [32, 97, 142, 344] 447 = some ti447 := by kernel_rfl
theorem k448 : mkTI Tryz.prog [32, 97, 142, 344] 448 = some ti448 := by kernel_rfl
noncomputable def tl0 : List (Nat × TI) := [(0, ti0), (1, ti1), (2, ti2), (3, ti3), (4, ti4), (5, ti5), (6, ti6), (7, ti7), (8, ti8), (9, ti9), (10, ti10), (11, ti11), (12, ti12), (13, ti13), (14, ti14), (15, ti15), (16, ti16), (17, ti17), (18, ti18), (19, ti19), (20, ti20), (21, ti21), (22, ti22), (23, ti23), (24, ti24), (25, ti25), (26, ti26), (27, ti27), (28, ti28), (29, ti29), (30, ti30), (31, ti31), (32, ti32), (33, ti33), (34, ti34), (35, ti35), (36, ti36), (37, ti37), (38, ti38), (39, ti39)]
theorem tp0 : AllT Tryz.prog [32, 97, 142, 344] tl0 := ⟨k0, k1, k2, k3, k4, k5, k6, k7, k8, k9, k10, k11, k12, k13, k14, k15, k16, k17, k18, k19, k20, k21, k22, k23, k24, k25, k26, k27, k28, k29, k30, k31, k32, k33, k34, k35, k36, k37, k38, k39, trivial⟩
noncomputable def tl1 : List (Nat × TI) := [(40, ti40), (41, ti41), (42, ti42), (43, ti43), (45, ti45), (46, ti46), (47, ti47), (48, ti48), (49, ti49), (50, ti50), (51, ti51), (52, ti52), (53, ti53), (54, ti54), (55, ti55), (56, ti56), (57, ti57), (58, ti58), (59, ti59), (60, ti60), (61, ti61), (62, ti62), (63, ti63), (64, ti64), (65, ti65), (66, ti66), (67, ti67), (69, ti69), (70, ti70), (71, ti71), (72, ti72), (73, ti73), (74, ti74), (75, ti75), (76, ti76), (77, ti77), (78, ti78), (79, ti79), (80, ti80), (81, ti81)]
theorem tp1 : AllT Tryz.prog [32, 97, 142, 344] tl1 := ⟨k40, k41, k42, k43, k45, k46, k47, k48, k49, k50, k51, k52, k53, k54, k55, k56, k57, k58, k59, k60, k61, k62, k63, k64, k65, k66, k67, k69, k70, k71, k72, k73, k74, k75, k76, k77, k78, k79, k80, k81, trivial⟩
noncomputable def tl2 : List (Nat × TI) := [(83, ti83), (84, ti84), (85, ti85), (86, ti86), (87, ti87), (88, ti88), (89, ti89), (90, ti90), (91, ti91), (92, ti92), (93, ti93), (94, ti94), (95, ti95), (96, ti96), (97, ti97), (98, ti98), (100, ti100), (102, ti102), (103, ti103), (104, ti104), (105, ti105), (106, ti106), (107, ti107), (108, ti108), (109, ti109), (110, ti110), (111, ti111), (112, ti112), (113, ti113), (114, ti114), (115, ti115), (116, ti116), (117, ti117), (118, ti118), (119, ti119), (120, ti120), (121, ti121), (122, ti122), (123, ti123), (124, ti124)]
theorem tp2 : AllT Tryz.prog [32, 97, 142, 344] tl2 := ⟨k83, k84, k85, k86, k87, k88, k89, k90, k91, k92, k93, k94, k95, k96, k97, k98, k100, k102, k103, k104, k105, k106, k107, k108, k109, k110, k111, k112, k113, k114, k115, k116, k117, k118, k119, k120, k121, k122, k123, k124, trivial⟩
noncomputable def tl3 : List (Nat × TI) := [(125, ti125), (126, ti126), (127, ti127), (128, ti128), (129, ti129), (130, ti130), (131, ti131), (132, ti132), (133, ti133), (134, ti134), (135, ti135), (137, ti137), (139, ti139), (140, ti140), (141, ti141), (142, ti142), (143, ti143), (144, ti144), (145, ti145), (146, ti146), (147, ti147), (148, ti148), (149, ti149), (150, ti150), (151, ti151), (152, ti152), (153, ti153), (154, ti154), (156, ti156), (157, ti157), (158, ti158), (159, ti159), (160, ti160), (162, ti162), (164, ti164), (165, ti165), (166, ti166), (167, ti167), (168, ti168), (169, ti169)]
theorem tp3 : AllT Tryz.prog [32, 97, 142, 344] tl3 := ⟨k125, k126, k127, k128, k129, k130, k131, k132, k133, k134, k135, k137, k139, k140, k141, k142, k143, k144, k145, k146, k147, k148, k149, k150, k151, k152, k153, k154, k156, k157, k158, k159, k160, k162, k164, k165, k166, k167, k168, k169, trivial⟩
noncomputable def tl4 : List (Nat × TI) := [(170, ti170), (171, ti171), (172, ti172), (173, ti173), (174, ti174), (175, ti175), (176, ti176), (177, ti177), (178, ti178), (180, ti180), (181, ti181), (182, ti182), (184, ti184), (185, ti185), (186, ti186), (187, ti187), (188, ti188), (190, ti190), (192, ti192), (193, ti193), (194, ti194), (195, ti195), (196, ti196), (197, ti197), (198, ti198), (199, ti199), (200, ti200), (201, ti201), (203, ti203), (204, ti204), (205, ti205), (206, ti206), (207, ti207), (208, ti208), (209, ti209), (211, ti211), (212, ti212), (213, ti213), (214, ti214), (215, ti215)]
theorem tp4 : AllT Tryz.prog [32, 97, 142, 344] tl4 := ⟨k170, k171, k172, k173, k174, k175, k176, k177, k178, k180, k181, k182, k184, k185, k186, k187, k188, k190, k192, k193, k194, k195, k196, k197, k198, k199, k200, k201, k203, k204, k205, k206, k207, k208, k209, k211, k212, k213, k214, k215, trivial⟩
noncomputable def tl5 : List (Nat × TI) := [(216, ti216), (217, ti217), (218, ti218), (219, ti219), (220, ti220), (221, ti221), (222, ti222), (224, ti224), (226, ti226), (227, ti227), (229, ti229), (230, ti230), (231, ti231), (232, ti232), (234, ti234), (235, ti235), (236, ti236), (237, ti237), (239, ti239), (241, ti241), (242, ti242), (243, ti243), (244, ti244), (245, ti245), (246, ti246), (247, ti247), (248, ti248), (249, ti249), (250, ti250), (251, ti251), (252, ti252), (253, ti253), (254, ti254), (255, ti255), (257, ti257), (258, ti258), (259, ti259), (260, ti260), (261, ti261), (263, ti263)]
theorem tp5 : AllT Tryz.prog [32, 97, 142, 344] tl5 := ⟨k216, k217, k218, k219, k220, k221, k222, k224, k226, k227, k229, k230, k231, k232, k234, k235, k236, k237, k239, k241, k242, k243, k244, k245, k246, k247, k248, k249, k250, k251, k252, k253, k254, k255, k257, k258, k259, k260, k261, k263, trivial⟩
noncomputable def tl6 : List (Nat × TI) := [(264, ti264), (265, ti265), (266, ti266), (267, ti267), (268, ti268), (270, ti270), (271, ti271), (272, ti272), (273, ti273), (275, ti275), (276, ti276), (277, ti277), (278, ti278), (279, ti279), (280, ti280), (282, ti282), (283, ti283), (284, ti284), (285, ti285), (286, ti286), (287, ti287), (288, ti288), (290, ti290), (291, ti291), (292, ti292), (293, ti293), (294, ti294), (295, ti295), (296, ti296), (297, ti297), (299, ti299), (300, ti300), (301, ti301), (302, ti302), (303, ti303), (304, ti304), (305, ti305), (306, ti306), (308, ti308), (309, ti309)]
theorem tp6 : AllT Tryz.prog [32, 97, 142, 344] tl6 := ⟨k264, k265, k266, k267, k268, k270, k271, k272, k273, k275, k276, k277, k278, k279, k280, k282, k283, k284, k285, k286, k287, k288, k290, k291, k292, k293, k294, k295, k296, k297, k299, k300, k301, k302, k303, k304, k305, k306, k308, k309, trivial⟩
noncomputable def tl7 : List (Nat × TI) := [(310, ti310), (311, ti311), (312, ti312), (314, ti314), (315, ti315), (316, ti316), (317, ti317), (318, ti318), (319, ti319), (320, ti320), (321, ti321), (323, ti323), (324, ti324), (325, ti325), (327, ti327), (328, ti328), (329, ti329), (330, ti330), (331, ti331), (332, ti332), (333, ti333), (335, ti335), (336, ti336), (337, ti337), (338, ti338), (339, ti339), (341, ti341), (343, ti343), (344, ti344), (345, ti345), (346, ti346), (347, ti347), (348, ti348), (349, ti349), (350, ti350), (351, ti351), (353, ti353), (354, ti354), (355, ti355), (356, ti356)]
theorem tp7 : AllT Tryz.prog [32, 97, 142, 344] tl7 := ⟨k310, k311, k312, k314, k315, k316, k317, k318, k319, k320, k321, k323, k324, k325, k327, k328, k329, k330, k331, k332, k333, k335, k336, k337, k338, k339, k341, k343, k344, k345, k346, k347, k348, k349, k350, k351, k353, k354, k355, k356, trivial⟩
noncomputable def tl8 : List (Nat × TI) := [(357, ti357), (358, ti358), (359, ti359), (360, ti360), (361, ti361), (362, ti362), (364, ti364), (365, ti365), (366, ti366), (367, ti367), (368, ti368), (370, ti370), (371, ti371), (372, ti372), (373, ti373), (374, ti374), (376, ti376), (377, ti377), (378, ti378), (379, ti379), (380, ti380), (381, ti381), (382, ti382), (383, ti383), (384, ti384), (385, ti385), (386, ti386), (387, ti387), (388, ti388), (389, ti389), (390, ti390), (391, ti391), (392, ti392), (393, ti393), (394, ti394), (395, ti395), (396, ti396), (397, ti397), (398, ti398), (399, ti399)]
theorem tp8 : AllT Tryz.prog [32, 97, 142, 344] tl8 := ⟨k357, k358, k359, k360, k361, k362, k364, k365, k366, k367, k368, k370, k371, k372, k373, k374, k376, k377, k378, k379, k380, k381, k382, k383, k384, k385, k386, k387, k388, k389, k390, k391, k392, k393, k394, k395, k396, k397, k398, k399, trivial⟩
noncomputable def tl9 : List (Nat × TI) := [(400, ti400), (401, ti401), (402, ti402), (403, ti403), (404, ti404), (405, ti405), (406, ti406), (407, ti407), (408, ti408), (409, ti409), (410, ti410), (411, ti411), (412, ti412), (413, ti413), (415, ti415), (416, ti416), (417, ti417), (418, ti418), (419, ti419), (420, ti420), (421, ti421), (422, ti422), (424, ti424), (425, ti425), (426, ti426), (427, ti427), (428, ti428), (429, ti429), (430, ti430), (431, ti431), (432, ti432), (433, ti433), (434, ti434), (435, ti435), (436, ti436), (437, ti437), (438, ti438), (439, ti439), (440, ti440), (441, ti441)]
theorem tp9 : AllT Tryz.prog [32, 97, 142, 344] tl9 := ⟨k400, k401, k402, k403, k404, k405, k406, k407, k408, k409, k410, k411, k412, k413, k415, k416, k417, k418, k419, k420, k421, k422, k424, k425, k426, k427, k428, k429, k430, k431, k432, k433, k434, k435, k436, k437, k438, k439, k440, k441, trivial⟩
noncomputable def tl10 : List (Nat × TI) := [(442, ti442), (443, ti443), (444, ti444), (445, ti445), (446, ti446), (447, ti447), (448, ti448)]
theorem tp10 : AllT Tryz.prog [32, 97, 142, 344] tl10 := ⟨k442, k443, k444, k445, k446, k447, k448, trivial⟩
theorem ttok : TTok Tryz.prog ttL := TTok.ofList (l := (tl0 ++ (tl1 ++ (tl2 ++ (tl3 ++ (tl4 ++ (tl5 ++ (tl6 ++ (tl7 ++ (tl8 ++ (tl9 ++ tl10))))))))))) (by kernel_rfl) (AllT.append tp0 (AllT.append tp1 (AllT.append tp2 (AllT.append tp3 (AllT.append tp4 (AllT.append tp5 (AllT.append tp6 (AllT.append tp7 (AllT.append tp8 (AllT.append tp9 tp10))))))))))
theorem ftok : FTok Tryz.prog ftL := FTok_of (of_decide_eq_true (by kernel_rfl)) (by kernel_rfl)
theorem xok : XOK E0 Tryz.prog := XOK.ofList (l := [(80, (.add .i64)), (120, (.load .i64)), (129, .mclone), (201, (.load .u32)), (260, .store), (288, .nop), (289, (.cas .i32)), (290, .nop), (291, .nopA), (293, .nopA), (294, (.add .i32)), (326, .indexByte)]) (by kernel_rfl) ⟨x80, x120, x129, x201, x260, x288, x289, x290, x291, x293, x294, x326, trivial⟩
theorem hmix : Tryz.prog.follows .mixedOrders = true := by kernel_rfl
noncomputable def rec0 (n : Nat) : FuncId → List AV → GS → RC := evCall E0 100000 (fun rec ops s => evDraw E0 rec ops s) (fun _ _ _ _ => none) n
theorem mono0 (n : Nat) : MonoRec (rec0 n) := mono_evCall (fun rec hm ops => mono_evDraw hm) (fun rec hm l f args g r h hr => by cases hr) n
theorem ok0 (n : Nat) (B : Base) : RecOK E0 Tryz.prog B (rec0 n) := evCall_ok ttok ftok xok (fun rec hm ops => mono_evDraw hm) (fun rec hm l f args g r h hr => by cases hr) (fun rec hm hr B => evDraw_ok ttok xok hmix hm hr B) (fun B rec hm hr f args g r hr' => by cases hr') n B
theorem glok (ρ : Ren) : GR E0 ρ := fun g b h => by simp [E0, T.get_nil] at h
end Go.Proofs.YtdpanpbjknicmaaGreatDoor
