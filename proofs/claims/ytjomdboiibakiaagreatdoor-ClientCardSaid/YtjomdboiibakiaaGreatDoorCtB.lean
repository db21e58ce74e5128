/-
  Texts that the proof needs, joined: part 2.
-/
import Derived.Test.YtjomdboiibakiaaGreatDoorCtA
import Derived.Test.YtjomdboiibakiaaGreatDoorProg
import Derived.Laws.Append
import Derived.Orders
import Derived.Conc.DeferLaws
import Derived.Conc.AtomicLaws2
import Derived.Conc.SmallLaws
import Derived.Laws.LoneSync
set_option linter.unusedSimpArgs false
section
set_option linter.unusedVariables false
namespace Go.Sl
open Go.Proofs
instance : Cz Tryz.prog 3 1 := ⟨_, info_of Tryz.type3, rfl⟩
instance : Bz Tryz.prog 3 8 := ⟨_, info_of Tryz.type3, rfl⟩
instance : Zv Tryz.prog 3 (Value.int IntKind.i64 0) := ⟨_, info_of Tryz.type3, rfl⟩
instance : Ag Tryz.prog 3 false := ⟨_, Tryz.underlying3, rfl⟩
instance : Ik Tryz.prog 3 IntKind.i64 := ⟨Tryz.underlying3⟩
instance : Cz Tryz.prog 4 1 := ⟨_, info_of Tryz.type4, rfl⟩
instance : Ag Tryz.prog 4 false := ⟨_, Tryz.underlying4, rfl⟩
instance : Ag Tryz.prog 5 false := ⟨_, Tryz.underlying5, rfl⟩
instance : Ik Tryz.prog 5 IntKind.u8 := ⟨Tryz.underlying5⟩
instance : Ag Tryz.prog 9 false := ⟨_, Tryz.underlying9, rfl⟩
instance : Cz Tryz.prog 21 1 := ⟨_, info_of Tryz.type21, rfl⟩
instance : Bz Tryz.prog 21 4 := ⟨_, info_of Tryz.type21, rfl⟩
instance : Zv Tryz.prog 21 (Value.int IntKind.i32 0) := ⟨_, info_of Tryz.type21, rfl⟩
instance : Ag Tryz.prog 21 false := ⟨_, Tryz.underlying21, rfl⟩
instance : Ik Tryz.prog 21 IntKind.i32 := ⟨Tryz.underlying21⟩
instance : El Tryz.prog 22 29 := ⟨Tryz.underlying22⟩
instance : Cz Tryz.prog 23 1 := ⟨_, info_of Tryz.type23, rfl⟩
instance : Zv Tryz.prog 23 (Value.pointer none) := ⟨_, info_of Tryz.type23, rfl⟩
instance : Ag Tryz.prog 23 false := ⟨_, Tryz.underlying23, rfl⟩
instance : Pt Tryz.prog 23 92 := ⟨Tryz.underlying23⟩
instance : Ag Tryz.prog 27 false := ⟨_, Tryz.underlying27, rfl⟩
instance : El Tryz.prog 27 63 := ⟨Tryz.underlying27⟩
instance : Cz Tryz.prog 29 6 := ⟨_, info_of Tryz.type29, rfl⟩
instance : Bz Tryz.prog 29 64 := ⟨_, info_of Tryz.type29, rfl⟩
instance : Zv Tryz.prog 29 (Value.agg #[Value.int IntKind.i64 0, Value.int IntKind.i64 0, Value.int IntKind.i64 0, Value.int IntKind.i64 0, Value.int IntKind.i64 0, Value.slice none 0 0]) := ⟨_, info_of Tryz.type29, rfl⟩
instance : Ag Tryz.prog 29 true := ⟨_, Tryz.underlying29, rfl⟩
instance : Fl Tryz.prog 29 0 0 := ⟨_, _, _, Tryz.underlying29, rfl, rfl, ⟨_, info_of Tryz.type3, rfl⟩, by decide⟩
instance : Fl Tryz.prog 29 1 1 := ⟨_, _, _, Tryz.underlying29, rfl, rfl, ⟨_, info_of Tryz.type3, rfl⟩, by decide⟩
instance : Fl Tryz.prog 29 2 2 := ⟨_, _, _, Tryz.underlying29, rfl, rfl, ⟨_, info_of Tryz.type3, rfl⟩, by decide⟩
instance : Fl Tryz.prog 29 3 3 := ⟨_, _, _, Tryz.underlying29, rfl, rfl, ⟨_, info_of Tryz.type3, rfl⟩, by decide⟩
instance : Fl Tryz.prog 29 4 4 := ⟨_, _, _, Tryz.underlying29, rfl, rfl, ⟨_, info_of Tryz.type3, rfl⟩, by decide⟩
instance : Fl Tryz.prog 29 5 5 := ⟨_, _, _, Tryz.underlying29, rfl, rfl, ⟨_, info_of Tryz.type27, rfl⟩, by decide⟩
instance : Ag Tryz.prog 30 false := ⟨_, Tryz.underlying30, rfl⟩
instance : Pt Tryz.prog 30 53 := ⟨Tryz.underlying30⟩
instance : Cz Tryz.prog 36 1 := ⟨_, info_of Tryz.type36, rfl⟩
instance : Ag Tryz.prog 36 false := ⟨_, Tryz.underlying36, rfl⟩
instance : El Tryz.prog 36 67 := ⟨Tryz.underlying36⟩
instance : Cz Tryz.prog 46 1 := ⟨_, info_of Tryz.type46, rfl⟩
instance : Zv Tryz.prog 46 (Value.nilIface) := ⟨_, info_of Tryz.type46, rfl⟩
instance : Ag Tryz.prog 46 false := ⟨_, Tryz.underlying46, rfl⟩
instance : Cz Tryz.prog 49 1 := ⟨_, info_of Tryz.type49, rfl⟩
instance : Ag Tryz.prog 49 false := ⟨_, Tryz.underlying49, rfl⟩
instance : El Tryz.prog 49 54 := ⟨Tryz.underlying49⟩
instance : Cz Tryz.prog 50 1 := ⟨_, info_of Tryz.type50, rfl⟩
instance : Ag Tryz.prog 50 false := ⟨_, Tryz.underlying50, rfl⟩
instance : El Tryz.prog 50 137 := ⟨Tryz.underlying50⟩
instance : Cz Tryz.prog 51 1 := ⟨_, info_of Tryz.type51, rfl⟩
instance : Ag Tryz.prog 51 false := ⟨_, Tryz.underlying51, rfl⟩
instance : El Tryz.prog 51 71 := ⟨Tryz.underlying51⟩
instance : Zv Tryz.prog 53 (Value.agg #[Value.slice none 0 0, Value.slice none 0 0, Value.slice none 0 0, Value.bool false]) := ⟨_, info_of Tryz.type53, rfl⟩
instance : Bd Tryz.prog 53 [(0, 1), (1, 1), (2, 1), (3, 1)] := ⟨_, Tryz.underlying53, .cons rfl ⟨_, info_of Tryz.type49, rfl⟩ (.cons rfl ⟨_, info_of Tryz.type50, rfl⟩ (.cons rfl ⟨_, info_of Tryz.type51, rfl⟩ (.cons rfl ⟨_, info_of Tryz.type4, rfl⟩ .nil)))⟩
instance : Fl Tryz.prog 53 0 0 := ⟨_, _, _, Tryz.underlying53, rfl, rfl, ⟨_, info_of Tryz.type49, rfl⟩, by decide⟩
instance : Fl Tryz.prog 53 1 1 := ⟨_, _, _, Tryz.underlying53, rfl, rfl, ⟨_, info_of Tryz.type50, rfl⟩, by decide⟩
instance : Fl Tryz.prog 53 2 2 := ⟨_, _, _, Tryz.underlying53, rfl, rfl, ⟨_, info_of Tryz.type51, rfl⟩, by decide⟩
instance : Fl Tryz.prog 53 3 3 := ⟨_, _, _, Tryz.underlying53, rfl, rfl, ⟨_, info_of Tryz.type4, rfl⟩, by decide⟩
instance : Cz Tryz.prog 54 1 := ⟨_, info_of Tryz.type54, rfl⟩
instance : Bz Tryz.prog 54 8 := ⟨_, info_of Tryz.type54, rfl⟩
instance : Zv Tryz.prog 54 (Value.pointer none) := ⟨_, info_of Tryz.type54, rfl⟩
instance : Ag Tryz.prog 54 false := ⟨_, Tryz.underlying54, rfl⟩
instance : Pt Tryz.prog 54 61 := ⟨Tryz.underlying54⟩
instance : Ag Tryz.prog 55 false := ⟨_, Tryz.underlying55, rfl⟩
instance : El Tryz.prog 55 247 := ⟨Tryz.underlying55⟩
instance : Cz Tryz.prog 56 1 := ⟨_, info_of Tryz.type56, rfl⟩
instance : Ag Tryz.prog 56 false := ⟨_, Tryz.underlying56, rfl⟩
instance : El Tryz.prog 56 3 := ⟨Tryz.underlying56⟩
instance : Cz Tryz.prog 57 1 := ⟨_, info_of Tryz.type57, rfl⟩
instance : Ag Tryz.prog 57 false := ⟨_, Tryz.underlying57, rfl⟩
instance : El Tryz.prog 57 258 := ⟨Tryz.underlying57⟩
instance : Cz Tryz.prog 58 1 := ⟨_, info_of Tryz.type58, rfl⟩
instance : Cz Tryz.prog 59 1 := ⟨_, info_of Tryz.type59, rfl⟩
instance : Zv Tryz.prog 61 (Value.agg #[Value.int IntKind.i64 0, Value.int IntKind.i64 0, Value.bool false, Value.slice none 0 0, Value.int IntKind.i64 0, Value.slice none 0 0, Value.slice none 0 0, Value.slice none 0 0, Value.slice none 0 0, Value.slice none 0 0, Value.int IntKind.i64 0, Value.slice none 0 0]) := ⟨_, info_of Tryz.type61, rfl⟩
instance : Bd Tryz.prog 61 [(0, 1), (1, 1), (2, 1), (3, 1), (4, 1), (5, 1), (6, 1), (7, 1), (8, 1), (9, 1), (10, 1), (11, 1)] := ⟨_, Tryz.underlying61, .cons rfl ⟨_, info_of Tryz.type3, rfl⟩ (.cons rfl ⟨_, info_of Tryz.type3, rfl⟩ (.cons rfl ⟨_, info_of Tryz.type4, rfl⟩ (.cons rfl ⟨_, info_of Tryz.type55, rfl⟩ (.cons rfl ⟨_, info_of Tryz.type3, rfl⟩ (.cons rfl ⟨_, info_of Tryz.type56, rfl⟩ (.cons rfl ⟨_, info_of Tryz.type57, rfl⟩ (.cons rfl ⟨_, info_of Tryz.type58, rfl⟩ (.cons rfl ⟨_, info_of Tryz.type59, rfl⟩ (.cons rfl ⟨_, info_of Tryz.type50, rfl⟩ (.cons rfl ⟨_, info_of Tryz.type3, rfl⟩ (.cons rfl ⟨_, info_of Tryz.type50, rfl⟩ .nil)))))))))))⟩
instance : Fl Tryz.prog 61 2 2 := ⟨_, _, _, Tryz.underlying61, rfl, rfl, ⟨_, info_of Tryz.type4, rfl⟩, by decide⟩
instance : Fl Tryz.prog 61 3 3 := ⟨_, _, _, Tryz.underlying61, rfl, rfl, ⟨_, info_of Tryz.type55, rfl⟩, by decide⟩
instance : Fl Tryz.prog 61 4 4 := ⟨_, _, _, Tryz.underlying61, rfl, rfl, ⟨_, info_of Tryz.type3, rfl⟩, by decide⟩
instance : Fl Tryz.prog 61 5 5 := ⟨_, _, _, Tryz.underlying61, rfl, rfl, ⟨_, info_of Tryz.type56, rfl⟩, by decide⟩
instance : Fl Tryz.prog 61 6 6 := ⟨_, _, _, Tryz.underlying61, rfl, rfl, ⟨_, info_of Tryz.type57, rfl⟩, by decide⟩
instance : Fl Tryz.prog 61 7 7 := ⟨_, _, _, Tryz.underlying61, rfl, rfl, ⟨_, info_of Tryz.type58, rfl⟩, by decide⟩
instance : Fl Tryz.prog 61 8 8 := ⟨_, _, _, Tryz.underlying61, rfl, rfl, ⟨_, info_of Tryz.type59, rfl⟩, by decide⟩
instance : Fl Tryz.prog 61 9 9 := ⟨_, _, _, Tryz.underlying61, rfl, rfl, ⟨_, info_of Tryz.type50, rfl⟩, by decide⟩
instance : Fl Tryz.prog 61 10 10 := ⟨_, _, _, Tryz.underlying61, rfl, rfl, ⟨_, info_of Tryz.type3, rfl⟩, by decide⟩
instance : Cz Tryz.prog 63 3 := ⟨_, info_of Tryz.type63, rfl⟩
instance : Bz Tryz.prog 63 24 := ⟨_, info_of Tryz.type63, rfl⟩
instance : Zv Tryz.prog 63 (Value.agg #[Value.bool false, Value.int IntKind.i64 0, Value.int IntKind.i64 0]) := ⟨_, info_of Tryz.type63, rfl⟩
instance : Bd Tryz.prog 63 [(0, 1), (1, 1), (2, 1)] := ⟨_, Tryz.underlying63, .cons rfl ⟨_, info_of Tryz.type4, rfl⟩ (.cons rfl ⟨_, info_of Tryz.type3, rfl⟩ (.cons rfl ⟨_, info_of Tryz.type3, rfl⟩ .nil))⟩
instance : Fl Tryz.prog 63 0 0 := ⟨_, _, _, Tryz.underlying63, rfl, rfl, ⟨_, info_of Tryz.type4, rfl⟩, by decide⟩
instance : Fl Tryz.prog 63 1 1 := ⟨_, _, _, Tryz.underlying63, rfl, rfl, ⟨_, info_of Tryz.type3, rfl⟩, by decide⟩
instance : Fl Tryz.prog 63 2 2 := ⟨_, _, _, Tryz.underlying63, rfl, rfl, ⟨_, info_of Tryz.type3, rfl⟩, by decide⟩
instance : Cz Tryz.prog 67 3 := ⟨_, info_of Tryz.type67, rfl⟩
instance : Bz Tryz.prog 67 8 := ⟨_, info_of Tryz.type67, rfl⟩
instance : Zv Tryz.prog 67 (Value.agg #[Value.bool false, Value.int IntKind.u8 0, Value.int IntKind.i32 0]) := ⟨_, info_of Tryz.type67, rfl⟩
instance : Ag Tryz.prog 67 true := ⟨_, Tryz.underlying67, rfl⟩
instance : Bd Tryz.prog 67 [(0, 1), (1, 1), (2, 1)] := ⟨_, Tryz.underlying67, .cons rfl ⟨_, info_of Tryz.type4, rfl⟩ (.cons rfl ⟨_, info_of Tryz.type5, rfl⟩ (.cons rfl ⟨_, info_of Tryz.type21, rfl⟩ .nil))⟩
instance : Fl Tryz.prog 67 0 0 := ⟨_, _, _, Tryz.underlying67, rfl, rfl, ⟨_, info_of Tryz.type4, rfl⟩, by decide⟩
instance : Fl Tryz.prog 67 1 1 := ⟨_, _, _, Tryz.underlying67, rfl, rfl, ⟨_, info_of Tryz.type5, rfl⟩, by decide⟩
instance : Fl Tryz.prog 67 2 2 := ⟨_, _, _, Tryz.underlying67, rfl, rfl, ⟨_, info_of Tryz.type21, rfl⟩, by decide⟩
instance : Cz Tryz.prog 71 3 := ⟨_, info_of Tryz.type71, rfl⟩
instance : Bz Tryz.prog 71 56 := ⟨_, info_of Tryz.type71, rfl⟩
instance : Zv Tryz.prog 71 (Value.agg #[Value.slice none 0 0, Value.int IntKind.i64 0, Value.slice none 0 0]) := ⟨_, info_of Tryz.type71, rfl⟩
instance : Bd Tryz.prog 71 [(0, 1), (1, 1), (2, 1)] := ⟨_, Tryz.underlying71, .cons rfl ⟨_, info_of Tryz.type27, rfl⟩ (.cons rfl ⟨_, info_of Tryz.type3, rfl⟩ (.cons rfl ⟨_, info_of Tryz.type56, rfl⟩ .nil))⟩
instance : Fl Tryz.prog 71 0 0 := ⟨_, _, _, Tryz.underlying71, rfl, rfl, ⟨_, info_of Tryz.type27, rfl⟩, by decide⟩
instance : Fl Tryz.prog 71 1 1 := ⟨_, _, _, Tryz.underlying71, rfl, rfl, ⟨_, info_of Tryz.type3, rfl⟩, by decide⟩
instance : Fl Tryz.prog 71 2 2 := ⟨_, _, _, Tryz.underlying71, rfl, rfl, ⟨_, info_of Tryz.type56, rfl⟩, by decide⟩
instance : Cz Tryz.prog 75 1 := ⟨_, info_of Tryz.type75, rfl⟩
instance : Ik Tryz.prog 75 IntKind.u32 := ⟨Tryz.underlying75⟩
instance : Cz Tryz.prog 77 2 := ⟨_, info_of Tryz.type77, rfl⟩
instance : Fl Tryz.prog 77 0 0 := ⟨_, _, _, Tryz.underlying77, rfl, rfl, ⟨_, info_of Tryz.type21, rfl⟩, by decide⟩
instance : Fl Tryz.prog 79 1 0 := ⟨_, _, _, Tryz.underlying79, rfl, rfl, ⟨_, info_of Tryz.type77, rfl⟩, by decide⟩
instance : Cz Tryz.prog 80 1 := ⟨_, info_of Tryz.type80, rfl⟩
instance : Ag Tryz.prog 80 false := ⟨_, Tryz.underlying80, rfl⟩
instance : El Tryz.prog 80 114 := ⟨Tryz.underlying80⟩
instance : Cz Tryz.prog 81 1 := ⟨_, info_of Tryz.type81, rfl⟩
instance : Ag Tryz.prog 81 false := ⟨_, Tryz.underlying81, rfl⟩
instance : El Tryz.prog 81 190 := ⟨Tryz.underlying81⟩
instance : Cz Tryz.prog 82 1 := ⟨_, info_of Tryz.type82, rfl⟩
instance : Ag Tryz.prog 82 false := ⟨_, Tryz.underlying82, rfl⟩
instance : El Tryz.prog 82 126 := ⟨Tryz.underlying82⟩
instance : Ag Tryz.prog 83 false := ⟨_, Tryz.underlying83, rfl⟩
instance : Ik Tryz.prog 86 IntKind.u64 := ⟨Tryz.underlying86⟩
instance : Fl Tryz.prog 88 2 0 := ⟨_, _, _, Tryz.underlying88, rfl, rfl, ⟨_, info_of Tryz.type86, rfl⟩, by decide⟩
instance : Cz Tryz.prog 90 2 := ⟨_, info_of Tryz.type90, rfl⟩
instance : Fl Tryz.prog 90 1 0 := ⟨_, _, _, Tryz.underlying90, rfl, rfl, ⟨_, info_of Tryz.type88, rfl⟩, by decide⟩
instance : Fl Tryz.prog 90 2 1 := ⟨_, _, _, Tryz.underlying90, rfl, rfl, ⟨_, info_of Tryz.type75, rfl⟩, by decide⟩
instance : Zv Tryz.prog 92 (Value.agg #[Value.int IntKind.i32 0, Value.int IntKind.u32 0, Value.slice none 0 0, Value.slice none 0 0, Value.slice none 0 0, Value.chan none, Value.bool false, Value.int IntKind.u64 0, Value.int IntKind.u32 0]) := ⟨_, info_of Tryz.type92, rfl⟩
instance : Bd Tryz.prog 92 [(0, 2), (2, 1), (3, 1), (4, 1), (5, 1), (6, 1), (7, 2)] := ⟨_, Tryz.underlying92, .cons rfl ⟨_, info_of Tryz.type79, rfl⟩ (.cons rfl ⟨_, info_of Tryz.type80, rfl⟩ (.cons rfl ⟨_, info_of Tryz.type81, rfl⟩ (.cons rfl ⟨_, info_of Tryz.type82, rfl⟩ (.cons rfl ⟨_, info_of Tryz.type83, rfl⟩ (.cons rfl ⟨_, info_of Tryz.type4, rfl⟩ (.cons rfl ⟨_, info_of Tryz.type90, rfl⟩ .nil))))))⟩
instance : Fl Tryz.prog 92 0 0 := ⟨_, _, _, Tryz.underlying92, rfl, rfl, ⟨_, info_of Tryz.type79, rfl⟩, by decide⟩
instance : Fl Tryz.prog 92 1 2 := ⟨_, _, _, Tryz.underlying92, rfl, rfl, ⟨_, info_of Tryz.type80, rfl⟩, by decide⟩
instance : Fl Tryz.prog 92 2 3 := ⟨_, _, _, Tryz.underlying92, rfl, rfl, ⟨_, info_of Tryz.type81, rfl⟩, by decide⟩
instance : Fl Tryz.prog 92 3 4 := ⟨_, _, _, Tryz.underlying92, rfl, rfl, ⟨_, info_of Tryz.type82, rfl⟩, by decide⟩
instance : Fl Tryz.prog 92 4 5 := ⟨_, _, _, Tryz.underlying92, rfl, rfl, ⟨_, info_of Tryz.type83, rfl⟩, by decide⟩
instance : Fl Tryz.prog 92 5 6 := ⟨_, _, _, Tryz.underlying92, rfl, rfl, ⟨_, info_of Tryz.type4, rfl⟩, by decide⟩
instance : Fl Tryz.prog 92 6 7 := ⟨_, _, _, Tryz.underlying92, rfl, rfl, ⟨_, info_of Tryz.type90, rfl⟩, by decide⟩
instance : Cz Tryz.prog 94 1 := ⟨_, info_of Tryz.type94, rfl⟩
instance : Ag Tryz.prog 94 false := ⟨_, Tryz.underlying94, rfl⟩
instance : El Tryz.prog 94 150 := ⟨Tryz.underlying94⟩
instance : Zv Tryz.prog 96 (Value.agg #[Value.slice none 0 0]) := ⟨_, info_of Tryz.type96, rfl⟩
instance : Bd Tryz.prog 96 [(0, 1)] := ⟨_, Tryz.underlying96, .cons rfl ⟨_, info_of Tryz.type94, rfl⟩ .nil⟩
instance : Fl Tryz.prog 96 0 0 := ⟨_, _, _, Tryz.underlying96, rfl, rfl, ⟨_, info_of Tryz.type94, rfl⟩, by decide⟩
instance : Cz Tryz.prog 104 1 := ⟨_, info_of Tryz.type104, rfl⟩
instance : Ag Tryz.prog 104 false := ⟨_, Tryz.underlying104, rfl⟩
instance : El Tryz.prog 104 21 := ⟨Tryz.underlying104⟩
instance : Cz Tryz.prog 114 1 := ⟨_, info_of Tryz.type114, rfl⟩
instance : Bz Tryz.prog 114 8 := ⟨_, info_of Tryz.type114, rfl⟩
instance : Zv Tryz.prog 114 (Value.pointer none) := ⟨_, info_of Tryz.type114, rfl⟩
instance : Ag Tryz.prog 114 false := ⟨_, Tryz.underlying114, rfl⟩
instance : Ag Tryz.prog 115 false := ⟨_, Tryz.underlying115, rfl⟩
instance : Pt Tryz.prog 115 180 := ⟨Tryz.underlying115⟩
instance : Ag Tryz.prog 117 false := ⟨_, Tryz.underlying117, rfl⟩
instance : Zv Tryz.prog 120 (Value.agg #[Value.pointer none, Value.chan none, Value.chan none]) := ⟨_, info_of Tryz.type120, rfl⟩
instance : Bd Tryz.prog 120 [(0, 1), (1, 1), (2, 1)] := ⟨_, Tryz.underlying120, .cons rfl ⟨_, info_of Tryz.type115, rfl⟩ (.cons rfl ⟨_, info_of Tryz.type117, rfl⟩ (.cons rfl ⟨_, info_of Tryz.type118, rfl⟩ .nil))⟩
instance : Fl Tryz.prog 120 0 0 := ⟨_, _, _, Tryz.underlying120, rfl, rfl, ⟨_, info_of Tryz.type115, rfl⟩, by decide⟩
instance : Fl Tryz.prog 120 1 1 := ⟨_, _, _, Tryz.underlying120, rfl, rfl, ⟨_, info_of Tryz.type117, rfl⟩, by decide⟩
instance : Cz Tryz.prog 126 3 := ⟨_, info_of Tryz.type126, rfl⟩
instance : Bz Tryz.prog 126 56 := ⟨_, info_of Tryz.type126, rfl⟩
instance : Zv Tryz.prog 126 (Value.agg #[Value.slice none 0 0, Value.int IntKind.i64 0, Value.slice none 0 0]) := ⟨_, info_of Tryz.type126, rfl⟩
instance : Bd Tryz.prog 126 [(0, 1), (1, 1), (2, 1)] := ⟨_, Tryz.underlying126, .cons rfl ⟨_, info_of Tryz.type36, rfl⟩ (.cons rfl ⟨_, info_of Tryz.type3, rfl⟩ (.cons rfl ⟨_, info_of Tryz.type104, rfl⟩ .nil))⟩
instance : Fl Tryz.prog 126 0 0 := ⟨_, _, _, Tryz.underlying126, rfl, rfl, ⟨_, info_of Tryz.type36, rfl⟩, by decide⟩
instance : Fl Tryz.prog 126 1 1 := ⟨_, _, _, Tryz.underlying126, rfl, rfl, ⟨_, info_of Tryz.type3, rfl⟩, by decide⟩
instance : Fl Tryz.prog 126 2 2 := ⟨_, _, _, Tryz.underlying126, rfl, rfl, ⟨_, info_of Tryz.type104, rfl⟩, by decide⟩
instance : Cz Tryz.prog 128 1 := ⟨_, info_of Tryz.type128, rfl⟩
instance : Zv Tryz.prog 128 (Value.pointer none) := ⟨_, info_of Tryz.type128, rfl⟩
instance : Ag Tryz.prog 128 false := ⟨_, Tryz.underlying128, rfl⟩
instance : NI Tryz.prog 128 := ⟨_, Tryz.underlying128, rfl⟩
instance : Pt Tryz.prog 128 132 := ⟨Tryz.underlying128⟩
instance : Ag Tryz.prog 130 false := ⟨_, Tryz.underlying130, rfl⟩
instance : NI Tryz.prog 130 := ⟨_, Tryz.underlying130, rfl⟩
instance : Cz Tryz.prog 132 3 := ⟨_, info_of Tryz.type132, rfl⟩
instance : Zv Tryz.prog 132 (Value.agg #[Value.string (ByteArray.mk #[]), Value.int IntKind.i64 0, Value.nilIface]) := ⟨_, info_of Tryz.type132, rfl⟩
instance : Bd Tryz.prog 132 [(0, 1), (1, 1), (2, 1)] := ⟨_, Tryz.underlying132, .cons rfl ⟨_, info_of Tryz.type9, rfl⟩ (.cons rfl ⟨_, info_of Tryz.type3, rfl⟩ (.cons rfl ⟨_, info_of Tryz.type46, rfl⟩ .nil))⟩
instance : Fl Tryz.prog 132 0 0 := ⟨_, _, _, Tryz.underlying132, rfl, rfl, ⟨_, info_of Tryz.type9, rfl⟩, by decide⟩
instance : Fl Tryz.prog 132 1 1 := ⟨_, _, _, Tryz.underlying132, rfl, rfl, ⟨_, info_of Tryz.type3, rfl⟩, by decide⟩
instance : Fl Tryz.prog 132 2 2 := ⟨_, _, _, Tryz.underlying132, rfl, rfl, ⟨_, info_of Tryz.type46, rfl⟩, by decide⟩
instance : El Tryz.prog 133 46 := ⟨Tryz.underlying133⟩
instance : Cz Tryz.prog 137 7 := ⟨_, info_of Tryz.type137, rfl⟩
instance : Bz Tryz.prog 137 88 := ⟨_, info_of Tryz.type137, rfl⟩
instance : Zv Tryz.prog 137 (Value.agg #[Value.int IntKind.i64 0, Value.int IntKind.i64 0, Value.int IntKind.i64 0, Value.int IntKind.i64 0, Value.bool false, Value.slice none 0 0, Value.slice none 0 0]) := ⟨_, info_of Tryz.type137, rfl⟩
instance : Ag Tryz.prog 137 true := ⟨_, Tryz.underlying137, rfl⟩
instance : Bd Tryz.prog 137 [(0, 1), (1, 1), (2, 1), (3, 1), (4, 1), (5, 1), (6, 1)] := ⟨_, Tryz.underlying137, .cons rfl ⟨_, info_of Tryz.type3, rfl⟩ (.cons rfl ⟨_, info_of Tryz.type3, rfl⟩ (.cons rfl ⟨_, info_of Tryz.type3, rfl⟩ (.cons rfl ⟨_, info_of Tryz.type3, rfl⟩ (.cons rfl ⟨_, info_of Tryz.type4, rfl⟩ (.cons rfl ⟨_, info_of Tryz.type27, rfl⟩ (.cons rfl ⟨_, info_of Tryz.type56, rfl⟩ .nil))))))⟩
instance : Fl Tryz.prog 137 0 0 := ⟨_, _, _, Tryz.underlying137, rfl, rfl, ⟨_, info_of Tryz.type3, rfl⟩, by decide⟩
instance : Fl Tryz.prog 137 1 1 := ⟨_, _, _, Tryz.underlying137, rfl, rfl, ⟨_, info_of Tryz.type3, rfl⟩, by decide⟩
instance : Fl Tryz.prog 137 2 2 := ⟨_, _, _, Tryz.underlying137, rfl, rfl, ⟨_, info_of Tryz.type3, rfl⟩, by decide⟩
instance : Fl Tryz.prog 137 3 3 := ⟨_, _, _, Tryz.underlying137, rfl, rfl, ⟨_, info_of Tryz.type3, rfl⟩, by decide⟩
instance : Fl Tryz.prog 137 4 4 := ⟨_, _, _, Tryz.underlying137, rfl, rfl, ⟨_, info_of Tryz.type4, rfl⟩, by decide⟩
instance : Fl Tryz.prog 137 5 5 := ⟨_, _, _, Tryz.underlying137, rfl, rfl, ⟨_, info_of Tryz.type27, rfl⟩, by decide⟩
instance : Fl Tryz.prog 137 6 6 := ⟨_, _, _, Tryz.underlying137, rfl, rfl, ⟨_, info_of Tryz.type56, rfl⟩, by decide⟩
instance : Pt Tryz.prog 139 90 := ⟨Tryz.underlying139⟩
instance : Pt Tryz.prog 147 75 := ⟨Tryz.underlying147⟩
instance : Cz Tryz.prog 150 2 := ⟨_, info_of Tryz.type150, rfl⟩
instance : Bz Tryz.prog 150 16 := ⟨_, info_of Tryz.type150, rfl⟩
instance : Zv Tryz.prog 150 (Value.agg #[Value.pointer none, Value.pointer none]) := ⟨_, info_of Tryz.type150, rfl⟩
instance : Ag Tryz.prog 150 true := ⟨_, Tryz.underlying150, rfl⟩
instance : Bd Tryz.prog 150 [(0, 1), (1, 1)] := ⟨_, Tryz.underlying150, .cons rfl ⟨_, info_of Tryz.type23, rfl⟩ (.cons rfl ⟨_, info_of Tryz.type30, rfl⟩ .nil)⟩
instance : Fl Tryz.prog 150 0 0 := ⟨_, _, _, Tryz.underlying150, rfl, rfl, ⟨_, info_of Tryz.type23, rfl⟩, by decide⟩
instance : Fl Tryz.prog 150 1 1 := ⟨_, _, _, Tryz.underlying150, rfl, rfl, ⟨_, info_of Tryz.type30, rfl⟩, by decide⟩
instance : Ag Tryz.prog 158 false := ⟨_, Tryz.underlying158, rfl⟩
instance : Mp Tryz.prog 158 5 21 := ⟨Tryz.underlying158⟩
instance : El Tryz.prog 163 167 := ⟨Tryz.underlying163⟩
instance : Cz Tryz.prog 167 6 := ⟨_, info_of Tryz.type167, rfl⟩
instance : Bz Tryz.prog 167 80 := ⟨_, info_of Tryz.type167, rfl⟩
instance : Zv Tryz.prog 167 (Value.agg #[Value.int IntKind.i64 0, Value.int IntKind.i64 0, Value.bool false, Value.int IntKind.i64 0, Value.slice none 0 0, Value.slice none 0 0]) := ⟨_, info_of Tryz.type167, rfl⟩
instance : Ag Tryz.prog 167 true := ⟨_, Tryz.underlying167, rfl⟩
instance : Bd Tryz.prog 167 [(0, 1), (1, 1), (2, 1), (3, 1), (4, 1), (5, 1)] := ⟨_, Tryz.underlying167, .cons rfl ⟨_, info_of Tryz.type3, rfl⟩ (.cons rfl ⟨_, info_of Tryz.type3, rfl⟩ (.cons rfl ⟨_, info_of Tryz.type4, rfl⟩ (.cons rfl ⟨_, info_of Tryz.type3, rfl⟩ (.cons rfl ⟨_, info_of Tryz.type36, rfl⟩ (.cons rfl ⟨_, info_of Tryz.type104, rfl⟩ .nil)))))⟩
instance : Fl Tryz.prog 167 0 0 := ⟨_, _, _, Tryz.underlying167, rfl, rfl, ⟨_, info_of Tryz.type3, rfl⟩, by decide⟩
instance : Fl Tryz.prog 167 1 1 := ⟨_, _, _, Tryz.underlying167, rfl, rfl, ⟨_, info_of Tryz.type3, rfl⟩, by decide⟩
instance : Fl Tryz.prog 167 2 2 := ⟨_, _, _, Tryz.underlying167, rfl, rfl, ⟨_, info_of Tryz.type4, rfl⟩, by decide⟩
instance : Fl Tryz.prog 167 3 3 := ⟨_, _, _, Tryz.underlying167, rfl, rfl, ⟨_, info_of Tryz.type3, rfl⟩, by decide⟩
instance : Fl Tryz.prog 167 4 4 := ⟨_, _, _, Tryz.underlying167, rfl, rfl, ⟨_, info_of Tryz.type36, rfl⟩, by decide⟩
instance : Fl Tryz.prog 167 5 5 := ⟨_, _, _, Tryz.underlying167, rfl, rfl, ⟨_, info_of Tryz.type104, rfl⟩, by decide⟩
instance : Ag Tryz.prog 169 false := ⟨_, Tryz.underlying169, rfl⟩
instance : Mp Tryz.prog 169 5 3 := ⟨Tryz.underlying169⟩
instance : Cz Tryz.prog 176 10 := ⟨_, info_of Tryz.type176, rfl⟩
instance : Zv Tryz.prog 176 (Value.agg #[Value.map none, Value.map none, Value.map none, Value.map none, Value.map none, Value.map none, Value.slice none 0 0, Value.int IntKind.i64 0, Value.int IntKind.i64 0, Value.slice none 0 0]) := ⟨_, info_of Tryz.type176, rfl⟩
instance : Ag Tryz.prog 176 true := ⟨_, Tryz.underlying176, rfl⟩
instance : Bd Tryz.prog 176 [(0, 1), (1, 1), (2, 1), (3, 1), (4, 1), (5, 1), (6, 1), (7, 1), (8, 1), (9, 1)] := ⟨_, Tryz.underlying176, .cons rfl ⟨_, info_of Tryz.type158, rfl⟩ (.cons rfl ⟨_, info_of Tryz.type169, rfl⟩ (.cons rfl ⟨_, info_of Tryz.type170, rfl⟩ (.cons rfl ⟨_, info_of Tryz.type171, rfl⟩ (.cons rfl ⟨_, info_of Tryz.type171, rfl⟩ (.cons rfl ⟨_, info_of Tryz.type172, rfl⟩ (.cons rfl ⟨_, info_of Tryz.type174, rfl⟩ (.cons rfl ⟨_, info_of Tryz.type3, rfl⟩ (.cons rfl ⟨_, info_of Tryz.type3, rfl⟩ (.cons rfl ⟨_, info_of Tryz.type81, rfl⟩ .nil)))))))))⟩
instance : Fl Tryz.prog 176 0 0 := ⟨_, _, _, Tryz.underlying176, rfl, rfl, ⟨_, info_of Tryz.type158, rfl⟩, by decide⟩
instance : Fl Tryz.prog 176 1 1 := ⟨_, _, _, Tryz.underlying176, rfl, rfl, ⟨_, info_of Tryz.type169, rfl⟩, by decide⟩
instance : Ag Tryz.prog 178 false := ⟨_, Tryz.underlying178, rfl⟩
instance : El Tryz.prog 178 272 := ⟨Tryz.underlying178⟩
instance : Zv Tryz.prog 180 (Value.agg #[Value.int IntKind.i64 0, Value.int IntKind.i64 0, Value.bool false, Value.slice none 0 0, Value.int IntKind.i64 0, Value.map none, Value.map none, Value.map none, Value.map none, Value.map none, Value.map none, Value.slice none 0 0, Value.int IntKind.i64 0, Value.int IntKind.i64 0, Value.slice none 0 0, Value.slice none 0 0]) := ⟨_, info_of Tryz.type180, rfl⟩
instance : Bd Tryz.prog 180 [(0, 1), (1, 1), (2, 1), (3, 1), (4, 1), (5, 10), (15, 1)] := ⟨_, Tryz.underlying180, .cons rfl ⟨_, info_of Tryz.type3, rfl⟩ (.cons rfl ⟨_, info_of Tryz.type3, rfl⟩ (.cons rfl ⟨_, info_of Tryz.type4, rfl⟩ (.cons rfl ⟨_, info_of Tryz.type178, rfl⟩ (.cons rfl ⟨_, info_of Tryz.type3, rfl⟩ (.cons rfl ⟨_, info_of Tryz.type176, rfl⟩ (.cons rfl ⟨_, info_of Tryz.type81, rfl⟩ .nil))))))⟩
instance : Fl Tryz.prog 180 2 2 := ⟨_, _, _, Tryz.underlying180, rfl, rfl, ⟨_, info_of Tryz.type4, rfl⟩, by decide⟩
instance : Fl Tryz.prog 180 3 3 := ⟨_, _, _, Tryz.underlying180, rfl, rfl, ⟨_, info_of Tryz.type178, rfl⟩, by decide⟩
instance : Fl Tryz.prog 180 4 4 := ⟨_, _, _, Tryz.underlying180, rfl, rfl, ⟨_, info_of Tryz.type3, rfl⟩, by decide⟩
instance : Fl Tryz.prog 180 5 5 := ⟨_, _, _, Tryz.underlying180, rfl, rfl, ⟨_, info_of Tryz.type176, rfl⟩, by decide⟩
instance : Zv Tryz.prog 187 (Value.nilFunc) := ⟨_, info_of Tryz.type187, rfl⟩
instance : Cz Tryz.prog 190 7 := ⟨_, info_of Tryz.type190, rfl⟩
instance : Bz Tryz.prog 190 88 := ⟨_, info_of Tryz.type190, rfl⟩
instance : Zv Tryz.prog 190 (Value.agg #[Value.int IntKind.i64 0, Value.int IntKind.i64 0, Value.int IntKind.i64 0, Value.int IntKind.i64 0, Value.bool false, Value.slice none 0 0, Value.slice none 0 0]) := ⟨_, info_of Tryz.type190, rfl⟩
instance : Ag Tryz.prog 190 true := ⟨_, Tryz.underlying190, rfl⟩
instance : Bd Tryz.prog 190 [(0, 1), (1, 1), (2, 1), (3, 1), (4, 1), (5, 1), (6, 1)] := ⟨_, Tryz.underlying190, .cons rfl ⟨_, info_of Tryz.type3, rfl⟩ (.cons rfl ⟨_, info_of Tryz.type3, rfl⟩ (.cons rfl ⟨_, info_of Tryz.type3, rfl⟩ (.cons rfl ⟨_, info_of Tryz.type3, rfl⟩ (.cons rfl ⟨_, info_of Tryz.type4, rfl⟩ (.cons rfl ⟨_, info_of Tryz.type36, rfl⟩ (.cons rfl ⟨_, info_of Tryz.type104, rfl⟩ .nil))))))⟩
instance : Fl Tryz.prog 190 0 0 := ⟨_, _, _, Tryz.underlying190, rfl, rfl, ⟨_, info_of Tryz.type3, rfl⟩, by decide⟩
instance : Fl Tryz.prog 190 1 1 := ⟨_, _, _, Tryz.underlying190, rfl, rfl, ⟨_, info_of Tryz.type3, rfl⟩, by decide⟩
instance : Fl Tryz.prog 190 2 2 := ⟨_, _, _, Tryz.underlying190, rfl, rfl, ⟨_, info_of Tryz.type3, rfl⟩, by decide⟩
instance : Fl Tryz.prog 190 3 3 := ⟨_, _, _, Tryz.underlying190, rfl, rfl, ⟨_, info_of Tryz.type3, rfl⟩, by decide⟩
instance : Fl Tryz.prog 190 4 4 := ⟨_, _, _, Tryz.underlying190, rfl, rfl, ⟨_, info_of Tryz.type4, rfl⟩, by decide⟩
instance : Fl Tryz.prog 190 5 5 := ⟨_, _, _, Tryz.underlying190, rfl, rfl, ⟨_, info_of Tryz.type36, rfl⟩, by decide⟩
instance : Fl Tryz.prog 190 6 6 := ⟨_, _, _, Tryz.underlying190, rfl, rfl, ⟨_, info_of Tryz.type104, rfl⟩, by decide⟩
instance : Cz Tryz.prog 193 3 := ⟨_, info_of Tryz.type193, rfl⟩
instance : Zv Tryz.prog 193 (Value.agg #[Value.pointer none, Value.pointer none, Value.int IntKind.u64 0]) := ⟨_, info_of Tryz.type193, rfl⟩
instance : Ag Tryz.prog 193 true := ⟨_, Tryz.underlying193, rfl⟩
instance : Ag Tryz.prog 196 false := ⟨_, Tryz.underlying196, rfl⟩
instance : Pt Tryz.prog 204 77 := ⟨Tryz.underlying204⟩
instance : Ag Tryz.prog 225 false := ⟨_, Tryz.underlying225, rfl⟩
instance : Cz Tryz.prog 247 6 := ⟨_, info_of Tryz.type247, rfl⟩
instance : Zv Tryz.prog 247 (Value.agg #[Value.int IntKind.i64 0, Value.int IntKind.i64 0, Value.bool false, Value.int IntKind.i64 0, Value.slice none 0 0, Value.slice none 0 0]) := ⟨_, info_of Tryz.type247, rfl⟩
instance : Ag Tryz.prog 247 true := ⟨_, Tryz.underlying247, rfl⟩
instance : Fl Tryz.prog 247 0 0 := ⟨_, _, _, Tryz.underlying247, rfl, rfl, ⟨_, info_of Tryz.type3, rfl⟩, by decide⟩
instance : Fl Tryz.prog 247 1 1 := ⟨_, _, _, Tryz.underlying247, rfl, rfl, ⟨_, info_of Tryz.type3, rfl⟩, by decide⟩
instance : Fl Tryz.prog 247 2 2 := ⟨_, _, _, Tryz.underlying247, rfl, rfl, ⟨_, info_of Tryz.type4, rfl⟩, by decide⟩
instance : Fl Tryz.prog 247 3 3 := ⟨_, _, _, Tryz.underlying247, rfl, rfl, ⟨_, info_of Tryz.type3, rfl⟩, by decide⟩
instance : Fl Tryz.prog 247 4 4 := ⟨_, _, _, Tryz.underlying247, rfl, rfl, ⟨_, info_of Tryz.type27, rfl⟩, by decide⟩
instance : Fl Tryz.prog 247 5 5 := ⟨_, _, _, Tryz.underlying247, rfl, rfl, ⟨_, info_of Tryz.type56, rfl⟩, by decide⟩
instance : Cz Tryz.prog 258 2 := ⟨_, info_of Tryz.type258, rfl⟩
instance : Fl Tryz.prog 258 0 0 := ⟨_, _, _, Tryz.underlying258, rfl, rfl, ⟨_, info_of Tryz.type3, rfl⟩, by decide⟩
instance : Fl Tryz.prog 258 1 1 := ⟨_, _, _, Tryz.underlying258, rfl, rfl, ⟨_, info_of Tryz.type3, rfl⟩, by decide⟩
instance : Cz Tryz.prog 272 1 := ⟨_, info_of Tryz.type272, rfl⟩
instance : Ag Tryz.prog 272 false := ⟨_, Tryz.underlying272, rfl⟩
instance : Fl Tryz.prog 274 0 0 := ⟨_, _, _, Tryz.underlying274, rfl, rfl, ⟨_, info_of Tryz.type3, rfl⟩, by decide⟩
instance : Fl Tryz.prog 274 1 1 := ⟨_, _, _, Tryz.underlying274, rfl, rfl, ⟨_, info_of Tryz.type3, rfl⟩, by decide⟩
instance : Fl Tryz.prog 274 2 2 := ⟨_, _, _, Tryz.underlying274, rfl, rfl, ⟨_, info_of Tryz.type36, rfl⟩, by decide⟩
instance : Fl Tryz.prog 277 0 0 := ⟨_, _, _, Tryz.underlying277, rfl, rfl, ⟨_, info_of Tryz.type3, rfl⟩, by decide⟩
instance : Fl Tryz.prog 277 1 1 := ⟨_, _, _, Tryz.underlying277, rfl, rfl, ⟨_, info_of Tryz.type4, rfl⟩, by decide⟩
instance : Fl Tryz.prog 277 2 2 := ⟨_, _, _, Tryz.underlying277, rfl, rfl, ⟨_, info_of Tryz.type104, rfl⟩, by decide⟩
instance : Fl Tryz.prog 281 0 0 := ⟨_, _, _, Tryz.underlying281, rfl, rfl, ⟨_, info_of Tryz.type3, rfl⟩, by decide⟩
instance : Fl Tryz.prog 281 1 1 := ⟨_, _, _, Tryz.underlying281, rfl, rfl, ⟨_, info_of Tryz.type4, rfl⟩, by decide⟩
instance : Body Tryz.prog 4 Tryz.f4 ((Tryz.f4.body).getD .skip) 38 := ⟨Tryz.func4, rfl, rfl, rfl⟩
instance : Body Tryz.prog 14 Tryz.f14 ((Tryz.f14.body).getD .skip) 21 := ⟨Tryz.func14, rfl, rfl, rfl⟩
instance : Body Tryz.prog 15 Tryz.f15 ((Tryz.f15.body).getD .skip) 13 := ⟨Tryz.func15, rfl, rfl, rfl⟩
instance : Body Tryz.prog 16 Tryz.f16 ((Tryz.f16.body).getD .skip) 37 := ⟨Tryz.func16, rfl, rfl, rfl⟩
instance : Body Tryz.prog 17 Tryz.f17 ((Tryz.f17.body).getD .skip) 35 := ⟨Tryz.func17, rfl, rfl, rfl⟩
instance : Body Tryz.prog 18 Tryz.f18 ((Tryz.f18.body).getD .skip) 31 := ⟨Tryz.func18, rfl, rfl, rfl⟩
instance : Body Tryz.prog 19 Tryz.f19 ((Tryz.f19.body).getD .skip) 33 := ⟨Tryz.func19, rfl, rfl, rfl⟩
instance : Body Tryz.prog 20 Tryz.f20 ((Tryz.f20.body).getD .skip) 58 := ⟨Tryz.func20, rfl, rfl, rfl⟩
instance : Body Tryz.prog 21 Tryz.f21 ((Tryz.f21.body).getD .skip) 25 := ⟨Tryz.func21, rfl, rfl, rfl⟩
instance : Body Tryz.prog 22 Tryz.f22 ((Tryz.f22.body).getD .skip) 44 := ⟨Tryz.func22, rfl, rfl, rfl⟩
instance : Body Tryz.prog 23 Tryz.f23 ((Tryz.f23.body).getD .skip) 31 := ⟨Tryz.func23, rfl, rfl, rfl⟩
instance : Body Tryz.prog 27 Tryz.f27 ((Tryz.f27.body).getD .skip) 45 := ⟨Tryz.func27, rfl, rfl, rfl⟩
instance : Body Tryz.prog 28 Tryz.f28 ((Tryz.f28.body).getD .skip) 21 := ⟨Tryz.func28, rfl, rfl, rfl⟩
instance : Body Tryz.prog 29 Tryz.f29 ((Tryz.f29.body).getD .skip) 13 := ⟨Tryz.func29, rfl, rfl, rfl⟩
instance : Body Tryz.prog 30 Tryz.f30 ((Tryz.f30.body).getD .skip) 60 := ⟨Tryz.func30, rfl, rfl, rfl⟩
instance : Body Tryz.prog 31 Tryz.f31 ((Tryz.f31.body).getD .skip) 65 := ⟨Tryz.func31, rfl, rfl, rfl⟩
instance : Body Tryz.prog 32 Tryz.f32 ((Tryz.f32.body).getD .skip) 35 := ⟨Tryz.func32, rfl, rfl, rfl⟩
instance : Body Tryz.prog 33 Tryz.f33 ((Tryz.f33.body).getD .skip) 6 := ⟨Tryz.func33, rfl, rfl, rfl⟩
instance : Body Tryz.prog 34 Tryz.f34 ((Tryz.f34.body).getD .skip) 6 := ⟨Tryz.func34, rfl, rfl, rfl⟩
instance : Body Tryz.prog 35 Tryz.f35 ((Tryz.f35.body).getD .skip) 84 := ⟨Tryz.func35, rfl, rfl, rfl⟩
instance : Body Tryz.prog 36 Tryz.f36 ((Tryz.f36.body).getD .skip) 148 := ⟨Tryz.func36, rfl, rfl, rfl⟩
instance : Body Tryz.prog 37 Tryz.f37 ((Tryz.f37.body).getD .skip) 21 := ⟨Tryz.func37, rfl, rfl, rfl⟩
instance : Body Tryz.prog 39 Tryz.f39 ((Tryz.f39.body).getD .skip) 41 := ⟨Tryz.func39, rfl, rfl, rfl⟩
instance : Body Tryz.prog 40 Tryz.f40 ((Tryz.f40.body).getD .skip) 52 := ⟨Tryz.func40, rfl, rfl, rfl⟩
instance : Body Tryz.prog 42 Tryz.f42 ((Tryz.f42.body).getD .skip) 67 := ⟨Tryz.func42, rfl, rfl, rfl⟩
instance : Body Tryz.prog 47 Tryz.f47 ((Tryz.f47.body).getD .skip) 10 := ⟨Tryz.func47, rfl, rfl, rfl⟩
instance : Body Tryz.prog 48 Tryz.f48 ((Tryz.f48.body).getD .skip) 117 := ⟨Tryz.func48, rfl, rfl, rfl⟩
instance : Body Tryz.prog 49 Tryz.f49 ((Tryz.f49.body).getD .skip) 11 := ⟨Tryz.func49, rfl, rfl, rfl⟩
instance : Body Tryz.prog 50 Tryz.f50 ((Tryz.f50.body).getD .skip) 4 := ⟨Tryz.func50, rfl, rfl, rfl⟩
instance : Body Tryz.prog 51 Tryz.f51 ((Tryz.f51.body).getD .skip) 30 := ⟨Tryz.func51, rfl, rfl, rfl⟩
instance : Body Tryz.prog 52 Tryz.f52 ((Tryz.f52.body).getD .skip) 33 := ⟨Tryz.func52, rfl, rfl, rfl⟩
instance : Body Tryz.prog 53 Tryz.f53 ((Tryz.f53.body).getD .skip) 43 := ⟨Tryz.func53, rfl, rfl, rfl⟩
instance : Body Tryz.prog 54 Tryz.f54 ((Tryz.f54.body).getD .skip) 52 := ⟨Tryz.func54, rfl, rfl, rfl⟩
instance : Body Tryz.prog 55 Tryz.f55 ((Tryz.f55.body).getD .skip) 8 := ⟨Tryz.func55, rfl, rfl, rfl⟩
instance : Body Tryz.prog 56 Tryz.f56 ((Tryz.f56.body).getD .skip) 35 := ⟨Tryz.func56, rfl, rfl, rfl⟩
instance : Body Tryz.prog 57 Tryz.f57 ((Tryz.f57.body).getD .skip) 42 := ⟨Tryz.func57, rfl, rfl, rfl⟩
instance : Body Tryz.prog 58 Tryz.f58 ((Tryz.f58.body).getD .skip) 7 := ⟨Tryz.func58, rfl, rfl, rfl⟩
instance : Body Tryz.prog 59 Tryz.f59 ((Tryz.f59.body).getD .skip) 11 := ⟨Tryz.func59, rfl, rfl, rfl⟩
instance : Body Tryz.prog 60 Tryz.f60 ((Tryz.f60.body).getD .skip) 22 := ⟨Tryz.func60, rfl, rfl, rfl⟩
instance : Body Tryz.prog 61 Tryz.f61 ((Tryz.f61.body).getD .skip) 9 := ⟨Tryz.func61, rfl, rfl, rfl⟩
instance : Body Tryz.prog 62 Tryz.f62 ((Tryz.f62.body).getD .skip) 13 := ⟨Tryz.func62, rfl, rfl, rfl⟩
instance : Body Tryz.prog 63 Tryz.f63 ((Tryz.f63.body).getD .skip) 21 := ⟨Tryz.func63, rfl, rfl, rfl⟩
instance : Body Tryz.prog 65 Tryz.f65 ((Tryz.f65.body).getD .skip) 7 := ⟨Tryz.func65, rfl, rfl, rfl⟩
instance : Body Tryz.prog 69 Tryz.f69 ((Tryz.f69.body).getD .skip) 13 := ⟨Tryz.func69, rfl, rfl, rfl⟩
instance : Body Tryz.prog 74 Tryz.f74 ((Tryz.f74.body).getD .skip) 102 := ⟨Tryz.func74, rfl, rfl, rfl⟩
instance : Body Tryz.prog 75 Tryz.f75 ((Tryz.f75.body).getD .skip) 57 := ⟨Tryz.func75, rfl, rfl, rfl⟩
instance : Body Tryz.prog 76 Tryz.f76 ((Tryz.f76.body).getD .skip) 24 := ⟨Tryz.func76, rfl, rfl, rfl⟩
instance : Body Tryz.prog 77 Tryz.f77 ((Tryz.f77.body).getD .skip) 41 := ⟨Tryz.func77, rfl, rfl, rfl⟩
instance : Body Tryz.prog 78 Tryz.f78 ((Tryz.f78.body).getD .skip) 49 := ⟨Tryz.func78, rfl, rfl, rfl⟩
instance : Body Tryz.prog 79 Tryz.f79 ((Tryz.f79.body).getD .skip) 8 := ⟨Tryz.func79, rfl, rfl, rfl⟩
instance : Body Tryz.prog 80 Tryz.f80 ((Tryz.f80.body).getD .skip) 21 := ⟨Tryz.func80, rfl, rfl, rfl⟩
instance : Body Tryz.prog 81 Tryz.f81 ((Tryz.f81.body).getD .skip) 9 := ⟨Tryz.func81, rfl, rfl, rfl⟩
instance : Body Tryz.prog 83 Tryz.f83 ((Tryz.f83.body).getD .skip) 9 := ⟨Tryz.func83, rfl, rfl, rfl⟩
instance : Body Tryz.prog 84 Tryz.f84 ((Tryz.f84.body).getD .skip) 9 := ⟨Tryz.func84, rfl, rfl, rfl⟩
instance : Body Tryz.prog 89 Tryz.f89 ((Tryz.f89.body).getD .skip) 23 := ⟨Tryz.func89, rfl, rfl, rfl⟩
instance : Body Tryz.prog 91 Tryz.f91 ((Tryz.f91.body).getD .skip) 8 := ⟨Tryz.func91, rfl, rfl, rfl⟩
instance : Body Tryz.prog 96 Tryz.f96 ((Tryz.f96.body).getD .skip) 10 := ⟨Tryz.func96, rfl, rfl, rfl⟩
instance : Body Tryz.prog 98 Tryz.f98 ((Tryz.f98.body).getD .skip) 9 := ⟨Tryz.func98, rfl, rfl, rfl⟩
instance : Body Tryz.prog 101 Tryz.f101 ((Tryz.f101.body).getD .skip) 10 := ⟨Tryz.func101, rfl, rfl, rfl⟩
instance : Body Tryz.prog 105 Tryz.f105 ((Tryz.f105.body).getD .skip) 62 := ⟨Tryz.func105, rfl, rfl, rfl⟩
instance : Body Tryz.prog 107 Tryz.f107 ((Tryz.f107.body).getD .skip) 54 := ⟨Tryz.func107, rfl, rfl, rfl⟩
instance : Body Tryz.prog 114 Tryz.f114 ((Tryz.f114.body).getD .skip) 115 := ⟨Tryz.func114, rfl, rfl, rfl⟩
instance : Body Tryz.prog 120 Tryz.f120 ((Tryz.f120.body).getD .skip) 124 := ⟨Tryz.func120, rfl, rfl, rfl⟩
instance : Body Tryz.prog 121 Tryz.f121 ((Tryz.f121.body).getD .skip) 49 := ⟨Tryz.func121, rfl, rfl, rfl⟩
instance : Body Tryz.prog 122 Tryz.f122 ((Tryz.f122.body).getD .skip) 23 := ⟨Tryz.func122, rfl, rfl, rfl⟩
instance : Body Tryz.prog 123 Tryz.f123 ((Tryz.f123.body).getD .skip) 52 := ⟨Tryz.func123, rfl, rfl, rfl⟩
instance : Body Tryz.prog 124 Tryz.f124 ((Tryz.f124.body).getD .skip) 64 := ⟨Tryz.func124, rfl, rfl, rfl⟩
instance : Body Tryz.prog 125 Tryz.f125 ((Tryz.f125.body).getD .skip) 144 := ⟨Tryz.func125, rfl, rfl, rfl⟩
instance : Body Tryz.prog 126 Tryz.f126 ((Tryz.f126.body).getD .skip) 26 := ⟨Tryz.func126, rfl, rfl, rfl⟩
instance : Body Tryz.prog 127 Tryz.f127 ((Tryz.f127.body).getD .skip) 8 := ⟨Tryz.func127, rfl, rfl, rfl⟩
instance : Body Tryz.prog 128 Tryz.f128 ((Tryz.f128.body).getD .skip) 21 := ⟨Tryz.func128, rfl, rfl, rfl⟩
instance : Body Tryz.prog 129 Tryz.f129 ((Tryz.f129.body).getD .skip) 24 := ⟨Tryz.func129, rfl, rfl, rfl⟩
instance : Body Tryz.prog 130 Tryz.f130 ((Tryz.f130.body).getD .skip) 27 := ⟨Tryz.func130, rfl, rfl, rfl⟩
instance : Body Tryz.prog 131 Tryz.f131 ((Tryz.f131.body).getD .skip) 14 := ⟨Tryz.func131, rfl, rfl, rfl⟩
instance : Body Tryz.prog 133 Tryz.f133 ((Tryz.f133.body).getD .skip) 34 := ⟨Tryz.func133, rfl, rfl, rfl⟩
instance : Body Tryz.prog 138 Tryz.f138 ((Tryz.f138.body).getD .skip) 8 := ⟨Tryz.func138, rfl, rfl, rfl⟩
instance : Body Tryz.prog 139 Tryz.f139 ((Tryz.f139.body).getD .skip) 21 := ⟨Tryz.func139, rfl, rfl, rfl⟩
instance : Body Tryz.prog 146 Tryz.f146 ((Tryz.f146.body).getD .skip) 27 := ⟨Tryz.func146, rfl, rfl, rfl⟩
instance : Body Tryz.prog 165 Tryz.f165 ((Tryz.f165.body).getD .skip) 56 := ⟨Tryz.func165, rfl, rfl, rfl⟩
instance : Body Tryz.prog 166 Tryz.f166 ((Tryz.f166.body).getD .skip) 27 := ⟨Tryz.func166, rfl, rfl, rfl⟩
instance : Body Tryz.prog 167 Tryz.f167 ((Tryz.f167.body).getD .skip) 33 := ⟨Tryz.func167, rfl, rfl, rfl⟩
instance : Body Tryz.prog 168 Tryz.f168 ((Tryz.f168.body).getD .skip) 22 := ⟨Tryz.func168, rfl, rfl, rfl⟩
instance : Body Tryz.prog 169 Tryz.f169 ((Tryz.f169.body).getD .skip) 25 := ⟨Tryz.func169, rfl, rfl, rfl⟩
instance : Body Tryz.prog 276 Tryz.f276 ((Tryz.f276.body).getD .skip) 11 := ⟨Tryz.func276, rfl, rfl, rfl⟩
instance : Body Tryz.prog 277 Tryz.f277 ((Tryz.f277.body).getD .skip) 11 := ⟨Tryz.func277, rfl, rfl, rfl⟩
instance : Body Tryz.prog 278 Tryz.f278 ((Tryz.f278.body).getD .skip) 8 := ⟨Tryz.func278, rfl, rfl, rfl⟩
end Go.Sl
end
section
set_option linter.unusedVariables false
namespace Go.Sl
open Go.Conc
def flat {α : Type} (f : α → List Value) (l : List α) : List Value := l.flatMap f
section
variable {α : Type} {f : α → List Value} {z : Nat}
theorem flat_len (hz : ∀ a, (f a).length = z) : ∀ (l : List α), (flat f l).length = l.length * z
 | [] => by simp [flat]
 | a :: l => by
  have := flat_len hz l
  simp only [flat, List.flatMap_cons, List.length_append, List.length_cons] at this ⊢
  rw [this, hz, Nat.add_mul]; omega
theorem flat_get (hz : ∀ a, (f a).length = z) : ∀ (l : List α) (pad : List Value) (i j : Nat) (hi : i < l.length), j < z → (flat f l ++ pad)[i * z + j]? = (f l[i])[j]?
 | a :: l, pad, 0, j, _, hj => by
  simp only [flat, List.flatMap_cons, Nat.zero_mul, Nat.zero_add, List.append_assoc, List.getElem_cons_zero]
  rw [List.getElem?_append_left (by rw [hz]; exact hj)]
 | a :: l, pad, i + 1, j, hi, hj => by
  have := flat_get hz l pad i j (by simpa using hi) hj
  simp only [flat, List.flatMap_cons, List.append_assoc, List.getElem_cons_succ] at this ⊢
  have e : (i + 1) * z + j = z + (i * z + j) := by rw [Nat.add_mul]; omega
  rw [List.getElem?_append_right (by rw [hz]; omega), hz, e]
  have : z + (i * z + j) - z = i * z + j := by omega
  rw [this]; assumption
theorem flat_take (hz : ∀ a, (f a).length = z) : ∀ (l : List α) (pad : List Value) (i : Nat) (hi : i < l.length), ((flat f l ++ pad).drop (i * z)).take z = f l[i]
 | a :: l, pad, 0, _ => by
  simp only [flat, List.flatMap_cons, Nat.zero_mul, List.drop_zero, List.append_assoc, List.getElem_cons_zero]
  rw [← hz a, List.take_left]
 | a :: l, pad, i + 1, hi => by
  have := flat_take hz l pad i (by simpa using hi)
  simp only [flat, List.flatMap_cons, List.append_assoc, List.getElem_cons_succ] at this ⊢
  have e : (i + 1) * z = (f a).length + i * z := by rw [hz, Nat.add_mul]; omega
  rw [e, List.drop_append]
  have h1 : (f a).drop ((f a).length + i * z) = [] := List.drop_eq_nil_of_le (by omega)
  have h2 : (f a).length + i * z - (f a).length = i * z := by omega
  rw [h1, h2, List.nil_append]; exact this
theorem flat_app (l m : List α) : flat f (l ++ m) = flat f l ++ flat f m := by simp [flat]
theorem flat_cons (a : α) (l : List α) : flat f (a :: l) = f a ++ flat f l := by simp [flat]
end
def rowA {α : Type} (f : α → List Value) (l : List α) (pad : List Value) : Array Value := (flat f l ++ pad).toArray
section
variable {α : Type} {f : α → List Value} {z : Nat} {l : List α} {pad : List Value}
theorem rowA_size (hz : ∀ a, (f a).length = z) : (rowA f l pad).size = l.length * z + pad.length := by simp [rowA, flat_len hz]
theorem rowA_get (hz : ∀ a, (f a).length = z) {off i j : Nat} (hi : i < l.length) (hj : j < z) (ho : off = i * z + j) : (rowA f l pad)[off]? = (f l[i])[j]? := by
 subst ho; unfold rowA; rw [List.getElem?_toArray]; exact flat_get hz l pad i j hi hj
theorem rowA_piece (hz : ∀ a, (f a).length = z) {off i : Nat} (hi : i < l.length) (ho : off = i * z) : (rowA f l pad).extract off (off + z) = (f l[i]).toArray := by
 subst ho; unfold rowA
 rw [List.extract_toArray]
 congr 1
 rw [← flat_take hz l pad i hi, List.extract_eq_take_drop]
 congr 1; omega
theorem wr_toArray : ∀ (vs : List Value) (a b c : List Value), b.length = vs.length → wr (a ++ b ++ c).toArray a.length vs = (a ++ vs ++ c).toArray
 | [], a, b, c, h => by
  have : b = [] := List.length_eq_zero_iff.1 (by simpa using h)
  subst this; rfl
 | v :: vs, a, [], c, h => by simp at h
 | v :: vs, a, x :: b, c, h => by
  unfold wr
  have h1 : ((a ++ x :: b ++ c).toArray).setIfInBounds a.length v = ((a ++ [v]) ++ b ++ c).toArray := by
   simp [List.set_append]
  have h2 : a.length + 1 = (a ++ [v]).length := by simp
  rw [h1, h2, wr_toArray vs (a ++ [v]) b c (by simpa using h)]
  simp
theorem rowA_set (hz : ∀ a, (f a).length = z) {off i : Nat} (hi : i < l.length) (ho : off = i * z) (a : α) : wr (rowA f l pad) off (f a) = rowA f (l.set i a) pad := by
 subst ho
 unfold rowA
 have hl : l = l.take i ++ l[i] :: l.drop (i + 1) := by simp
 have h1 : flat f l ++ pad = flat f (l.take i) ++ f l[i] ++ (flat f (l.drop (i + 1)) ++ pad) := by
  conv => lhs; rw [hl, flat_app, flat_cons]
  simp
 have h2 : (flat f (l.take i)).length = i * z := by rw [flat_len hz, List.length_take, Nat.min_eq_left (by omega)]
 rw [h1, ← h2, wr_toArray _ _ _ _ (by rw [hz, hz])]
 congr 1
 rw [List.set_eq_take_append_cons_drop, if_pos hi, flat_app, flat_cons]
 simp
theorem rowA_set1 (hz : ∀ a, (f a).length = z) {off i j : Nat} (hi : i < l.length) (hj : j < z) (ho : off = i * z + j) {v : Value} (a : α) (ha : f a = (f l[i]).set j v) : (rowA f l pad).setIfInBounds off v = rowA f (l.set i a) pad := by
 subst ho
 unfold rowA
 have hl : l = l.take i ++ l[i] :: l.drop (i + 1) := by simp
 have h1 : flat f l ++ pad = flat f (l.take i) ++ (f l[i] ++ (flat f (l.drop (i + 1)) ++ pad)) := by
  conv => lhs; rw [hl, flat_app, flat_cons]
  simp
 have h2 : (flat f (l.take i)).length = i * z := by rw [flat_len hz, List.length_take, Nat.min_eq_left (by omega)]
 have h3 : j < (f l[i]).length := by rw [hz]; exact hj
 rw [h1, List.setIfInBounds_toArray]
 congr 1
 rw [List.set_append_right _ _ (by omega), h2, Nat.add_sub_cancel_left, List.set_append_left _ _ h3, ← ha, List.set_eq_take_append_cons_drop, if_pos hi, flat_app, flat_cons]
 simp
theorem rowA_room (hz : ∀ a, (f a).length = z) {off : Nat} (ho : off = l.length * z) (m : List α) (hp : m.length * z ≤ pad.length) : wr (rowA f l pad) off (flat f m) = rowA f (l ++ m) (pad.drop (m.length * z)) := by
 subst ho
 unfold rowA
 have h2 : (flat f l).length = l.length * z := flat_len hz l
 have h1 : flat f l ++ pad = flat f l ++ pad.take (m.length * z) ++ pad.drop (m.length * z) := by simp
 rw [h1, ← h2, wr_toArray _ _ _ _ (by rw [List.length_take, flat_len hz, Nat.min_eq_left hp]), flat_app]
end
section
variable {P : Program} {main : Bool} {B : Bad} {R : Nat → Goroutine → Array Obj → Prop} {d : Nat} {As As' : List HP}
variable {fn : FuncId} {kd : Kd} {n : Nat} {e : Nat → Value} {ds : List Deferred} {k : List Item} {cs : List Frame}
variable {ops : Array Oper} {i : Nat} {rest : List Nat} {dst : Option Nat} {t : Nat} {ty : TypeId} {pos : String} {af : Array Edge} {gd : Option (Nat × Bool)} {x y z : Operand} {v u : Value} {b off : Nat} {c : Array Value} {el tt t2 : TypeId}
theorem Closed.ln (C : Closed P main B R) {a : Option Addr} {len cap : Nat} [cE : El P tt el] (ho : nthO ops i = some ⟨some t, .call ⟨.builtin .len, #[x], #[tt]⟩, ty, pos, af, gd⟩) (h : Nx R d As fn kd n e ds ops rest k cs t (.int .i64 len))
  (hx : ev n e x = .slice a len cap := by rfl) (hw : wantB ops n e gd = true := by rfl) : Nw R d As fn kd n e ds ops i rest k cs :=
 C.val ho hw (fun B H d Q q' => by
  unfold execOp; simp only [resolve]
  refine okS_do (okS_pure ?_)
  simp only [List.map_toArray, List.map_cons, List.map_nil, hx]
  unfold invoke builtin
  refine okS_do ?_
  unfold Builtin.len_
  refine okS_do (pu_und cE.h B H d _ ?_)
  exact q') h
end
end Go.Sl
end
section
set_option linter.unusedVariables false
namespace Go.Sl
open Go.Conc
structure SliceV where
 a : Option Addr
 len : Nat
 cap : Nat
abbrev SliceV.v (s : SliceV) : Value := .slice s.a s.len s.cap
def nilS : SliceV := ⟨none, 0, 0⟩
def slP {α : Type} (f : α → List Value) (z : Nat) (el : TypeId) (s : SliceV) (l : List α) : HP := fun h =>
 (s = nilS ∧ l = []) ∨ ∃ b pad, s = ⟨some ⟨b, 0, none⟩, l.length, s.cap⟩ ∧ l.length * z + pad.length = s.cap * z ∧ l.length ≤ s.cap ∧ pts b (.cells (rowA f l pad) el (0, 0)) h
def SrcOk (B : Bad) (H : Array Obj) (z n : Nat) (x : Value) (xs : List Value) : Prop :=
 (x = .slice none 0 0 ∧ n = 0 ∧ xs = []) ∨ ∃ b off cap c ty, x = .slice (some ⟨b, off, none⟩) n cap ∧ hp H b = some (.cells c ty (0, 0)) ∧ off + n * z ≤ c.size ∧ c.extract off (off + n * z) = xs.toArray ∧ ∀ j, B.sh ty j = false
section
variable {P : Program} {B : Bad} {H : Array Obj} {d : Nat} {α : Type} {f : α → List Value} {z : Nat} {el tt t3 : TypeId}
theorem SrcOk.len {n : Nat} {x : Value} {xs : List Value} (s : SrcOk B H z n x xs) : Pu P (Builtin.lenOf x) n := by
 rcases s with ⟨rfl, rfl, _⟩ | ⟨b, off, cap, c, ty, rfl, _⟩ <;> exact fun _ _ _ _ q => q
theorem okS_first {n : Nat} {x : Value} {xs : List Value} {Q : Array Value → Array Obj → Nat → Prop} (s : SrcOk B H z n x xs) (q : Q xs.toArray H d) : okS P B (Builtin.firstCells z n x) H d Q := by
 rcases s with ⟨rfl, rfl, rfl⟩ | ⟨b, off, cap, c, ty, rfl, h1, h2, h3, h4⟩
 ·exact q
 ·unfold Builtin.firstCells
  exact okS_loadCells h1 h2 h4 (by rw [h3]; exact q)
theorem okS_askRoom {n : Nat} {Q : Unit → Array Obj → Nat → Prop} (q : Q () H d) : okS P B (askRoom n) H d Q := by
 unfold askRoom; split
 ·exact ⟨trivial, q⟩
 ·exact q
theorem okS_append {ty el3 bz : Nat} {zv : Value} {m : List α} {y : Value} {s : SliceV} {l : List α} {As : List HP} {Q : Value → Array Obj → Nat → Prop} [cE : El P tt el] [cE3 : El P t3 el3] [Cz P el z] [cB : Bz P el bz] [Zv P el zv]
  (hz : ∀ a, (f a).length = z) (h1 : ∀ a, ∀ v ∈ f a, oneCell v = true) (hzv : zv.cells.size = z) (hb : ∀ b j, s.a = some ⟨b, 0, none⟩ → B.rd b el j = false) (hsh : ∀ j, B.sh el j = false) (hb0 : bz ≠ 0) (hsz : (l.length + m.length) * bz ≤ 140737488355328)
  (hs : Sat (slP f z el s l :: As) (hp H)) (hsrc : SrcOk B H z m.length y (flat f m)) (q : ∀ s' H', s'.len = l.length + m.length → (s'.a = s.a ∨ s'.a = some ⟨H.size, 0, none⟩) → Sat (slP f z el s' (l ++ m) :: As) (hp H') → Q s'.v H' d) : okS P B (Builtin.append_ #[tt, t3] ty #[s.v, y]) H d Q := by
 have hslen : s.len = l.length := by
  obtain ⟨h', x, _⟩ := hs
  rcases x with ⟨rfl, rfl⟩ | ⟨b, pad, e, _⟩
  ·rfl
  ·rw [e]
 unfold Builtin.append_
 simp only [List.getElem?_toArray, List.getElem?_cons_zero, List.getElem?_cons_succ]
 refine okS_do (pu_und cE.h B H d _ ?_)
 simp only [SliceV.v]
 refine okS_do (pu_size B H d _ ?_)
 refine okS_do (pu_und cE3.h B H d _ (okS_do (okS_pure ?_)))
 simp only [Bool.false_eq_true, if_false, Bool.not_false, if_true]
 refine okS_do (hsrc.len B H d _ ?_)
 rw [hslen]
 split
 ·rename_i hle
  refine okS_do (okS_first hsrc ?_)
  obtain ⟨hh, x, hsub, hrest⟩ := hs
  rcases x with ⟨rfl, rfl⟩ | ⟨b, pad, e, hp1, hp2, hpt⟩
  ·have hm : m = [] := List.length_eq_zero_iff.1 (by simpa [nilS] using hle)
   subst hm
   refine okS_do (okS_pure (okS_pure ?_))
   exact q nilS H rfl (.inl rfl) ⟨hh, .inl ⟨rfl, rfl⟩, hsub, hrest⟩
  ·have hbase : s.a = some ⟨b, 0, none⟩ := by rw [e]
   simp only [hbase]
   have hget : hp H b = some (.cells (rowA f l pad) el (0, 0)) := by
    subst hpt; exact hsub b _ (by simp [one])
   refine okS_do ?_
   rw [add_of]
   have hml : (flat f m).length = m.length * z := flat_len hz m
   have hroom : m.length * z ≤ pad.length := by
    have : (l.length + m.length) * z ≤ s.cap * z := Nat.mul_le_mul_right z hle
    rw [Nat.add_mul] at this
    omega
   refine okS_storeCells (off := 0 + l.length * z) (flat f m) 0 hget ?_ ?_ (fun j _ _ => ⟨hb _ j hbase, hsh j⟩) ?_
   ·rw [rowA_size hz, hml]; omega
   ·intro v hv
    obtain ⟨a, _, ha⟩ := List.mem_flatMap.1 hv
    exact h1 a v ha
   ·refine okS_pure ?_
    rw [rowA_room hz (by omega) m hroom]
    refine q ⟨some ⟨b, 0, none⟩, l.length + m.length, s.cap⟩ _ rfl (.inl hbase.symm) ?_
    have hs' : Sat (pts b (.cells (rowA f l pad) el (0, 0)) :: As) (hp H) := ⟨hh, hpt, hsub, hrest⟩
    refine Sat.imp (fun h hh' => .inr ⟨b, pad.drop (m.length * z), by simp, ?_, ?_, hh'⟩) (hs'.set)
    ·simp only [List.length_append, List.length_drop, Nat.add_mul]; omega
    ·simpa using hle
 ·rename_i hgt
  have hgt' : s.cap < l.length + m.length := by omega
  obtain ⟨inf, hi, hbz⟩ := cB.h
  refine okS_do (pu_typeInfo hi B H d _ ?_)
  have hne : ¬ (((l.length + m.length : Nat) : Int) > IntKind.i64.max ∧ (False ∨ inf.bytes = 0)) := by
   rintro ⟨_, h2⟩
   rcases h2 with h2 | h2
   ·exact h2
   ·exact hb0 (hbz ▸ h2)
  rw [if_neg hne]
  refine okS_do (pu_typeInfo hi B H d _ ?_)
  have hfit := growslice_fits (bytes := bz) hgt' hsz
  rw [hbz, if_neg (by omega)]
  refine okS_do ?_
  show okS P B (.choose _ _) H d _
  simp only [okS, Question.forced, Bool.false_eq_true, if_false]
  intro t
  generalize hN : Question.cut (.appendCap (l.length + m.length) s.cap el) t = N
  have hNle : l.length + m.length ≤ N := by
   rw [← hN]; show _ ≤ l.length + m.length + t % (2 ^ 63 - (l.length + m.length)); omega
  show okS P B (_ >>= _) H d _
  refine okS_do (pu_typeInfo hi B H d _ ?_)
  refine okS_do (okS_askRoom ?_)
  have hold : SrcOk B H z l.length (.slice s.a l.length s.cap) (flat f l) := by
   obtain ⟨hh, x, hsub, hrest⟩ := hs
   rcases x with ⟨rfl, rfl⟩ | ⟨b, pad, e, hp1, hp2, hpt⟩
   ·exact .inl ⟨rfl, rfl, rfl⟩
   ·have hbase : s.a = some ⟨b, 0, none⟩ := by rw [e]
    have hget : hp H b = some (.cells (rowA f l pad) el (0, 0)) := by
     subst hpt; exact hsub b _ (by simp [one])
    have hfl : (flat f l).length = l.length * z := flat_len hz l
    refine .inr ⟨b, 0, s.cap, _, _, by rw [hbase], hget, by rw [rowA_size hz]; omega, ?_, fun j => hsh j⟩
    rw [Nat.zero_add, ← hfl]
    simp [rowA]
  refine okS_do (okS_first hold ?_)
  refine okS_do (okS_first hsrc ?_)
  refine okS_do (pu_zero B H d _ ?_)
  refine okS_do ?_
  unfold newRow
  refine okS_do ?_
  show okS P B (.new _ _) H d _
  simp only [okS]
  show okS P B (pure _) _ d _
  have hrow : (flat f l).toArray ++ (flat f m).toArray ++ Builtin.zeroCells zv.cells (N - (l.length + m.length)) = rowA f (l ++ m) (Builtin.zeroCells zv.cells (N - (l.length + m.length))).toList := by
   apply Array.ext'
   simp [rowA, flat_app]
  rw [hrow]
  refine okS_pure (okS_pure ?_)
  refine q ⟨some ⟨H.size, 0, none⟩, l.length + m.length, N⟩ _ rfl (.inr rfl) ?_
  have hd : Sat As (hp H) := hs.drop
  refine Sat.imp (fun h hh' => .inr ⟨H.size, _, by simp, ?_, by simpa using hNle, hh'⟩) (hd.push _)
  have hl : (Builtin.zeroCells zv.cells (N - (l.length + m.length))).toList.length = (N - (l.length + m.length)) * z := by simp [Builtin.zeroCells, hzv]
  show (l ++ m).length * z + _ = N * z
  rw [hl, List.length_append, ← Nat.add_mul]
  congr 1
  omega
theorem zip_wr (off : Nat) : ∀ (l : List Value) (j : Nat) (c : Array Value), (l.zipIdx j).foldl (fun cs (p : Value × Nat) => cs.setIfInBounds (off + p.2) p.1) c = wr c (off + j) l
 | [], _, _ => rfl
 | v :: l, j, c => by
  rw [List.zipIdx_cons, List.foldl_cons, zip_wr off l (j + 1)]
  rfl
theorem fill_all : ∀ (vs : List Value) (i : Nat) (a b : List Value), (∀ v ∈ vs, v.cells.size = z) → a.length = i * z → b.length = vs.length * z →
  Instr.fill (fun i => some (i * z, z)) (a ++ b).toArray ((vs.zipIdx i).map fun p => (p.2, p.1)) = some (a ++ vs.flatMap (·.cells.toList)).toArray
 | [], i, a, b, _, _, hb => by
  have : b = [] := List.length_eq_zero_iff.1 (by simpa using hb)
  subst this; simp [Instr.fill]
 | v :: vs, i, a, b, hv, ha, hb => by
  have hz := hv v (List.mem_cons_self ..)
  rw [List.length_cons, Nat.add_mul] at hb
  rw [List.zipIdx_cons, List.map_cons]
  unfold Instr.fill
  have hsz : (a ++ b).toArray.size = i * z + (vs.length * z + 1 * z) := by rw [List.size_toArray, List.length_append, ha, hb]
  simp only [hz, hsz]
  rw [if_neg (by simp)]
  have hf : Array.foldl (fun cs (x : Value × Nat) => match x with | (c, j) => cs.setIfInBounds (i * z + j) c) (a ++ b).toArray v.cells.zipIdx = wr (a ++ b).toArray (i * z) v.cells.toList := by
   rw [← Array.foldl_toList, Array.toList_zipIdx]
   exact zip_wr (i * z) v.cells.toList 0 _
  rw [hf]
  have hcl : v.cells.toList.length = z := by simpa using hz
  have hbz : b = b.take z ++ b.drop z := by simp
  have hw : wr (a ++ b).toArray (i * z) v.cells.toList = ((a ++ v.cells.toList) ++ b.drop z).toArray := by
   conv => lhs; rw [hbz, ← List.append_assoc, ← ha]
   rw [wr_toArray _ _ _ _ (by rw [List.length_take, hcl]; omega)]
  rw [hw, fill_all vs (i + 1) (a ++ v.cells.toList) (b.drop z) (fun x hx => hv x (List.mem_cons_of_mem _ hx)) (by rw [List.length_append, ha, hcl, Nat.add_mul]; omega) (by rw [List.length_drop, hb]; omega)]
  simp
section
variable {main : Bool} {R : Nat → Goroutine → Array Obj → Prop} {As As' : List HP}
variable {fn : FuncId} {kd : Kd} {n : Nat} {e : Nat → Value} {ds : List Deferred} {k : List Item} {cs : List Frame}
variable {ops : Array Oper} {i : Nat} {rest : List Nat} {dst : Option Nat} {t : Nat} {ty : TypeId} {pos : String} {af : Array Edge} {gd : Option (Nat × Bool)} {x y w : Operand} {v u : Value} {b off n' : Nat} {c : Array Value}
theorem Closed.ap (C : Closed P main B R) {el3 bz : Nat} {zv : Value} {m l : List α} {s : SliceV} {yv : Value} [cE : El P tt el] [cE3 : El P t3 el3] [Cz P el z] [cB : Bz P el bz] [Zv P el zv]
  (ho : nthO ops i = some ⟨some t, .call ⟨.builtin .append, #[x, y], #[tt, t3]⟩, ty, pos, af, gd⟩) (hz : ∀ a, (f a).length = z) (h1 : ∀ a, ∀ v ∈ f a, oneCell v = true)
  (hsrc : ∀ H, Sat (slP f z el s l :: As) (hp H) → SrcOk B H z m.length yv (flat f m)) (h : ∀ s', s'.len = l.length + m.length → Nx R d (slP f z el s' (l ++ m) :: As) fn kd n e ds ops rest k cs t s'.v)
  (hsz : (l.length + m.length) * bz ≤ 140737488355328 := by omega) (hx : ev n e x = s.v := by rfl) (hy : ev n e y = yv := by rfl) (hzv : zv.cells.size = z := by rfl) (hb0 : bz ≠ 0 := by decide) (hb : ∀ b j, B.rd b el j = false ∧ B.sh el j = false := by intro _ j; exact ⟨rfl, rfl⟩) (hw : wantB ops n e gd = true := by rfl) : Nw R d (slP f z el s l :: As) fn kd n e ds ops i rest k cs :=
 C.gen ho hw fun H s' => by
  unfold execOp; simp only [resolve]
  refine okS_do (okS_pure ?_)
  simp only [List.map_toArray, List.map_cons, List.map_nil, hx, hy]
  unfold invoke builtin
  refine okS_do ?_
  exact okS_append hz h1 hzv (fun b j _ => (hb b j).1) (fun j => (hb 0 j).2) hb0 hsz s' (hsrc H s') fun s'' H' hl _ hs => okS_pure ⟨_, hs, h s'' hl⟩
theorem Closed.bs (C : Closed P main B R) {zv : Value} {vs : List Value} {parts : Array (Nat × Operand)} [cE : El P tt el] [Cz P el z] [Zv P el zv] (ho : nthO ops i = some ⟨some t, .buildSlice tt n' parts, ty, pos, af, gd⟩)
  (h : ∀ b, Nx R d (pts b (.cells (vs.flatMap (·.cells.toList)).toArray el (0, 0)) :: As) fn kd n e ds ops rest k cs t (.slice (some ⟨b, 0, none⟩) n' n'))
  (hp : (parts.toList.map fun (i, x) => (i, ev n e x)) = (vs.zipIdx 0).map fun p => (p.2, p.1) := by rfl) (hn : vs.length = n' := by rfl) (hv : ∀ v ∈ vs, v.cells.size = z := by simp [Value.cells]) (h0 : n' * z ≠ 0 := by decide) (hm : n' * z ≤ 16777216 := by decide) (hw : wantB ops n e gd = true := by rfl) : Nw R d As fn kd n e ds ops i rest k cs :=
 C.gen ho hw fun H s => by
  unfold execOp; simp only [Instr.buildSlice]
  refine okS_do (okS_do (pu_und cE.h B H d _ ?_))
  refine okS_do (pu_size B H d _ ?_)
  rw [if_neg (by omega), if_neg h0]
  refine okS_do (pu_zero B H d _ (okS_do (okS_pure ?_)))
  have hfill := fill_all (z := z) vs 0 [] ((Array.range (n' * z)).map (zv.cells[· % zv.cells.size]!)).toList hv (by simp) (by simp [hn])
  have hp' : (parts.map fun x => (x.fst, ev n e x.snd)).toList = (vs.zipIdx 0).map fun p => (p.2, p.1) := by rw [Array.toList_map]; exact hp
  simp only [List.nil_append, Array.toArray_toList] at hfill
  rw [hp', hfill]
  refine okS_do ?_
  unfold newRow
  refine okS_do ?_
  show okS P B (.new _ _) H d _
  simp only [okS]
  show okS P B (pure _) _ d _
  exact okS_pure (okS_pure ⟨_, s.push _, h _⟩)
end
end
end Go.Sl
end
section
set_option linter.unusedVariables false
namespace Go.Sl
open Go.Conc
theorem zeros_row {α : Type} {f : α → List Value} {z : Nat} {a0 : α} {zc : Array Value} (hf : f a0 = zc.toList) (hz : zc.size = z) (h0 : z ≠ 0) : ∀ (L : Nat), (Array.range (L * z)).map (fun i => zc[i % zc.size]!) = rowA f (List.replicate L a0) [] := by
 intro L
 apply Array.ext_getElem?
 intro i
 have hfl : (f a0).length = z := by rw [hf]; simpa using hz
 have hrow : (rowA f (List.replicate L a0) [])[i]? = if i < L * z then some zc[i % z]! else none := by
  unfold rowA
  rw [List.getElem?_toArray, List.append_nil]
  induction L generalizing i with
  | zero => simp [flat]
  | succ L ih =>
   rw [List.replicate_succ, flat_cons]
   by_cases h : i < z
   ·rw [List.getElem?_append_left (by omega), hf, if_pos (by rw [Nat.add_mul]; omega), Nat.mod_eq_of_lt h]
    have hi : i < zc.size := by omega
    simp [hi]
   ·rw [List.getElem?_append_right (by omega), hfl, ih (i - z)]
    have e : i % z = (i - z) % z := by rw [Nat.mod_eq_sub_mod (by omega)]
    rw [e]
    have : (i - z < L * z) ↔ (i < (L + 1) * z) := by rw [Nat.add_mul]; omega
    simp only [this]
 rw [hrow]
 by_cases h : i < L * z
 ·simp [h, hz]
 ·simp [h]
section
variable {P : Program} {main : Bool} {B : Bad} {R : Nat → Goroutine → Array Obj → Prop} {d : Nat} {As As' : List HP} {α : Type} {f : α → List Value} {z : Nat}
variable {fn : FuncId} {kd : Kd} {n : Nat} {e : Nat → Value} {ds : List Deferred} {k : List Item} {cs : List Frame}
variable {ops : Array Oper} {i : Nat} {rest : List Nat} {dst : Option Nat} {t : Nat} {ty : TypeId} {pos : String} {af : Array Edge} {gd : Option (Nat × Bool)} {x y w : Operand} {v u : Value} {b off : Nat} {c : Array Value} {el tt t3 : TypeId} {kk k2 : IntKind}
theorem Closed.ms (C : Closed P main B R) {zv : Value} {bz : Nat} {a0 : α} {L : Int} [cE : El P tt el] [Cz P el z] [cB : Bz P el bz] [Zv P el zv] (ho : nthO ops i = some ⟨some t, .makeSlice tt x y, ty, pos, af, gd⟩) (hf : f a0 = zv.cells.toList)
  (h : ∀ b, Nx R d (pts b (.cells (rowA f (List.replicate L.toNat a0) []) el (0, 0)) :: As) fn kd n e ds ops rest k cs t (.slice (some ⟨b, 0, none⟩) L.toNat L.toNat))
  (hx : ev n e x = .int kk L := by rfl) (hy : ev n e y = .int k2 L := by rfl) (h0 : 0 ≤ L := by omega) (h1 : L * bz ≤ 281474976710656 := by omega) (hb0 : 0 < bz := by decide) (hzv : zv.cells.size = z := by rfl) (hz : z ≠ 0 := by decide) (hw : wantB ops n e gd = true := by rfl) : Nw R d As fn kd n e ds ops i rest k cs :=
 C.gen ho hw fun H s => by
  obtain ⟨inf, hi, hbz⟩ := cB.h
  have hL : L ≤ 281474976710656 := by
   rcases Int.lt_or_le 281474976710656 L with h | h
   ·have : L * 1 ≤ L * bz := Int.mul_le_mul_of_nonneg_left (by omega) h0
    omega
   ·exact h
  have hwr : IntKind.i64.wrap L = L := w64 (by omega) (by omega)
  unfold execOp; simp only [Instr.makeSlice, hx, hy]
  refine okS_do (okS_do (pu_und cE.h B H d _ ?_))
  refine okS_do (okS_pure (okS_do (okS_pure ?_)))
  refine okS_do (pu_typeInfo hi B H d _ ?_)
  rw [hwr, hbz]
  have hc : (bz : Int) * L ≤ 2 ^ 48 := by rw [Int.mul_comm]; exact h1
  rw [if_neg (by simp; omega)]
  refine okS_do (okS_askRoom ?_)
  refine okS_do (pu_size B H d _ ?_)
  by_cases hn : L.toNat * z = 0
  ·have hL0 : L.toNat = 0 := by
    rcases Nat.mul_eq_zero.1 hn with h | h
    ·exact h
    ·exact absurd h hz
   rw [if_pos hn, hL0]
   have e0 : ∀ g : Nat → Value, (Array.range (0 * z)).map g = rowA f (List.replicate 0 a0) [] := fun g => by simp [rowA, flat]
   refine okS_do (okS_pure (okS_do ?_))
   unfold newRow
   refine okS_do ?_
   rw [e0]
   show okS P B (.new _ _) H d _
   simp only [okS]
   show okS P B (pure _) _ d _
   have := h H.size
   rw [hL0] at this
   exact okS_pure (okS_pure ⟨_, s.push _, this⟩)
  ·rw [if_neg hn]
   refine okS_do (pu_zero B H d _ (okS_do (okS_pure (okS_do ?_))))
   unfold newRow
   refine okS_do ?_
   show okS P B (.new _ _) H d _
   simp only [okS]
   show okS P B (pure _) _ d _
   rw [zeros_row hf hzv hz]
   exact okS_pure (okS_pure ⟨_, s.push _, h _⟩)
theorem Closed.shi (C : Closed P main B R) {a : Option Addr} {len cap : Nat} {hi : Int} [cE : El P tt el] [Cz P el z] (ho : nthO ops i = some ⟨some t, .slice tt x none (some y) none, ty, pos, af, gd⟩) (h : Nx R d As fn kd n e ds ops rest k cs t (.slice a hi.toNat cap))
  (hx : ev n e x = .slice a len cap := by rfl) (hy : ev n e y = .int kk hi := by rfl) (hh : 0 ≤ hi ∧ hi ≤ cap := by constructor <;> omega) (hw : wantB ops n e gd = true := by rfl) : Nw R d As fn kd n e ds ops i rest k cs :=
 C.val ho hw (fun B H d Q q => by
  unfold execOp; simp only [Instr.sliceAt, hx, Option.map_some, Option.map_none, hy]
  refine okS_do (okS_do (pu_und cE.h B H d _ ?_))
  simp only [Instr.slice]
  refine okS_do (pu_und cE.h B H d _ ?_)
  simp only [Instr.sliceBounds, Instr.sliceBound, asIntOf]
  refine okS_do (okS_do (okS_pure (okS_do (okS_do (okS_pure ?_)))))
  rw [if_pos hh]
  refine okS_pure (okS_do (okS_pure (okS_pure (okS_do (pu_size B H d _ (okS_pure ?_))))))
  have : (if cap = 0 then a else a.map (·.add (0 * z))) = a := by
   split
   ·rfl
   ·cases a <;> simp [add_zero]
  rw [this]
  exact q) h
theorem Closed.slo (C : Closed P main B R) {len cap : Nat} {lo : Int} {a' : Addr} [cE : El P tt el] [Cz P el z] (ho : nthO ops i = some ⟨some t, .slice tt x (some y) none none, ty, pos, af, gd⟩) (h : Nx R d As fn kd n e ds ops rest k cs t (.slice (some a') (len - lo.toNat) (cap - lo.toNat)))
  (hx : ev n e x = .slice (some ⟨b, off, none⟩) len cap := by rfl) (hy : ev n e y = .int kk lo := by rfl) (ha : (if cap = lo.toNat then ⟨b, off, none⟩ else ⟨b, off + lo.toNat * z, none⟩) = a' := by rfl) (hh : 0 ≤ lo ∧ lo ≤ len := by constructor <;> omega) (hw : wantB ops n e gd = true := by rfl) : Nw R d As fn kd n e ds ops i rest k cs :=
 C.val ho hw (fun B H d Q q => by
  unfold execOp; simp only [Instr.sliceAt, hx, Option.map_some, Option.map_none, hy]
  refine okS_do (okS_do (pu_und cE.h B H d _ ?_))
  simp only [Instr.slice]
  refine okS_do (pu_und cE.h B H d _ ?_)
  simp only [Instr.sliceBounds, Instr.sliceBound, asIntOf]
  refine okS_do (okS_do (okS_pure (okS_do (okS_pure (okS_do (okS_do (okS_pure ?_)))))))
  rw [if_pos hh]
  refine okS_pure (okS_pure (okS_do (pu_size B H d _ (okS_pure ?_))))
  have : (if cap = lo.toNat then (some (⟨b, off, none⟩ : Addr)) else (some (⟨b, off, none⟩ : Addr)).map (·.add (lo.toNat * z))) = some a' := by
   rw [← ha]
   split
   ·rfl
   ·simp [add_of]
  rw [this]
  exact q) h
theorem Closed.cp (C : Closed P main B R) {len cap m : Nat} {yv : Value} {xs : List Value} [cE : El P tt el] [Cz P el z] (ho : nthO ops i = some ⟨some t, .call ⟨.builtin .copy, #[x, y], #[tt, t3]⟩, ty, pos, af, gd⟩)
  (hsrc : ∀ H, Sat As (hp H) → SrcOk B H z m yv xs) (hm : m ≤ len) (hxl : xs.length = m * z) (h1 : ∀ v ∈ xs, oneCell v = true)
  (h : Nx R d As' fn kd n e ds ops rest k cs t (.int .i64 m)) (hu : Upd b (.cells c el (0, 0)) (.cells (wr c off xs) el (0, 0)) As As')
  (hz : off + m * z ≤ c.size) (hx : ev n e x = .slice (some ⟨b, off, none⟩) len cap := by rfl) (hy : ev n e y = yv := by rfl) (hb : ∀ b j, B.rd b el j = false ∧ B.sh el j = false := by intro _ j; exact ⟨rfl, rfl⟩) (hw : wantB ops n e gd = true := by rfl) : Nw R d As fn kd n e ds ops i rest k cs :=
 C.gen ho hw fun H s => by
  unfold execOp; simp only [resolve]
  refine okS_do (okS_pure ?_)
  simp only [List.map_toArray, List.map_cons, List.map_nil, hx, hy]
  unfold invoke builtin
  refine okS_do ?_
  unfold Builtin.copy_
  simp only [List.getElem?_toArray, List.getElem?_cons_zero, List.getElem?_cons_succ]
  refine okS_do (pu_und cE.h B H d _ ?_)
  simp only
  have hs := hsrc H s
  refine okS_do (hs.len B H d _ ?_)
  have hmin : Nat.min m len = m := Nat.min_eq_left hm
  rw [hmin]
  refine okS_do (pu_size B H d _ (okS_do (okS_first hs ?_)))
  simp only
  refine okS_do (okS_storeCells (off := off) xs 0 (hu.has.get s) (by rw [hxl]; omega) h1 (fun j _ _ => hb _ j) ?_)
  exact okS_pure (okS_pure ⟨_, hu.set s, h⟩)
end
end Go.Sl
end
section
set_option linter.unusedVariables false
namespace Go.Sl
open Go.Conc
inductive Fo (A : HP) : List HP → List HP → Prop
 | head {As : List HP} : Fo A (A :: As) As
 | tail {X : HP} {As L : List HP} : Fo A As L → Fo A (X :: As) (X :: L)
theorem Fo.perm {A : HP} {As L : List HP} (x : Fo A As L) : As.Perm (A :: L) := by
 induction x with
 | head => exact .refl _
 | tail _ ih => exact (ih.cons _).trans (.swap _ _ _)
inductive ReF : List HP → List HP → List HP → Prop
 | nil {F : List HP} : ReF [] F F
 | cons {A : HP} {Bs As L F : List HP} : Fo A As L → ReF Bs L F → ReF (A :: Bs) As F
theorem ReF.perm {Bs As F : List HP} (x : ReF Bs As F) : As.Perm (Bs ++ F) := by
 induction x with
 | nil => exact .refl _
 | cons f _ ih => exact f.perm.trans (ih.cons _)
inductive Reo : List HP → List HP → Prop
 | refl {As : List HP} : Reo As As
 | nil {As : List HP} : Reo As []
 | cons {A : HP} {Bs As L : List HP} : Fo A As L → Reo L Bs → Reo As (A :: Bs)
 | drop {X : HP} {As Bs : List HP} : Reo As Bs → Reo (X :: As) Bs
theorem Reo.sat {As Bs : List HP} (x : Reo As Bs) : ∀ {h : HL}, Sat As h → Sat Bs h := by
 induction x with
 | refl => exact id
 | nil => exact fun _ => trivial
 | cons f _ ih => exact fun s => Sat.under (fun _ s => ih s) (s.perm f.perm)
 | drop _ ih => exact fun s => ih s.drop
section
variable {R : Nat → Goroutine → Array Obj → Prop} {d : Nat} {As Bs L : List HP} {g : Goroutine} {A : HP}
theorem At.fo (f : Fo A As L) (h : At R d (A :: L) g) : At R d As g := h.perm f.perm
theorem At.reo (x : Reo As Bs) (h : At R d Bs g) : At R d As g := fun H s => h H (x.sat s)
theorem At.turn {A' : HP} (f : Fo A As L) (t : ∀ h, A h → A' h) (h : At R d (A' :: L) g) : At R d As g := fun H s => h H ((s.perm f.perm).imp t)
theorem At.know {p : Prop} (f : Fo A As L) (t : ∀ h, A h → p) (h : p → At R d As g) : At R d As g := fun H s => h (by obtain ⟨h1, a, _⟩ := s.perm f.perm; exact t _ a) H s
end
section
variable {V W : Type}
def getM : List (Int × V) → Int → Option V
 | [], _ => none
 | p :: l, k => if p.1 = k then some p.2 else getM l k
def setM : List (Int × V) → Int → V → List (Int × V)
 | [], k, v => [(k, v)]
 | p :: l, k, v => if p.1 = k then (k, v) :: l else p :: setM l k v
def delM : List (Int × V) → Int → List (Int × V)
 | [], _ => []
 | p :: l, k => if p.1 = k then l else p :: delM l k
def mapV (g : V → W) (l : List (Int × V)) : List (Int × W) := l.map fun p => (p.1, g p.2)
theorem mapV_get (g : V → W) (k : Int) : ∀ l : List (Int × V), getM (mapV g l) k = (getM l k).map g
 | [] => rfl
 | p :: l => by
  have := mapV_get g k l
  simp only [mapV, List.map_cons, getM] at this ⊢
  split
  ·rfl
  ·exact this
theorem mapV_set (g : V → W) (k : Int) (v : V) : ∀ l : List (Int × V), setM (mapV g l) k (g v) = mapV g (setM l k v)
 | [] => rfl
 | p :: l => by
  have := mapV_set g k v l
  simp only [mapV, List.map_cons, setM] at this ⊢
  split
  ·simp
  ·simp [this]
theorem nodup_at {X : Type} {l : List X} (h : l.Nodup) {i j : Nat} {x : X} (hi : l[i]? = some x) (hj : l[j]? = some x) : i = j := by
 have hp := List.pairwise_iff_getElem.1 h
 obtain ⟨h1, e1⟩ := List.getElem?_eq_some_iff.1 hi
 obtain ⟨h2, e2⟩ := List.getElem?_eq_some_iff.1 hj
 rcases Nat.lt_trichotomy i j with z | z | z
 ·exact absurd (e1.trans e2.symm) (hp i j h1 h2 z)
 ·exact z
 ·exact absurd (e2.trans e1.symm) (hp j i h2 h1 z)
def idxM (k : Int) : List (Int × V) → Nat → Option (Nat × V)
 | [], _ => none
 | p :: l, i => if p.1 = k then some (i, p.2) else idxM k l (i + 1)
theorem idx_some {k : Int} : ∀ {l : List (Int × V)} {i j : Nat} {v : V}, idxM k l i = some (j, v) → ∃ n, j = i + n ∧ l[n]? = some (k, v) ∧ getM l k = some v ∧ (∀ w, setM l k w = l.set n (k, w)) ∧ delM l k = l.eraseIdx n
 | [], i, j, v, h => by cases h
 | p :: l, i, j, v, h => by
  unfold idxM at h
  split at h
  ·rename_i hp
   obtain ⟨rfl, rfl⟩ := Prod.mk.inj (Option.some.inj h)
   refine ⟨0, rfl, by rw [← hp]; rfl, by simp [getM, hp], fun w => by simp [setM, hp], by simp [delM, hp]⟩
  ·rename_i hp
   obtain ⟨n, rfl, h2, h3, h4, h5⟩ := idx_some h
   exact ⟨n + 1, by omega, by simpa using h2, by simp [getM, hp, h3], fun w => by simp [setM, hp, h4], by simp [delM, hp, h5]⟩
theorem idx_none {k : Int} : ∀ {l : List (Int × V)} {i : Nat}, idxM k l i = none → getM l k = none ∧ (∀ w, setM l k w = l ++ [(k, w)]) ∧ delM l k = l ∧ k ∉ l.map (·.1)
 | [], i, _ => ⟨rfl, fun _ => rfl, rfl, by simp⟩
 | p :: l, i, h => by
  unfold idxM at h
  split at h
  ·cases h
  ·rename_i hp
   obtain ⟨h1, h2, h3, h4⟩ := idx_none h
   exact ⟨by simp [getM, hp, h1], fun w => by simp [setM, hp, h2], by simp [delM, hp, h3], by simp [h4, Ne.symm hp]⟩
theorem getM_none {k : Int} {l : List (Int × V)} : getM l k = none ↔ k ∉ l.map (·.1) := by
 induction l with
 | nil => simp [getM]
 | cons p l ih =>
  unfold getM
  split
  ·rename_i h; subst h; simp
  ·rename_i h; rw [ih]; simp [Ne.symm h]
theorem getM_some_mem {k : Int} {v : V} {l : List (Int × V)} (h : getM l k = some v) : (k, v) ∈ l := by
 induction l with
 | nil => cases h
 | cons p l ih =>
  unfold getM at h
  split at h
  ·rename_i e; obtain rfl := Option.some.inj h; subst e; exact List.mem_cons_self ..
  ·exact List.mem_cons_of_mem _ (ih h)
theorem getM_of_mem {k : Int} {v : V} : ∀ {l : List (Int × V)}, (l.map (·.1)).Nodup → (k, v) ∈ l → getM l k = some v
 | p :: l, hn, hm => by
  rw [List.map_cons, List.nodup_cons] at hn
  unfold getM
  rcases List.mem_cons.1 hm with rfl | hm
  ·simp
  ·have : p.1 ≠ k := fun e => hn.1 (e ▸ List.mem_map_of_mem (f := (·.1)) hm)
   simp [this, getM_of_mem hn.2 hm]
theorem setM_keys {k : Int} {v : V} : ∀ {l : List (Int × V)}, (setM l k v).map (·.1) = if (getM l k).isSome then l.map (·.1) else l.map (·.1) ++ [k]
 | [] => rfl
 | p :: l => by
  have := setM_keys (k := k) (v := v) (l := l)
  unfold setM getM
  split
  ·rename_i h; subst h; simp
  ·simp only [List.map_cons, this]; split <;> simp
theorem setM_nodup {k : Int} {v : V} {l : List (Int × V)} (h : (l.map (·.1)).Nodup) : ((setM l k v).map (·.1)).Nodup := by
 rw [setM_keys]
 split
 ·exact h
 ·rename_i hs
  have : k ∉ l.map (·.1) := getM_none.1 (by simpa using hs)
  refine List.nodup_append.2 ⟨h, by simp, fun a ha b hb => ?_⟩
  simp at hb; subst hb; exact fun e => this (e ▸ ha)
theorem getM_setM {k k' : Int} {v : V} : ∀ {l : List (Int × V)}, getM (setM l k v) k' = if k' = k then some v else getM l k'
 | [] => by simp only [setM, getM]; by_cases h : k = k' <;> simp [h, eq_comm]
 | p :: l => by
  have := getM_setM (k := k) (k' := k') (v := v) (l := l)
  unfold setM
  split
  ·rename_i h; subst h; simp only [getM]
   by_cases h : p.1 = k'
   ·simp [h]
   ·have : ¬ k' = p.1 := fun e => h e.symm
    simp [h, this]
  ·rename_i h
   simp only [getM, this]
   by_cases h1 : p.1 = k'
   ·subst h1; simp [h]
   ·simp [h1]
end
def kvL (kk : IntKind) (l : List (Int × Value)) : List (Value × Value) := l.map fun p => (.int kk p.1, p.2)
structure MapR (kk : IntKind) (es : Array MapEntry) (clock : Nat) (l : List (Int × Value)) : Prop where
 kv : es.toList.map (fun e => (e.key, e.val)) = kvL kk l
 nd : (l.map (·.1)).Nodup
 bn : (es.toList.map (·.born)).Nodup
 lt : ∀ e ∈ es.toList, e.born < clock
def mapP {V : Type} (kk : IntKind) (g : V → Value) (b : Nat) (l : List (Int × V)) : HP := fun h => ∃ es clock, MapR kk es clock (mapV g l) ∧ pts b (.map es clock) h
section
variable {P : Program} {B : Bad} {H : Array Obj} {d : Nat} {kk : IntKind} {V : Type} {g : V → Value}
theorem findNow_eq (k : Int) : ∀ (es : List MapEntry) (l : List (Int × Value)) (i : Nat), es.map (fun e => (e.key, e.val)) = kvL kk l → Instr.findNow (.int kk) (.int kk k) es i = some (idxM k l i)
 | [], [], i, _ => rfl
 | [], p :: l, i, h => by cases h
 | e :: es, [], i, h => by cases h
 | e :: es, p :: l, i, h => by
  simp only [kvL, List.map_cons, List.cons.injEq, Prod.mk.injEq] at h
  obtain ⟨⟨h1, h2⟩, h3⟩ := h
  unfold Instr.findNow idxM
  simp only [h1, Instr.sameNow, if_true]
  by_cases hk : p.1 = k
  ·subst hk; simp [h2]
  ·have : (k == p.1) = false := by simpa using Ne.symm hk
   simp only [this, if_neg hk]
   exact findNow_eq k es l (i + 1) h3
theorem pu_checkKey {t : TypeId} [c : Ik P t kk] {em : Bool} {k : Int} : Pu P (Instr.checkKey em 10000 t (.int kk k)) () := by
 intro B H d Q q
 show okS P B (Instr.checkKey em (9999 + 1) t (.int kk k)) H d Q
 unfold Instr.checkKey
 exact okS_do (pu_und c.h B H d _ q)
theorem pu_findKey {t : TypeId} [c : Ik P t kk] {es : List MapEntry} {l : List (Int × Value)} {k : Int} (h : es.map (fun e => (e.key, e.val)) = kvL kk l) : Pu P (Instr.findKey t (.int kk k) es) (idxM k l 0) := fun B H d Q q => by
 unfold Instr.findKey
 refine okS_do (pu_und c.h B H d _ ?_)
 rw [findNow_eq k es l 0 h]; exact q
theorem okS_getObj {r : Nat} {o : Obj} {Q : Obj → Array Obj → Nat → Prop} (h : hp H r = some o) (hq : Obj.quiet o = true) (q : Q o H d) : okS P B (getObj r) H d Q := ⟨o, h, hq, q⟩
theorem okS_setObj {r : Nat} {o o₀ : Obj} {Q : Unit → Array Obj → Nat → Prop} (h : hp H r = some o₀) (hq : Obj.quiet o₀ = true) (hq' : Obj.quiet o = true) (q : Q () (H.setIfInBounds r o) d) : okS P B (setObj r o) H d Q := ⟨o₀, h, hq, hq', q⟩
theorem okS_lookup {tt key el : TypeId} {z : Value} [cM : Mp P tt key el] [Ik P key kk] [Zv P el z] {b : Nat} {l : List (Int × V)} {k : Int} {co : Bool} {As : List HP} {Q : Value → Array Obj → Nat → Prop} (s : Sat (mapP kk g b l :: As) (hp H))
  (q : Q (if co then .tuple #[((getM l k).map g).getD z, .bool (getM l k).isSome] else ((getM l k).map g).getD z) H d) : okS P B (Instr.lookup tt (.map (some b)) (.int kk k) co) H d Q := by
 obtain ⟨hh, ⟨es, clock, mr, hpt⟩, hsub, hr⟩ := s
 have hget : hp H b = some (.map es clock) := by subst hpt; exact hsub b _ (by simp [one])
 unfold Instr.lookup
 refine okS_do (pu_und cM.h B H d _ ?_)
 refine okS_do (okS_getObj hget rfl ?_)
 refine okS_do (okS_pure ?_)
 refine okS_do (pu_checkKey B H d _ ?_)
 refine okS_do (pu_findKey mr.kv B H d _ ?_)
 cases hi : idxM k (mapV g l) 0 with
 | none =>
  have := (idx_none hi).1
  rw [mapV_get, Option.map_eq_none_iff] at this
  rw [this] at q
  refine okS_do (pu_zero B H d _ (okS_pure ?_))
  cases co <;> exact q
 | some jv =>
  obtain ⟨j, v⟩ := jv
  obtain ⟨n, _, _, hg, _⟩ := idx_some hi
  rw [mapV_get, Option.map_eq_some_iff] at hg
  obtain ⟨v', hv', rfl⟩ := hg
  rw [hv'] at q
  refine okS_pure ?_
  cases co <;> exact q
theorem pu_keep {kk : IntKind} {k : Int} : Pu P (Instr.keyThatStays (.int kk k) (.int kk k)) (.int kk k) := fun B H d Q q => by
 unfold Instr.keyThatStays
 rw [if_pos (by simp [Instr.sameBits])]; exact q
theorem kv_get {es : List MapEntry} {l : List (Int × Value)} (h : es.map (fun e => (e.key, e.val)) = kvL kk l) {n : Nat} {k : Int} {v : Value} (hn : l[n]? = some (k, v)) : ∃ e, es[n]? = some e ∧ e.key = .int kk k ∧ e.val = v := by
 have : (es.map (fun e => (e.key, e.val)))[n]? = some (.int kk k, v) := by rw [h]; simp [kvL, hn]
 rw [List.getElem?_map, Option.map_eq_some_iff] at this
 obtain ⟨e, h1, h2⟩ := this
 obtain ⟨h3, h4⟩ := Prod.mk.inj h2
 exact ⟨e, h1, h3, h4⟩
theorem MapR.modify {es : Array MapEntry} {clock : Nat} {l : List (Int × Value)} (m : MapR kk es clock l) {n : Nat} {k : Int} {v0 v : Value} (hn : l[n]? = some (k, v0)) (hs : setM l k v = l.set n (k, v)) (f : MapEntry → MapEntry) (hf : ∀ e, es.toList[n]? = some e → (f e).key = .int kk k ∧ (f e).val = v ∧ (f e).born = e.born) :
  MapR kk (es.modify n f) clock (setM l k v) := by
 have hl : (es.modify n f).toList = es.toList.modify n f := by simp
 have hbn : (es.toList.modify n f).map (·.born) = es.toList.map (·.born) := by
  apply List.ext_getElem?
  intro i
  simp only [List.getElem?_map, List.getElem?_modify]
  by_cases h : n = i
  ·subst h
   cases e : es.toList[n]? with
   | none => rfl
   | some e' => simp [(hf e' e).2.2]
  ·simp [h]
 refine ⟨?_, ?_, ?_, ?_⟩
 ·rw [hl, hs]
  apply List.ext_getElem?
  intro i
  have hkv : (es.toList.map fun e => (e.key, e.val))[i]? = (kvL kk l)[i]? := by rw [m.kv]
  simp only [kvL, List.getElem?_map, List.getElem?_modify, List.getElem?_set] at hkv ⊢
  by_cases h : n = i
  ·subst h
   have hlt := (List.getElem?_eq_some_iff.1 hn).1
   obtain ⟨e, h1, h2, h3⟩ := kv_get m.kv hn
   obtain ⟨h4, h5, _⟩ := hf e h1
   simp [h1, h4, h5, hlt]
  ·simpa [h] using hkv
 ·exact setM_nodup m.nd
 ·rw [hl, hbn]; exact m.bn
 ·intro e he
  rw [hl] at he
  have : e.born ∈ (es.toList.modify n f).map (·.born) := List.mem_map_of_mem (f := (·.born)) he
  rw [hbn] at this
  obtain ⟨e', h1, h2⟩ := List.mem_map.1 this
  rw [← h2]; exact m.lt e' h1
theorem MapR.push {es : Array MapEntry} {clock : Nat} {l : List (Int × Value)} (m : MapR kk es clock l) {k : Int} {v : Value} (hk : k ∉ l.map (·.1)) (hs : setM l k v = l ++ [(k, v)]) : MapR kk (es.push { key := .int kk k, val := v, born := clock }) (clock + 1) (setM l k v) := by
 have hl : (es.push { key := Value.int kk k, val := v, born := clock }).toList = es.toList ++ [{ key := .int kk k, val := v, born := clock }] := by simp
 refine ⟨by rw [hl, hs]; simp [kvL, m.kv], setM_nodup m.nd, ?_, fun e he => ?_⟩
 ·rw [hl, List.map_append]
  refine List.nodup_append.2 ⟨m.bn, by simp, fun a ha b hb => ?_⟩
  obtain ⟨e, he, rfl⟩ := List.mem_map.1 ha
  have := m.lt e he
  simp at hb; subst hb; omega
 ·rw [hl] at he
  rcases List.mem_append.1 he with he | he
  ·have := m.lt e he; omega
  ·simp at he; subst he; simp
theorem map_erase {X Y : Type} (f : X → Y) : ∀ (l : List X) (n : Nat), (l.eraseIdx n).map f = (l.map f).eraseIdx n
 | [], _ => rfl
 | _ :: _, 0 => rfl
 | x :: l, n + 1 => by simp only [List.eraseIdx_cons_succ, List.map_cons, map_erase f l n]
theorem arr_list {X : Type} (a : Array X) (i : Nat) : a[i]? = a.toList[i]? := by simp
theorem okS_mapUpdate {tt key el : TypeId} [cM : Mp P tt key el] [Ik P key kk] {b : Nat} {l : List (Int × V)} {k : Int} {v : V} {As : List HP} {Q : Unit → Array Obj → Nat → Prop} (s : Sat (mapP kk g b l :: As) (hp H))
  (q : ∀ H', Sat (mapP kk g b (setM l k v) :: As) (hp H') → Q () H' d) : okS P B (Instr.mapUpdate tt (.map (some b)) (.int kk k) (g v)) H d Q := by
 obtain ⟨hh, ⟨es, clock, mr, hpt⟩, hsub, hr⟩ := s
 have hget : hp H b = some (.map es clock) := by subst hpt; exact hsub b _ (by simp [one])
 have hs' : Sat (pts b (.map es clock) :: As) (hp H) := ⟨hh, hpt, hsub, hr⟩
 unfold Instr.mapUpdate
 refine okS_do (pu_und cM.h B H d _ ?_)
 refine okS_do (okS_getObj hget rfl ?_)
 refine okS_do (pu_checkKey B H d _ ?_)
 refine okS_do (pu_findKey mr.kv B H d _ ?_)
 cases hi : idxM k (mapV g l) 0 with
 | none =>
  obtain ⟨_, h2, _, h4⟩ := idx_none hi
  refine okS_setObj hget rfl rfl (q _ (Sat.imp (fun h hh => ⟨_, _, ?_, hh⟩) hs'.set))
  rw [← mapV_set]; exact mr.push h4 (h2 _)
 | some jv =>
  obtain ⟨j, v0⟩ := jv
  obtain ⟨n, rfl, hn, _, hs2, _⟩ := idx_some hi
  obtain ⟨e, he, hk, _⟩ := kv_get mr.kv hn
  simp only [Nat.zero_add, arr_list, he, Option.map_some, Option.getD_some, hk]
  refine okS_do (pu_keep B H d _ ?_)
  refine okS_setObj hget rfl rfl (q _ (Sat.imp (fun h hh => ⟨_, _, ?_, hh⟩) hs'.set))
  rw [← mapV_set]
  exact mr.modify hn (hs2 _) _ fun e' he' => ⟨rfl, rfl, rfl⟩
end
end Go.Sl
end
section
set_option linter.unusedVariables false
namespace Go.Sl
open Go.Conc
section
variable {P : Program} {main : Bool} {B : Bad} {R : Nat → Goroutine → Array Obj → Prop} {d : Nat} {As As' L : List HP}
variable {fn : FuncId} {kd : Kd} {n : Nat} {e : Nat → Value} {ds : List Deferred} {k : List Item} {cs : List Frame}
variable {ops : Array Oper} {i : Nat} {rest : List Nat} {dst : Option Nat} {t : Nat} {ty : TypeId} {pos : String} {af : Array Edge} {gd : Option (Nat × Bool)} {x y z : Operand} {v u : Value} {b off : Nat} {c : Array Value} {el tt t2 key : TypeId}
variable {kk : IntKind} {V : Type} {g : V → Value} {l : List (Int × V)} {q : Int}
def KnP (A : HP) (As : List HP) : Prop := ∀ h, Sat As h → ∃ L, Sat (A :: L) h
theorem Fo.knp {A : HP} {As L : List HP} (f : Fo A As L) : KnP A As := fun _ s => ⟨L, s.perm f.perm⟩
theorem Closed.lkC (C : Closed P main B R) {zv : Value} [cM : Mp P tt key el] [Ik P key kk] [Zv P el zv] (ho : nthO ops i = some ⟨some t, .lookup tt x y true, ty, pos, af, gd⟩)
  (h1 : ∀ w, getM l q = some w → Nx R d As fn kd n e ds ops rest k cs t (.tuple #[g w, .bool true])) (h2 : getM l q = none → Nx R d As fn kd n e ds ops rest k cs t (.tuple #[zv, .bool false]))
  (hx : ev n e x = .map (some b) := by rfl) (hy : ev n e y = .int kk q := by rfl) (hf : KnP (mapP kk g b l) As := by first | (apply Fo.knp; (repeat (first | with_reducible exact Fo.head | with_reducible apply Fo.tail)); done) | (apply Ext.knp; assumption; (repeat (first | with_reducible exact Fo.head | with_reducible apply Fo.tail)); done)) (hw : wantB ops n e gd = true := by rfl) : Nw R d As fn kd n e ds ops i rest k cs :=
 C.gen ho hw fun H s => by
  unfold execOp; simp only [hx, hy]
  refine okS_do ?_
  obtain ⟨L, sL⟩ := hf _ s
  refine okS_lookup sL ?_
  refine ⟨As, s, ?_⟩
  cases hg : getM l q with
  | none => exact h2 hg
  | some w => exact h1 w hg
theorem Closed.lkR (C : Closed P main B R) {zv : Value} {co : Bool} [cM : Mp P tt key el] [Ik P key kk] [Zv P el zv] (ho : nthO ops i = some ⟨some t, .lookup tt x y co, ty, pos, af, gd⟩)
  (h : Nx R d As fn kd n e ds ops rest k cs t (if co then .tuple #[((getM l q).map g).getD zv, .bool (getM l q).isSome] else ((getM l q).map g).getD zv))
  (hx : ev n e x = .map (some b) := by rfl) (hy : ev n e y = .int kk q := by rfl) (hf : KnP (mapP kk g b l) As := by first | (apply Fo.knp; (repeat (first | with_reducible exact Fo.head | with_reducible apply Fo.tail)); done) | (apply Ext.knp; assumption; (repeat (first | with_reducible exact Fo.head | with_reducible apply Fo.tail)); done)) (hw : wantB ops n e gd = true := by rfl) : Nw R d As fn kd n e ds ops i rest k cs :=
 C.gen ho hw fun H s => by
  unfold execOp; simp only [hx, hy]
  obtain ⟨L, sL⟩ := hf _ s
  exact okS_do (okS_lookup sL ⟨As, s, h⟩)
theorem Closed.mu (C : Closed P main B R) {w : V} [cM : Mp P tt key el] [Ik P key kk] (ho : nthO ops i = some ⟨none, .mapUpdate tt x y z, ty, pos, af, gd⟩) (h : At R d (mapP kk g b (setM l q w) :: L) (gr fn kd n e ds (.inRegion ops rest :: k) cs))
  (hx : ev n e x = .map (some b) := by rfl) (hy : ev n e y = .int kk q := by rfl) (hf : Fo (mapP kk g b l) As L := by repeat (first | with_reducible exact Fo.head | with_reducible apply Fo.tail)) (hz : ev n e z = g w := by rfl) (hw : wantB ops n e gd = true := by rfl) : Nw R d As fn kd n e ds ops i rest k cs :=
 C.gen ho hw fun H s => by
  unfold execOp; simp only [hx, hy, hz]
  exact okS_do (okS_mapUpdate (s.perm hf.perm) fun H' s' => ⟨_, s', h⟩)
theorem Closed.lnM (C : Closed P main B R) [cM : Mp P tt key el] (ho : nthO ops i = some ⟨some t, .call ⟨.builtin .len, #[x], #[tt]⟩, ty, pos, af, gd⟩) (h : Nx R d As fn kd n e ds ops rest k cs t (.int .i64 l.length))
  (hx : ev n e x = .map (some b) := by rfl) (hf : KnP (mapP kk g b l) As := by first | (apply Fo.knp; (repeat (first | with_reducible exact Fo.head | with_reducible apply Fo.tail)); done) | (apply Ext.knp; assumption; (repeat (first | with_reducible exact Fo.head | with_reducible apply Fo.tail)); done)) (hw : wantB ops n e gd = true := by rfl) : Nw R d As fn kd n e ds ops i rest k cs :=
 C.gen ho hw fun H s => by
  obtain ⟨L', s'⟩ := hf _ s
  obtain ⟨hh, ⟨es, clock, mr, hpt⟩, hsub, hr⟩ := s'
  have hget : hp H b = some (.map es clock) := by subst hpt; exact hsub b _ (by simp [one])
  have hsz : es.size = l.length := by
   have := congrArg List.length mr.kv
   simpa [kvL, mapV] using this
  unfold execOp; simp only [resolve]
  refine okS_do (okS_pure ?_)
  simp only [List.map_toArray, List.map_cons, List.map_nil, hx]
  unfold invoke builtin
  refine okS_do ?_
  unfold Builtin.len_
  refine okS_do (pu_und cM.h B H d _ ?_)
  refine okS_do (okS_getObj hget rfl (okS_pure (okS_pure ⟨As, s, ?_⟩)))
  rw [hsz]; exact h
theorem mapP_nil (kk : IntKind) (g : V → Value) (b : Nat) (h : HL) (hh : pts b (.map #[] 0) h) : mapP kk g b [] h := ⟨_, _, ⟨rfl, by simp [mapV], by simp, by simp⟩, hh⟩
theorem Closed.mm (C : Closed P main B R) (kk : IntKind) (g : V → Value) (ho : nthO ops i = some ⟨some t, .makeMap tt none, ty, pos, af, gd⟩) (h : ∀ b, Nx R d (mapP kk g b [] :: As) fn kd n e ds ops rest k cs t (.map (some b))) (hw : wantB ops n e gd = true := by rfl) : Nw R d As fn kd n e ds ops i rest k cs :=
 C.gen ho hw fun H s => by
  unfold execOp; simp only [Instr.makeMap, Option.map_none]
  refine okS_do (okS_do ?_)
  show okS P B (.new _ _) H d _
  simp only [okS]
  show okS P B (pure _) _ d _
  exact okS_pure ⟨_, (s.push _).imp (mapP_nil kk g _), h _⟩
end
end Go.Sl
end
section
set_option linter.unusedVariables false
namespace Go.Sl
open Go.Conc
def aft (ops : Array Oper) (i : Nat) : List Nat :=
 match nthO ops i with
 | some o => (o.after.toList.filter (Region.binds .any)).map (·.on)
 | none => []
structure SE where
 i : Nat
 t : Nat
 v : Value
 ld : Bool
def lkS : List SE → List Nat → Nat → Option Value
 | [], _, _ => none
 | x :: S, pre, s => if x.t = s then (if pre.contains x.i then some x.v else lkS S pre s) else lkS S pre s
def lkA : List SE → Nat → Option Value
 | [], _ => none
 | x :: S, s => if x.t = s then some x.v else lkA S s
def lkD : List (Nat × Nat) → Nat → Option Nat
 | [], _ => none
 | (s', w) :: D, s => if s' = s then some w else lkD D s
def envD (e0 : Nat → Value) (D : List (Nat × Nat)) (ops : Array Oper) (i : Nat) (S : List SE) (e : Nat → Value) : Nat → Value := fun s =>
 match lkS S (aft ops i) s with
 | some v => v
 | none => match lkD D s with
  | none => e0 s
  | some w => if (aft ops w).contains i then e0 s else e s
def putsS (e0 : Nat → Value) (S : List SE) : Nat → Value := fun s =>
 match lkA S s with
 | some v => v
 | none => e0 s
def reach (ops : Array Oper) : Nat → Nat → Nat → Bool
 | 0, i, j => i == j
 | f + 1, i, j => i == j || (aft ops i).any fun m => reach ops f m j
def cand (ops : Array Oper) (T' : List Nat) : List Nat := T'.filter fun t => T'.all fun u => u == t || !reach ops 8 t u
section
variable (P : Program) (R : Nat → Goroutine → Array Obj → Prop) (d : Nat) (fn : FuncId) (kd : Kd) (n : Nat) (ds : List Deferred) (ops : Array Oper) (k : List Item) (cs : List Frame) (e0 : Nat → Value) (D : List (Nat × Nat))
def Nd (W : List HP) (S : List SE) (C : List SE → List HP → Prop) (t : Nat) : Nat → List SE → List HP → Prop
 | 0, K, As => ∃ o, nthO ops t = some o ∧ ∀ e rest, (∀ As' v, C (match o.dst with | some s => ⟨t, s, v, false⟩ :: K | none => K) As' → At R d As' (gr fn kd n (putO (envD e0 D ops t (K ++ S) e) o.dst v) ds (.inRegion ops rest :: k) cs)) →
   At R d As (gr fn kd n (envD e0 D ops t (K ++ S) e) ds (.inRegion ops (t :: rest) :: k) cs)
 | _ + 1, K, As => ∃ o, nthO ops t = some o ∧ ∀ e rest, (∀ As' v, Ext1 W As' As → C (match o.dst with | some s => ⟨t, s, v, false⟩ :: K | none => K) As' → At R d As' (gr fn kd n (putO (envD e0 D ops t (K ++ S) e) o.dst v) ds (.inRegion ops rest :: k) cs)) →
   At R d As (gr fn kd n (envD e0 D ops t (K ++ S) e) ds (.inRegion ops (t :: rest) :: k) cs)
def Obl (W : List HP) (S : List SE) (x : SE) : Prop :=
 (∃ o, nthO ops x.i = some o ∧ o.dst = some x.t) ∧ ∀ As e rest, (x.ld = true → Ext As W) → At R d As (gr fn kd n (put (envD e0 D ops x.i S e) x.t x.v) ds (.inRegion ops rest :: k) cs) → At R d As (gr fn kd n (envD e0 D ops x.i S e) ds (.inRegion ops (x.i :: rest) :: k) cs)
def Ch (W : List HP) : Nat → List SE → List Nat → Nat → List SE → List HP → Prop
 | 0, S, _, _, K, As => At R d As (gr fn kd n (putsS e0 (K ++ S)) ds (.inRegion ops [] :: k) cs)
 | f + 1, S, T', a, K, As => (∀ t ∈ cand ops T', Nd R d fn kd n ds ops k cs e0 D W S (fun K As => Ch W f S (T'.erase t) (a - 1) K As) t a K As) ∨ (∃ i ∈ T', ∃ t v, Obl R d fn kd n ds ops k cs e0 D W (K ++ S) ⟨i, t, v, false⟩ ∧ Ch W f (⟨i, t, v, false⟩ :: S) (T'.erase i) a K As) ∨
   (∃ t, T' = [t] ∧ (∃ o, nthO ops t = some o ∧ o.dst = none) ∧ ((List.range ops.size).all fun i => i == t || reach ops 8 t i) = true ∧ At R d As (gr fn kd n (putsS e0 (K ++ S)) ds (.inRegion ops [t] :: k) cs))
def Dr (W As0 : List HP) (T : List Nat) (a : Nat) : List SE → List Nat → Prop
 | S, [] => (S.all fun x => !x.ld || decide ((T.filter fun t => !reach ops 8 t x.i).length ≤ a)) = true ∧ Ext As0 W ∧ Ch R d fn kd n ds ops k cs e0 D W T.length S T a [] As0
 | S, i :: is => ∃ t v ld, Obl R d fn kd n ds ops k cs e0 D W S ⟨i, t, v, ld⟩ ∧ Dr W As0 T a (⟨i, t, v, ld⟩ :: S) is
end
section
variable {P : Program} {main : Bool} {B : Bad} {R : Nat → Goroutine → Array Obj → Prop} {d : Nat} {fn : FuncId} {kd : Kd} {n : Nat} {ds : List Deferred} {ops : Array Oper} {k : List Item} {cs : List Frame} {e0 : Nat → Value} {D : List (Nat × Nat)} {W As0 : List HP} {T : List Nat} {a : Nat} {S : List SE} {i : Nat} {is : List Nat}
theorem Dr.pu {t : Nat} {v : Value} (ho : ∃ o, nthO ops i = some o ∧ o.dst = some t) (h : ∀ As e rest, At R d As (gr fn kd n (put (envD e0 D ops i S e) t v) ds (.inRegion ops rest :: k) cs) → At R d As (gr fn kd n (envD e0 D ops i S e) ds (.inRegion ops (i :: rest) :: k) cs))
  (k' : Dr R d fn kd n ds ops k cs e0 D W As0 T a (⟨i, t, v, false⟩ :: S) is) : Dr R d fn kd n ds ops k cs e0 D W As0 T a S (i :: is) := ⟨t, v, false, ⟨ho, fun As e rest _ h' => h As e rest h'⟩, k'⟩
theorem Dr.ld {t : Nat} {v : Value} (ho : ∃ o, nthO ops i = some o ∧ o.dst = some t) (h : ∀ As, Ext As W → ∀ e rest, At R d As (gr fn kd n (put (envD e0 D ops i S e) t v) ds (.inRegion ops rest :: k) cs) → At R d As (gr fn kd n (envD e0 D ops i S e) ds (.inRegion ops (i :: rest) :: k) cs))
  (k' : Dr R d fn kd n ds ops k cs e0 D W As0 T a (⟨i, t, v, true⟩ :: S) is) : Dr R d fn kd n ds ops k cs e0 D W As0 T a S (i :: is) := ⟨t, v, true, ⟨ho, fun As e rest hA h' => h As (hA rfl) e rest h'⟩, k'⟩
theorem Ch.n1 {f : Nat} {T' : List Nat} {t a : Nat} {K : List SE} {As : List HP} (hc : cand ops T' = [t]) (h : Nd R d fn kd n ds ops k cs e0 D W S (fun K As => Ch R d fn kd n ds ops k cs e0 D W f S (T'.erase t) (a - 1) K As) t a K As) : Ch R d fn kd n ds ops k cs e0 D W (f + 1) S T' a K As := .inl fun t' ht => by
 rw [hc] at ht; obtain rfl := List.mem_singleton.1 ht; exact h
theorem Ch.n2 {f : Nat} {T' : List Nat} {t u a : Nat} {K : List SE} {As : List HP} (hc : cand ops T' = [t, u]) (h : Nd R d fn kd n ds ops k cs e0 D W S (fun K As => Ch R d fn kd n ds ops k cs e0 D W f S (T'.erase t) (a - 1) K As) t a K As)
  (h2 : Nd R d fn kd n ds ops k cs e0 D W S (fun K As => Ch R d fn kd n ds ops k cs e0 D W f S (T'.erase u) (a - 1) K As) u a K As) : Ch R d fn kd n ds ops k cs e0 D W (f + 1) S T' a K As := .inl fun t' ht => by
 rw [hc] at ht
 rcases List.mem_cons.1 ht with rfl | ht
 ·exact h
 ·obtain rfl := List.mem_singleton.1 ht; exact h2
theorem Ch.pu {f : Nat} {T' : List Nat} {i t a : Nat} {v : Value} {K : List SE} {As : List HP} (ho : ∃ o, nthO ops i = some o ∧ o.dst = some t) (h : ∀ As e rest, At R d As (gr fn kd n (put (envD e0 D ops i (K ++ S) e) t v) ds (.inRegion ops rest :: k) cs) → At R d As (gr fn kd n (envD e0 D ops i (K ++ S) e) ds (.inRegion ops (i :: rest) :: k) cs))
  (k' : Ch R d fn kd n ds ops k cs e0 D W f (⟨i, t, v, false⟩ :: S) (T'.erase i) a K As) (hi : i ∈ T' := by decide) : Ch R d fn kd n ds ops k cs e0 D W (f + 1) S T' a K As := .inr (.inl ⟨i, hi, t, v, ⟨ho, fun As e rest _ h' => h As e rest h'⟩, k'⟩)
theorem Ch.fin {T' : List Nat} {a : Nat} {K : List SE} {As : List HP} (h : At R d As (gr fn kd n (putsS e0 (K ++ S)) ds (.inRegion ops [] :: k) cs)) : Ch R d fn kd n ds ops k cs e0 D W 0 S T' a K As := h
theorem Dr.chain (hl : (S.all fun x => !x.ld || decide ((T.filter fun t => !reach ops 8 t x.i).length ≤ a)) = true) (h : Ch R d fn kd n ds ops k cs e0 D W T.length S T a [] As0) (hw : Ext As0 W := by exact fun _ s => s) : Dr R d fn kd n ds ops k cs e0 D W As0 T a S [] := ⟨hl, hw, h⟩
end
def dstOf (ops : Array Oper) (i : Nat) : Option Nat := match nthO ops i with | some o => o.dst | none => none
def nodupB : List Nat → Bool
 | [] => true
 | a :: l => !l.contains a && nodupB l
def aftM (md : Region.Mode) (ops : Array Oper) (i : Nat) : List Nat :=
 match nthO ops i with
 | some o => (o.after.toList.filter (Region.binds md)).map (·.on)
 | none => []
def topo (md : Region.Mode) (ops : Array Oper) : List Nat → List Nat → Bool
 | _, [] => true
 | dn, i :: l => (aftM md ops i).all (fun j => dn.contains j) && topo md ops (i :: dn) l
def tsort (md : Region.Mode) (ops : Array Oper) : Nat → List Nat → List Nat
 | 0, _ => []
 | f + 1, dn => match (List.range ops.size).find? (fun i => !dn.contains i && (aftM md ops i).all (fun j => dn.contains j)) with
  | some i => i :: tsort md ops f (i :: dn)
  | none => []
def topOk (md : Region.Mode) (ops : Array Oper) (tp : List Nat) : Bool := (List.range ops.size).all (fun i => tp.contains i) && tp.all (fun i => decide (i < ops.size)) && topo md ops [] tp
theorem topo_next {md : Region.Mode} {ops : Array Oper} {L : Nat → Bool} : ∀ {tp dn : List Nat}, topo md ops dn tp = true → (∀ j ∈ dn, L j = true) → (∃ i ∈ tp, L i = false) → ∃ i ∈ tp, L i = false ∧ ∀ j ∈ aftM md ops i, L j = true
 | [], _, _, _, h => by obtain ⟨i, hi, _⟩ := h; cases hi
 | i :: l, dn, h, hd, he => by
  simp only [topo, Bool.and_eq_true, List.all_eq_true] at h
  cases hL : L i with
  | false => exact ⟨i, List.mem_cons_self .., hL, fun j hj => hd j (by have := h.1 j hj; simpa using this)⟩
  | true =>
   obtain ⟨q, hq, hq2⟩ := he
   obtain ⟨z, h1, h2⟩ := topo_next h.2 (fun j hj => (List.mem_cons.1 hj).elim (fun e => e ▸ hL) (hd j)) ⟨q, (List.mem_cons.1 hq).resolve_left (fun e => by rw [e, hL] at hq2; cases hq2), hq2⟩
   exact ⟨z, List.mem_cons_of_mem _ h1, h2⟩
theorem aft_sub {md : Region.Mode} {ops : Array Oper} {i j : Nat} (h : j ∈ aft ops i) : j ∈ aftM md ops i := by
 unfold aft at h; unfold aftM
 split at h
 ·rename_i o ho
  simp only [List.mem_map, List.mem_filter] at h ⊢
  obtain ⟨e, ⟨he, hb⟩, rfl⟩ := h
  refine ⟨e, ⟨he, ?_⟩, rfl⟩
  unfold Region.binds at hb ⊢
  revert hb
  cases e.ground <;> simp
 ·cases h
def regOk (ops : Array Oper) (D : List (Nat × Nat)) (T is : List Nat) : Bool :=
 (!Region.departs ops || topOk .gc ops (tsort .gc ops ops.size [])) && (List.range ops.size).all (fun i => (aftM .text ops i).all (· < i)) && D.all (fun p => dstOf ops p.2 == some p.1) &&
 (List.range ops.size).all (fun i => match dstOf ops i with | some s => lkD D s == some i | none => true) &&
 (List.range ops.size).all (fun i => is.contains i || T.contains i) && is.all (fun i => !T.contains i && decide (i < ops.size)) && T.all (fun i => decide (i < ops.size)) && nodupB T
theorem lkD_mem {D : List (Nat × Nat)} {s w : Nat} (h : lkD D s = some w) : (s, w) ∈ D := by
 induction D with
 | nil => cases h
 | cons p D ih =>
  obtain ⟨s', w'⟩ := p
  unfold lkD at h
  split at h
  ·rename_i e; cases h; subst e; exact List.mem_cons_self ..
  ·exact List.mem_cons_of_mem _ (ih h)
theorem lkS_mem {S : List SE} {pre : List Nat} {s : Nat} {v : Value} (h : lkS S pre s = some v) : ∃ x ∈ S, x.t = s ∧ x.v = v ∧ x.i ∈ pre := by
 induction S with
 | nil => cases h
 | cons x S ih =>
  unfold lkS at h
  split at h
  ·split at h
   ·rename_i e1 e2
    cases h
    exact ⟨x, List.mem_cons_self .., e1, rfl, by simpa using e2⟩
   ·obtain ⟨y, hy, z⟩ := ih h; exact ⟨y, List.mem_cons_of_mem _ hy, z⟩
  ·obtain ⟨y, hy, z⟩ := ih h; exact ⟨y, List.mem_cons_of_mem _ hy, z⟩
theorem lkA_mem {S : List SE} {s : Nat} {v : Value} (h : lkA S s = some v) : ∃ x ∈ S, x.t = s ∧ x.v = v := by
 induction S with
 | nil => cases h
 | cons x S ih =>
  unfold lkA at h
  split at h
  ·rename_i e1; cases h; exact ⟨x, List.mem_cons_self .., e1, rfl⟩
  ·obtain ⟨y, hy, z⟩ := ih h; exact ⟨y, List.mem_cons_of_mem _ hy, z⟩
theorem lkA_none {S : List SE} {s : Nat} (h : lkA S s = none) : ∀ x ∈ S, x.t ≠ s := by
 induction S with
 | nil => intro x hx; cases hx
 | cons y S ih =>
  unfold lkA at h
  split at h
  ·cases h
  ·rename_i e1
   intro x hx
   rcases List.mem_cons.1 hx with rfl | hx
   ·exact e1
   ·exact ih h x hx
theorem reach_succ {ops : Array Oper} {f i j : Nat} (h : reach ops (f + 1) i j = true) : i = j ∨ ∃ m ∈ aft ops i, reach ops f m j = true := by
 simpa only [reach, Bool.or_eq_true, beq_iff_eq, List.any_eq_true] using h
theorem reach_closed {ops : Array Oper} {L : Nat → Prop} (hc : ∀ w, L w → ∀ j ∈ aft ops w, L j) : ∀ (f i j : Nat), reach ops f i j = true → L i → L j
 | 0, i, j, h, hl => by simp [reach] at h; subst h; exact hl
 | f + 1, i, j, h, hl => by
  simp only [reach, Bool.or_eq_true, beq_iff_eq, List.any_eq_true] at h
  rcases h with rfl | ⟨m, hm, h⟩
  ·exact hl
  ·exact reach_closed hc f m j h (hc i hl m hm)
structure RegOk (ops : Array Oper) (D : List (Nat × Nat)) (T is : List Nat) : Prop where
 prog : ∀ md (L : Nat → Bool), (∃ i, i < ops.size ∧ L i = false) → ∃ i, i < ops.size ∧ L i = false ∧ ∀ j ∈ aftM md ops i, L j = true
 down : ∀ i, i < ops.size → ∀ j ∈ aft ops i, j < i
 d1 : ∀ s w, lkD D s = some w → dstOf ops w = some s
 d2 : ∀ i s, dstOf ops i = some s → lkD D s = some i
 cov : ∀ i, i < ops.size → i ∈ is ∨ i ∈ T
 isT : ∀ i ∈ is, i ∉ T ∧ i < ops.size
 Tlt : ∀ i ∈ T, i < ops.size
 nd : nodupB T = true
theorem nthL_lt : ∀ {l : List Oper} {i : Nat} {o : Oper}, nthL l i = some o → i < l.length
 | [], _, _, h => by cases h
 | _ :: _, 0, _, _ => by simp
 | _ :: l, i + 1, _, h => by have := nthL_lt (l := l) h; simp; omega
theorem dstOf_lt {ops : Array Oper} {i s : Nat} (h : dstOf ops i = some s) : i < ops.size := by
 unfold dstOf at h
 cases e : nthO ops i with
 | none => rw [e] at h; cases h
 | some o => have := nthL_lt e; simpa using this
section
variable {P : Program} {main : Bool} {B : Bad} {R : Nat → Goroutine → Array Obj → Prop} {d : Nat} {fn : FuncId} {kd : Kd} {n : Nat} {ds : List Deferred} {ops : Array Oper} {k : List Item} {cs : List Frame} {e0 : Nat → Value} {D : List (Nat × Nat)} {W As0 : List HP} {T is : List Nat} {a : Nat} {S : List SE}
structure DSt (R : Nat → Goroutine → Array Obj → Prop) (d : Nat) (fn : FuncId) (kd : Kd) (n : Nat) (ds : List Deferred) (ops : Array Oper) (k : List Item) (cs : List Frame) (e0 : Nat → Value) (D : List (Nat × Nat)) (W As0 : List HP) (T is : List Nat) (a : Nat) (S : List SE) (L : Nat → Prop) (e : Nat → Value) (K : List SE) (Td T' Ts : List Nat) (As : List HP) : Prop where
 v1 : ∀ x ∈ K ++ S, L x.i → e x.t = x.v
 v2 : ∀ s, lkD D s = none → e s = e0 s
 v3 : ∀ s w, lkD D s = some w → ¬ L w → e s = e0 s
 cl : ∀ w, L w → ∀ j ∈ aft ops w, L j
 tt : T.Perm (Td ++ (T' ++ Ts))
 td : ∀ t ∈ Td, L t
 tn : ∀ t ∈ T', ¬ L t
 lk : ∀ x ∈ K ++ S, dstOf ops x.i = some x.t
 ka : ∀ t ∈ Td, ∀ s, dstOf ops t = some s → ∃ x ∈ K, x.t = s
 ki : ∀ x ∈ K, x.i ∈ Td
 sS : ∀ x ∈ S, (x.i ∈ is ∨ x.i ∈ Ts) ∧ ∃ Sx, (∀ y ∈ Sx, y ∈ K ++ S) ∧ Obl R d fn kd n ds ops k cs e0 D W Sx x
 sI : ∀ i, i ∈ is ∨ i ∈ Ts → ∃ x ∈ S, x.i = i
 sL : ∀ x ∈ S, x.ld = true → (T.filter fun t => !reach ops 8 t x.i).length ≤ a
 sU : ∀ x ∈ S, ∀ y ∈ S, x.i = y.i → x = y
 ch : Ch R d fn kd n ds ops k cs e0 D W T'.length S T' (a - Td.length) K As
 aS : Td.length ≤ a → Ext As W
theorem DSt.env {L : Nat → Prop} {e : Nat → Value} {K : List SE} {Td T' Ts : List Nat} {As : List HP} (h : DSt R d fn kd n ds ops k cs e0 D W As0 T is a S L e K Td T' Ts As) {i : Nat} (hi : ¬ L i) (hr : ∀ j ∈ aft ops i, L j) {S' : List SE} (hS : ∀ x ∈ S', x ∈ K ++ S) : envD e0 D ops i S' e = e := by
 funext s
 unfold envD
 cases h1 : lkS S' (aft ops i) s with
 | some v =>
  obtain ⟨x, hx, rfl, rfl, hp⟩ := lkS_mem h1
  exact (h.v1 x (hS x hx) (hr _ hp)).symm
 | none =>
  simp only
  cases h2 : lkD D s with
  | none => exact (h.v2 s h2).symm
  | some w =>
   simp only
   split
   ·rename_i hc
    have hiw : i ∈ aft ops w := by simpa using hc
    exact (h.v3 s w h2 fun hl => hi (h.cl w hl i hiw)).symm
   ·rfl
def unl (f : Nat → Bool) : Nat → Nat
 | 0 => 0
 | m + 1 => unl f m + (if f m then 0 else 1)
theorem unl_zero {f : Nat → Bool} : ∀ {m : Nat}, unl f m = 0 → ∀ i, i < m → f i = true
 | 0, _, i, hi => by omega
 | m + 1, h, i, hi => by
  unfold unl at h
  by_cases e : i = m
  ·subst e; by_cases hf : f i = true
   ·exact hf
   ·simp [hf] at h
  ·exact unl_zero (m := m) (by omega) i (by omega)
theorem unl_set {f f' : Nat → Bool} {i : Nat} (h1 : f i = false) (h2 : f' i = true) (h3 : ∀ j, j ≠ i → f' j = f j) : ∀ {m : Nat}, (i < m → unl f' m + 1 = unl f m) ∧ (m ≤ i → unl f' m = unl f m)
 | 0 => ⟨fun h => by omega, fun _ => rfl⟩
 | m + 1 => by
  have ih := unl_set h1 h2 h3 (m := m)
  refine ⟨fun h => ?_, fun h => ?_⟩
  ·unfold unl
   by_cases e : i = m
   ·subst e; rw [ih.2 (Nat.le_refl _), h1, h2]; simp
   ·have := ih.1 (by omega); rw [h3 m (Ne.symm e)]; omega
  ·unfold unl; rw [ih.2 (by omega), h3 m (by omega)]
theorem exists_least {f : Nat → Bool} : ∀ {m : Nat}, unl f m ≠ 0 → ∃ i, i < m ∧ f i = false ∧ ∀ j, j < i → f j = true
 | 0, h => absurd rfl h
 | m + 1, h => by
  by_cases e : unl f m = 0
  ·refine ⟨m, by omega, ?_, fun j hj => unl_zero e j hj⟩
   by_cases hf : f m = true
   ·unfold unl at h; simp [e, hf] at h
   ·simpa using hf
  ·obtain ⟨i, h1, h2⟩ := exists_least e; exact ⟨i, by omega, h2⟩
theorem least_next {ops : Array Oper} {md : Region.Mode} (hd : ∀ i, i < ops.size → ∀ j ∈ aftM md ops i, j < i) (L : Nat → Bool) (h : ∃ i, i < ops.size ∧ L i = false) : ∃ i, i < ops.size ∧ L i = false ∧ ∀ j ∈ aftM md ops i, L j = true := by
 obtain ⟨q, hq, hL⟩ := h
 obtain ⟨i, h1, h2, h3⟩ := exists_least (f := L) (m := ops.size) (fun z => by rw [unl_zero z q hq] at hL; cases hL)
 exact ⟨i, h1, h2, fun j hj => h3 j (hd i h1 j hj)⟩
theorem aftM_mem {ops : Array Oper} {md : Region.Mode} {i j : Nat} : j ∈ aftM md ops i ↔ ∃ o, nthO ops i = some o ∧ ∃ e ∈ o.after, Region.binds md e = true ∧ e.on = j := by
 unfold aftM
 constructor
 ·intro h
  split at h
  ·rename_i o ho
   simp only [List.mem_map, List.mem_filter, Array.mem_toList_iff] at h
   obtain ⟨e, ⟨he, hb⟩, rfl⟩ := h
   exact ⟨o, ho, e, he, hb, rfl⟩
  ·cases h
 ·rintro ⟨o, ho, e, he, hb, rfl⟩
  rw [ho]
  simp only [List.mem_map, List.mem_filter, Array.mem_toList_iff]
  exact ⟨e, ⟨he, hb⟩, rfl⟩
theorem regOk_of {ops : Array Oper} {D : List (Nat × Nat)} {T is : List Nat} (h : regOk ops D T is = true) : RegOk ops D T is := by
 simp only [regOk, Bool.and_eq_true, Bool.not_eq_true', List.all_eq_true, List.mem_range, Bool.or_eq_true, List.contains_iff_mem, decide_eq_true_eq, beq_iff_eq] at h
 obtain ⟨⟨⟨⟨⟨⟨⟨h1, h2⟩, h3⟩, h4⟩, h5⟩, h6⟩, h7⟩, h8⟩ := h
 have hany : ∀ i, i < ops.size → ∀ j ∈ aftM .any ops i, j < i := fun i hi j hj => h2 i hi j (aft_sub (by exact hj))
 refine ⟨fun md L hex => ?_, fun i hi j hj => h2 i hi j (aft_sub hj), fun s w e => h3 (s, w) (lkD_mem e), fun i s e => ?_, h5, fun i hi => ?_, h7, h8⟩
 ·cases md with
  | text => exact least_next h2 L hex
  | any => exact least_next hany L hex
  | gc =>
   rcases h1 with h1 | h1
   ·refine least_next (fun i hi j hj => ?_) L hex
    obtain ⟨o, ho, e, he, hb, rfl⟩ := aftM_mem.1 hj
    refine hany i hi _ (aftM_mem.2 ⟨o, ho, e, he, ?_, rfl⟩)
    unfold Region.departs at h1
    rw [Array.any_eq_false] at h1
    have hn : ops[i]? = some o := by rw [nthO_eq]; exact ho
    rw [Array.getElem?_eq_getElem hi] at hn
    have := h1 i hi
    rw [Option.some.inj hn] at this
    cases hz : Region.binds .any e with
    | true => rfl
    | false =>
     obtain ⟨q, hq, rfl⟩ := Array.mem_iff_getElem.1 he
     exact absurd (Array.any_eq_true.2 ⟨q, hq, by simp [hz]⟩) this
   ·simp only [topOk, Bool.and_eq_true, List.all_eq_true, List.mem_range, decide_eq_true_eq] at h1
    obtain ⟨⟨c1, c2⟩, c3⟩ := h1
    obtain ⟨q, hq, hL⟩ := hex
    obtain ⟨i, hi, hi2⟩ := topo_next (L := L) c3 (fun j hj => by cases hj) ⟨q, by have := c1 q hq; simpa using this, hL⟩
    exact ⟨i, c2 i hi, hi2⟩
 ·have := h4 i (dstOf_lt e)
  rw [e] at this
  simpa using this
 ·have := h6 i hi
  exact ⟨by have := this.1; simpa using this, this.2⟩
theorem aft_ready {md : Region.Mode} {listed : Array Bool} {i : Nat} (hlt : i < ops.size) : (((ops[i]?).map (·.after.all fun e => !Region.binds md e || listed.getD e.on false)).getD false) = true ↔ ∀ j ∈ aftM md ops i, listed[j]?.getD false = true := by
 have ho : ops[i]? = some ops[i] := Array.getElem?_eq_getElem hlt
 have hn : nthO ops i = some ops[i] := by rw [← nthO_eq]; exact ho
 rw [ho]
 simp only [Option.map_some, Option.getD_some, Array.all_eq_true]
 constructor
 ·intro h j hj
  obtain ⟨o, ho2, e, he, hb, rfl⟩ := aftM_mem.1 hj
  rw [hn] at ho2
  obtain rfl := Option.some.inj ho2
  obtain ⟨q, hq, rfl⟩ := Array.mem_iff_getElem.1 he
  have := h q hq
  rw [hb] at this
  simpa [Array.getD_eq_getD_getElem?] using this
 ·intro h q hq
  cases hb : Region.binds md (ops[i]).after[q] with
  | false => simp
  | true =>
   have := h _ (aftM_mem.2 ⟨_, hn, _, Array.getElem_mem hq, hb, rfl⟩)
   simp [Array.getD_eq_getD_getElem?, this]
theorem linearise_go_acc' (md : Region.Mode) (ops : Array Oper) (fuel t : Nat) (listed : Array Bool) (i : Nat) : Region.linearise.go md ops fuel t listed [i] = i :: Region.linearise.go md ops fuel t listed [] := by rw [linearise_go_acc md ops fuel t listed [i]]; rfl
theorem lsd_set {listed : Array Bool} {i : Nat} (hi : i < listed.size) (j : Nat) : (listed.setIfInBounds i true)[j]?.getD false = if j = i then true else listed[j]?.getD false := by
 by_cases e : j = i
 ·subst e; rw [Array.getElem?_setIfInBounds_self_of_lt hi]; simp
 ·rw [Array.getElem?_setIfInBounds_ne (Ne.symm e)]; simp [e]
theorem nodupB_cons {a : Nat} {l : List Nat} (h : nodupB (a :: l) = true) : a ∉ l ∧ nodupB l = true := by
 simp only [nodupB, Bool.and_eq_true, Bool.not_eq_true'] at h
 exact ⟨by have := h.1; simpa using this, h.2⟩
theorem nodupB_nd : ∀ {l : List Nat}, nodupB l = true → l.Nodup
 | [], _ => List.nodup_nil
 | a :: l, h => List.nodup_cons.2 ⟨(nodupB_cons h).1, nodupB_nd (nodupB_cons h).2⟩
theorem dst_inj (rg : RegOk ops D T is) {i j s : Nat} (h1 : dstOf ops i = some s) (h2 : dstOf ops j = some s) : i = j := by
 have := (rg.d2 i s h1).symm.trans (rg.d2 j s h2); exact Option.some.inj this
theorem DSt.norm (rg : RegOk ops D T is) {L : Nat → Prop} {e : Nat → Value} {K : List SE} {Td : List Nat} {As : List HP} : ∀ (m : Nat) {S : List SE} {T' Ts : List Nat}, T'.length = m → DSt R d fn kd n ds ops k cs e0 D W As0 T is a S L e K Td T' Ts As →
  ∃ S' T2 Ts', DSt R d fn kd n ds ops k cs e0 D W As0 T is a S' L e K Td T2 Ts' As ∧ (∀ f, T2.length = f + 1 → (∀ t ∈ cand ops T2, Nd R d fn kd n ds ops k cs e0 D W S' (fun K As => Ch R d fn kd n ds ops k cs e0 D W f S' (T2.erase t) (a - Td.length - 1) K As) t (a - Td.length) K As) ∨
   (∃ t, T2 = [t] ∧ (∃ o, nthO ops t = some o ∧ o.dst = none) ∧ ((List.range ops.size).all fun i => i == t || reach ops 8 t i) = true ∧ At R d As (gr fn kd n (putsS e0 (K ++ S')) ds (.inRegion ops [t] :: k) cs)))
 | 0, S, T', Ts, hm, st => ⟨S, T', Ts, st, fun f hf => by omega⟩
 | m + 1, S, T', Ts, hm, st => by
  have hch := st.ch
  rw [hm] at hch
  rcases hch with hch | ⟨i, hi, t, v, ob, hch⟩ | hch
  ·exact ⟨S, T', Ts, st, fun f hf => by
    obtain rfl : f = m := by omega
    exact .inl hch⟩
  rotate_left
  ·exact ⟨S, T', Ts, st, fun f hf => .inr hch⟩
  ·have hpT : T'.Perm (i :: T'.erase i) := List.perm_cons_erase hi
   have hlen : (T'.erase i).length = m := by have := hpT.length_eq; simp only [List.length_cons] at this; omega
   have hnd : (Td ++ (T' ++ Ts)).Nodup := st.tt.nodup_iff.1 (nodupB_nd rg.nd)
   have hTi : i ∈ T := st.tt.mem_iff.2 (List.mem_append_right _ (List.mem_append_left _ hi))
   have hni : ∀ y ∈ S, y.i ≠ i := fun y hy e => by
    rcases (st.sS y hy).1 with h | h
    ·exact (rg.isT _ h).1 (e ▸ hTi)
    ·exact (List.nodup_append.1 (List.nodup_append.1 hnd).2.1).2.2 i hi y.i h e.symm
   have hlk : dstOf ops i = some t := by obtain ⟨⟨o, ho, hd⟩, _⟩ := ob; unfold dstOf; rw [ho]; exact hd
   refine DSt.norm rg m (Ts := i :: Ts) hlen ⟨fun x hx hL => ?_, st.v2, st.v3, st.cl, ?_, st.td, fun u hu => st.tn u (List.mem_of_mem_erase hu), fun x hx => ?_, st.ka, st.ki, fun x hx => ?_, fun j hj => ?_, fun x hx hld => ?_, fun x hx y hy e => ?_, by rw [hlen]; exact hch, st.aS⟩
   ·rcases List.mem_append.1 hx with hx | hx
    ·exact st.v1 x (List.mem_append_left _ hx) hL
    ·rcases List.mem_cons.1 hx with rfl | hx
     ·exact absurd hL (st.tn _ hi)
     ·exact st.v1 x (List.mem_append_right _ hx) hL
   ·exact st.tt.trans (List.Perm.append_left _ ((hpT.append_right Ts).trans (by simp only [List.cons_append]; exact List.perm_middle.symm)))
   ·rcases List.mem_append.1 hx with hx | hx
    ·exact st.lk x (List.mem_append_left _ hx)
    ·rcases List.mem_cons.1 hx with rfl | hx
     ·exact hlk
     ·exact st.lk x (List.mem_append_right _ hx)
   ·rcases List.mem_cons.1 hx with rfl | hx
    ·exact ⟨.inr (List.mem_cons_self ..), K ++ S, fun y hy => (List.mem_append.1 hy).elim (fun h => List.mem_append_left _ h) (fun h => List.mem_append_right _ (List.mem_cons_of_mem _ h)), ob⟩
    ·obtain ⟨h1, Sx, h2, h3⟩ := st.sS x hx
     exact ⟨h1.imp_right (List.mem_cons_of_mem _), Sx, fun y hy => (List.mem_append.1 (h2 y hy)).elim (fun h => List.mem_append_left _ h) (fun h => List.mem_append_right _ (List.mem_cons_of_mem _ h)), h3⟩
   ·have : j = i ∨ (j ∈ is ∨ j ∈ Ts) := by
     rcases hj with h | h
     ·exact .inr (.inl h)
     ·rcases List.mem_cons.1 h with h | h
      ·exact .inl h
      ·exact .inr (.inr h)
    rcases this with rfl | h
    ·exact ⟨_, List.mem_cons_self .., rfl⟩
    ·obtain ⟨x, hx, e⟩ := st.sI j h; exact ⟨x, List.mem_cons_of_mem _ hx, e⟩
   ·rcases List.mem_cons.1 hx with rfl | hx
    ·cases hld
    ·exact st.sL x hx hld
   ·rcases List.mem_cons.1 hx with rfl | hx <;> rcases List.mem_cons.1 hy with rfl | hy
    ·rfl
    ·exact absurd e.symm (hni y hy)
    ·exact absurd e (hni x hx)
    ·exact st.sU x hx y hy e
theorem drawn_run {md : Region.Mode} (rg : RegOk ops D T is) :
  ∀ (fuel t : Nat) (listed : Array Bool) (e : Nat → Value) (S : List SE) (K : List SE) (Td T' Ts : List Nat) (As : List HP), listed.size = ops.size → unl (fun i => listed[i]?.getD false) ops.size = fuel → DSt R d fn kd n ds ops k cs e0 D W As0 T is a S (fun i => listed[i]?.getD false = true) e K Td T' Ts As →
   At R d As (gr fn kd n e ds (.inRegion ops (Region.linearise.go md ops fuel t listed []) :: k) cs) := by
 intro fuel
 induction fuel with
 | zero =>
  intro t listed e S K Td T' Ts As hsz hu st
  have hall := unl_zero hu
  have hT' : T' = [] := by
   cases T' with
   | nil => rfl
   | cons x l => exact absurd (hall x (rg.Tlt x (st.tt.mem_iff.2 (List.mem_append_right _ (List.mem_append_left _ (List.mem_cons_self ..)))))) (st.tn x (List.mem_cons_self ..))
  subst hT'
  simp only [Region.linearise.go, List.reverse_nil]
  have he : e = putsS e0 (K ++ S) := by
   funext s
   unfold putsS
   cases h1 : lkA (K ++ S) s with
   | some v =>
    obtain ⟨x, hx, rfl, rfl⟩ := lkA_mem h1
    exact st.v1 x hx (hall _ (dstOf_lt (st.lk x hx)))
   | none =>
    simp only
    have hno := lkA_none h1
    cases h2 : lkD D s with
    | none => exact st.v2 s h2
    | some w =>
     have hd := rg.d1 s w h2
     have hwc : (w ∈ is ∨ w ∈ Ts) ∨ w ∈ Td := by
      rcases rg.cov w (dstOf_lt hd) with hw | hw
      ·exact .inl (.inl hw)
      ·rcases List.mem_append.1 (st.tt.mem_iff.1 hw) with hw | hw
       ·exact .inr hw
       ·exact .inl (.inr (by simpa using hw))
     rcases hwc with hw | hw
     ·obtain ⟨x, hx, rfl⟩ := st.sI w hw
      have := st.lk x (List.mem_append_right _ hx)
      rw [hd] at this
      exact absurd (Option.some.inj this).symm (hno x (List.mem_append_right _ hx))
     ·obtain ⟨x, hx, hxs⟩ := st.ka w hw s hd
      exact absurd hxs (hno x (List.mem_append_left _ hx))
  rw [he]
  exact st.ch
 | succ fuel ih =>
  intro t listed e S K Td T' Ts As hsz hu st0
  obtain ⟨S, T', Ts, st, hnd0⟩ := st0.norm rg _ rfl
  have hrs : ∀ i, i ∈ ((List.range ops.size).filter fun i => !listed.getD i true && ((ops[i]?).map (·.after.all fun e => !Region.binds md e || listed.getD e.on false)).getD false) ↔ i < ops.size ∧ listed[i]?.getD false = false ∧ ∀ j ∈ aftM md ops i, listed[j]?.getD false = true := by
   intro i
   simp only [List.mem_filter, List.mem_range, Bool.and_eq_true, Bool.not_eq_true']
   constructor
   ·rintro ⟨h1, h2, h3⟩
    refine ⟨h1, ?_, (aft_ready h1).1 h3⟩
    have : i < listed.size := by omega
    simpa [Array.getD_eq_getD_getElem?, this] using h2
   ·rintro ⟨h1, h2, h3⟩
    refine ⟨h1, ?_, (aft_ready h1).2 h3⟩
    have : i < listed.size := by omega
    simpa [Array.getD_eq_getD_getElem?, this] using h2
  simp only [Region.linearise.go]
  generalize hG : ((List.range ops.size).filter fun i => !listed.getD i true && ((ops[i]?).map (·.after.all fun e => !Region.binds md e || listed.getD e.on false)).getD false) = rs at hrs
  obtain ⟨i1, hi1, hf1, _⟩ := exists_least (f := fun i => listed[i]?.getD false) (m := ops.size) (by rw [hu]; omega)
  obtain ⟨i0, hi0, hf0, hlow⟩ := rg.prog md (fun i => listed[i]?.getD false) ⟨i1, hi1, hf1⟩
  have hne : rs.length ≠ 0 := by
   have : i0 ∈ rs := (hrs i0).2 ⟨hi0, hf0, hlow⟩
   intro z
   rw [List.length_eq_zero_iff] at z
   rw [z] at this; cases this
  have hmod : t % rs.length < rs.length := Nat.mod_lt _ (by omega)
  rw [List.getElem?_eq_getElem hmod]
  simp only
  generalize hi' : rs[t % rs.length] = i
  have hmem : i ∈ rs := by rw [← hi']; exact List.getElem_mem hmod
  obtain ⟨hlt, hnl, hrd0⟩ := (hrs i).1 hmem
  have hrd : ∀ j ∈ aft ops i, listed[j]?.getD false = true := fun j hj => hrd0 j (aft_sub hj)
  have hacc : Region.linearise.go md ops fuel (t / rs.length) (listed.setIfInBounds i true) [i] = i :: Region.linearise.go md ops fuel (t / rs.length) (listed.setIfInBounds i true) [] := linearise_go_acc' md ops fuel (t / rs.length) (listed.setIfInBounds i true) i
  rw [hacc]
  have hsz' : (listed.setIfInBounds i true).size = ops.size := by simpa using hsz
  have hlt' : i < listed.size := by omega
  have hset := lsd_set (listed := listed) hlt'
  have hu' : unl (fun j => (listed.setIfInBounds i true)[j]?.getD false) ops.size = fuel := by
   have := (unl_set (f := fun j => listed[j]?.getD false) (f' := fun j => (listed.setIfInBounds i true)[j]?.getD false) (i := i) hnl (by simp [hset]) (fun j hj => by simp [hset, hj]) (m := ops.size)).1 hlt
   rw [hu] at this
   omega
  have hnl' : ¬ (listed[i]?.getD false = true) := by rw [hnl]; simp
  have hL : ∀ j, ((listed.setIfInBounds i true)[j]?.getD false = true) ↔ (j = i ∨ listed[j]?.getD false = true) := fun j => by
   rw [hset]; by_cases e : j = i <;> simp [e]
  have hcl' : ∀ w, (listed.setIfInBounds i true)[w]?.getD false = true → ∀ j ∈ aft ops w, (listed.setIfInBounds i true)[j]?.getD false = true := fun w hw j hj => by
   rw [hL] at hw ⊢
   rcases hw with rfl | hw
   ·exact .inr (hrd j hj)
   ·exact .inr (st.cl w hw j hj)
  have hnd : (Td ++ (T' ++ Ts)).Nodup := st.tt.nodup_iff.1 (nodupB_nd rg.nd)
  have hcov : (i ∈ is ∨ i ∈ Ts) ∨ i ∈ T' := by
   rcases rg.cov i hlt with hin | hin
   ·exact .inl (.inl hin)
   ·rcases List.mem_append.1 (st.tt.mem_iff.1 hin) with h | h
    ·exact absurd (st.td i h) hnl'
    ·rcases List.mem_append.1 h with h | h
     ·exact .inr h
     ·exact .inl (.inr h)
  have hsep : ∀ j, (j ∈ is ∨ j ∈ Ts) → j ∉ Td ∧ j ∉ T' := fun j hj => by
   rcases hj with hj | hj
   ·have := (rg.isT j hj).1
    exact ⟨fun h => this (st.tt.mem_iff.2 (List.mem_append_left _ h)), fun h => this (st.tt.mem_iff.2 (List.mem_append_right _ (List.mem_append_left _ h)))⟩
   ·obtain ⟨_, n2, n3⟩ := List.nodup_append.1 hnd
    exact ⟨fun h => n3 j h j (List.mem_append_right _ hj) rfl, fun h => (List.nodup_append.1 n2).2.2 j h j hj rfl⟩
  rcases hcov with hin | hin
  ·
   obtain ⟨x, hx, rfl⟩ := st.sI i hin
   obtain ⟨_, Sx, hSx, ob⟩ := st.sS x hx
   have hdst : dstOf ops x.i = some x.t := st.lk x (List.mem_append_right _ hx)
   have henv := st.env hnl' hrd (S' := Sx) fun y hy => hSx y hy
   have hA : x.ld = true → Ext As W := fun hld => by
    rcases Nat.lt_or_ge a Td.length with hlt | hge
    ·exfalso
     have hnr : ∀ t ∈ Td, (!reach ops 8 t x.i) = true := fun t ht => by
      cases hr : reach ops 8 t x.i with
      | false => rfl
      | true => exact absurd (reach_closed st.cl 8 t x.i hr (st.td t ht)) hnl'
     have h1 := st.sL x hx hld
     have h2 : (T.filter fun t => !reach ops 8 t x.i).length = ((Td ++ (T' ++ Ts)).filter fun t => !reach ops 8 t x.i).length := (st.tt.filter _).length_eq
     rw [List.filter_append, List.filter_eq_self.2 hnr, List.length_append] at h2
     omega
    ·exact st.aS hge
   have key := ob.2 As e (Region.linearise.go md ops fuel (t / rs.length) (listed.setIfInBounds x.i true) []) hA
   rw [henv] at key
   refine key (ih _ _ _ S K Td T' Ts As hsz' hu' ⟨fun y hy hLy => ?_, fun s h2 => ?_, fun s w h2 hw => ?_, hcl', st.tt, fun t ht => (hL t).2 (.inr (st.td t ht)), fun t ht hLt => ?_, st.lk, st.ka, st.ki, st.sS, st.sI, st.sL, st.sU, st.ch, st.aS⟩)
   ·by_cases hyi : y.i = x.i
    ·have hyx : y = x := by
      rcases List.mem_append.1 hy with hy | hy
      ·exact absurd (hyi ▸ st.ki y hy) (hsep _ hin).1
      ·exact st.sU y hy x hx hyi
     subst hyx; simp [put]
    ·have hLy' : listed[y.i]?.getD false = true := ((hL _).1 hLy).resolve_left hyi
     have hyt : y.t ≠ x.t := fun e => hyi (dst_inj rg (st.lk y hy) (e ▸ hdst))
     simp only [put, if_neg hyt]
     exact st.v1 y hy hLy'
   ·have : s ≠ x.t := fun e => by subst e; rw [rg.d2 _ _ hdst] at h2; cases h2
    simp only [put, if_neg this]; exact st.v2 s h2
   ·have : s ≠ x.t := fun e => by
     subst e; rw [rg.d2 _ _ hdst] at h2
     exact hw ((hL w).2 (.inl (Option.some.inj h2).symm))
    simp only [put, if_neg this]
    exact st.v3 s w h2 fun h => hw ((hL w).2 (.inr h))
   ·rcases (hL t).1 hLt with rfl | h
    ·exact (hsep _ hin).2 ht
    ·exact st.tn t ht h
  ·
   have hinT' : i ∈ T' := hin
   have hnd' : T'.Nodup := (List.nodup_append.1 (List.nodup_append.1 hnd).2.1).1
   have hcand : i ∈ cand ops T' := by
    unfold cand
    refine List.mem_filter.2 ⟨hinT', List.all_eq_true.2 fun u hu => ?_⟩
    by_cases hui : u = i
    ·simp [hui]
    ·cases hr : reach ops 8 i u with
     | false => simp
     | true =>
      rcases reach_succ (f := 7) hr with hr | ⟨m, hm, hr⟩
      ·exact absurd hr.symm hui
      ·exact absurd (reach_closed st.cl 7 m u hr (hrd m hm)) (st.tn u hu)
   obtain ⟨b, hb⟩ : ∃ b, b = T'.erase i := ⟨_, rfl⟩
   have hpT : T'.Perm (i :: b) := by rw [hb]; exact List.perm_cons_erase hinT'
   have hlenT : T'.length = b.length + 1 := by rw [hpT.length_eq]; rfl
   have hib : i ∉ b := by rw [hb]; exact hnd'.not_mem_erase
   rcases hnd0 _ hlenT with hch | ⟨t1, hT1, ⟨o, ho, hod⟩, hall, hch⟩
   rotate_left
   ·obtain rfl : i = t1 := by rw [hT1] at hinT'; exact List.mem_singleton.1 hinT'
    have hlis : ∀ j, j < ops.size → j ≠ i → listed[j]?.getD false = true := fun j hj hne => by
     have h1 := List.all_eq_true.1 hall j (List.mem_range.2 hj)
     have h2 : reach ops 8 i j = true := by simpa [hne] using h1
     rcases reach_succ (f := 7) h2 with h3 | ⟨m, hm, h3⟩
     ·exact absurd h3.symm hne
     ·exact reach_closed st.cl 7 m j h3 (hrd m hm)
    have hf0 : fuel = 0 := by
     rw [← hu']
     rcases Nat.eq_zero_or_pos (unl (fun j => (listed.setIfInBounds i true)[j]?.getD false) ops.size) with h1 | h1
     ·exact h1
     ·obtain ⟨j, hj, hfj, _⟩ := exists_least (f := fun j => (listed.setIfInBounds i true)[j]?.getD false) (Nat.pos_iff_ne_zero.1 h1)
      exfalso
      have : (listed.setIfInBounds i true)[j]?.getD false = true := (hL j).2 (by
       by_cases e : j = i
       ·exact .inl e
       ·exact .inr (hlis j hj e))
      rw [this] at hfj; cases hfj
    subst hf0
    simp only [Region.linearise.go, List.reverse_nil]
    have he : e = putsS e0 (K ++ S) := by
     funext s
     unfold putsS
     cases h1 : lkA (K ++ S) s with
     | some v =>
      obtain ⟨x, hx, rfl, rfl⟩ := lkA_mem h1
      refine st.v1 x hx (hlis _ (dstOf_lt (st.lk x hx)) fun z => ?_)
      have := st.lk x hx
      rw [z] at this
      unfold dstOf at this
      rw [ho] at this
      simp only at this
      rw [hod] at this; cases this
     | none =>
      simp only
      have hno := lkA_none h1
      cases h2 : lkD D s with
      | none => exact st.v2 s h2
      | some w =>
       have hd := rg.d1 s w h2
       have hwi : w ≠ i := fun z => by
        unfold dstOf at hd
        rw [z, ho] at hd
        simp only at hd
        rw [hod] at hd; cases hd
       have hwc : (w ∈ is ∨ w ∈ Ts) ∨ w ∈ Td := by
        rcases rg.cov w (dstOf_lt hd) with hw | hw
        ·exact .inl (.inl hw)
        ·rcases List.mem_append.1 (st.tt.mem_iff.1 hw) with hw | hw
         ·exact .inr hw
         ·rcases List.mem_append.1 hw with hw | hw
          ·rw [hT1] at hw; exact absurd (List.mem_singleton.1 hw) hwi
          ·exact .inl (.inr hw)
       rcases hwc with hw | hw
       ·obtain ⟨x, hx, rfl⟩ := st.sI w hw
        have := st.lk x (List.mem_append_right _ hx)
        rw [hd] at this
        exact absurd (Option.some.inj this).symm (hno x (List.mem_append_right _ hx))
       ·obtain ⟨x, hx, hxs⟩ := st.ka w hw s hd
        exact absurd hxs (hno x (List.mem_append_left _ hx))
    rw [he]
    exact hch
   have hch := hch i hcand
   rw [← hb] at hch
   have henv := st.env hnl' hrd (S' := K ++ S) fun y hy => hy
   have hniT : ∀ y ∈ K ++ S, y.i ≠ i := fun y hy e => by
    rcases List.mem_append.1 hy with hy | hy
    ·exact hnl' (e ▸ st.td _ (st.ki y hy))
    ·exact (hsep _ (st.sS y hy).1).2 (e ▸ hin)
   have htn : ∀ t ∈ b, ¬ (listed.setIfInBounds i true)[t]?.getD false = true := fun u hu hLu => by
    rcases (hL u).1 hLu with rfl | h
    ·exact hib hu
    ·exact st.tn u (hpT.mem_iff.2 (List.mem_cons_of_mem _ hu)) h
   have htt : T.Perm (Td ++ [i] ++ (b ++ Ts)) := by
    refine st.tt.trans ?_
    rw [List.append_assoc]
    exact (hpT.append_right Ts).append_left Td
   have main' : ∀ (o : Oper), nthO ops i = some o → ∀ As' v, ((Td ++ [i]).length ≤ a → Ext As' W) → Ch R d fn kd n ds ops k cs e0 D W b.length S b (a - (Td ++ [i]).length) (match o.dst with | some s => ⟨i, s, v, false⟩ :: K | none => K) As' →
     At R d As' (gr fn kd n (putO e o.dst v) ds (.inRegion ops (Region.linearise.go md ops fuel (t / rs.length) (listed.setIfInBounds i true) []) :: k) cs) := by
    intro o ho As' v hext hc'
    cases hd : o.dst with
    | none =>
     rw [hd] at hc'
     have hdn : dstOf ops i = none := by unfold dstOf; rw [ho]; exact hd
     refine ih _ _ _ S K (Td ++ [i]) b Ts As' hsz' hu' ⟨fun y hy hLy => ?_, st.v2, fun s w h2 hw => st.v3 s w h2 fun h => hw ((hL w).2 (.inr h)), hcl', htt, fun u hu => ?_, htn, st.lk, fun u hu s hs => ?_, fun y hy => List.mem_append_left _ (st.ki y hy), st.sS, st.sI, st.sL, st.sU, hc', hext⟩
     ·exact st.v1 y hy (((hL _).1 hLy).resolve_left (hniT y hy))
     ·rcases List.mem_append.1 hu with hu | hu
      ·exact (hL u).2 (.inr (st.td u hu))
      ·exact (hL u).2 (.inl (by simpa using hu))
     ·rcases List.mem_append.1 hu with hu | hu
      ·exact st.ka u hu s hs
      ·have : u = i := by simpa using hu
       subst this; rw [hdn] at hs; cases hs
    | some s0 =>
     rw [hd] at hc'
     have hdi : dstOf ops i = some s0 := by unfold dstOf; rw [ho]; exact hd
     refine ih _ _ _ S (⟨i, s0, v, false⟩ :: K) (Td ++ [i]) b Ts As' hsz' hu' ⟨fun y hy hLy => ?_, fun s h2 => ?_, fun s w h2 hw => ?_, hcl', htt, fun u hu => ?_, htn, fun y hy => ?_, fun u hu s hs => ?_, fun y hy => ?_, fun x hx => (by obtain ⟨h1, Sx, h2, h3⟩ := st.sS x hx; exact ⟨h1, Sx, fun y hy => List.mem_cons_of_mem _ (h2 y hy), h3⟩), st.sI, st.sL, st.sU, hc', hext⟩
     ·rcases List.mem_cons.1 hy with rfl | hy
      ·simp [putO, put]
      ·have hyi := hniT y hy
       have hyt : y.t ≠ s0 := fun e => hyi (dst_inj rg (st.lk y hy) (e ▸ hdi))
       simp only [putO, put, if_neg hyt]
       exact st.v1 y hy (((hL _).1 hLy).resolve_left hyi)
     ·have : s ≠ s0 := fun e => by subst e; rw [rg.d2 _ _ hdi] at h2; cases h2
      simp only [putO, put, if_neg this]; exact st.v2 s h2
     ·have : s ≠ s0 := fun e => by
       subst e; rw [rg.d2 _ _ hdi] at h2
       exact hw ((hL w).2 (.inl (Option.some.inj h2).symm))
      simp only [putO, put, if_neg this]
      exact st.v3 s w h2 fun h => hw ((hL w).2 (.inr h))
     ·rcases List.mem_append.1 hu with hu | hu
      ·exact (hL u).2 (.inr (st.td u hu))
      ·exact (hL u).2 (.inl (by simpa using hu))
     ·rcases List.mem_cons.1 hy with rfl | hy
      ·exact hdi
      ·exact st.lk y hy
     ·rcases List.mem_append.1 hu with hu | hu
      ·obtain ⟨x, hx, e⟩ := st.ka u hu s hs; exact ⟨x, List.mem_cons_of_mem _ hx, e⟩
      ·have : u = i := by simpa using hu
       subst this; rw [hdi] at hs; exact ⟨_, List.mem_cons_self .., Option.some.inj hs⟩
     ·rcases List.mem_cons.1 hy with rfl | hy
      ·exact List.mem_append_right _ (List.mem_cons_self ..)
      ·exact List.mem_append_left _ (st.ki y hy)
   have hlen : (Td ++ [i]).length = Td.length + 1 := by simp
   cases hm : a - Td.length with
   | zero =>
    rw [hm] at hch
    obtain ⟨o, ho, hch⟩ := hch
    have key := hch e (Region.linearise.go md ops fuel (t / rs.length) (listed.setIfInBounds i true) [])
    rw [henv] at key
    refine key fun As' v hc' => main' o ho As' v (fun h => by omega) ?_
    have : a - (Td ++ [i]).length = 0 - 1 := by omega
    rw [this]; exact hc'
   | succ m =>
    rw [hm] at hch
    obtain ⟨o, ho, hch⟩ := hch
    have key := hch e (Region.linearise.go md ops fuel (t / rs.length) (listed.setIfInBounds i true) [])
    rw [henv] at key
    refine key fun As' v hx hc' => main' o ho As' v (fun h => hx.ext (st.aS (by omega))) ?_
    have : a - (Td ++ [i]).length = m + 1 - 1 := by omega
    rw [this]; exact hc'
theorem Dr.uniq : ∀ (is : List Nat) (S : List SE), nodupB is = true → (∀ x ∈ S, x.i ∉ is) → (∀ x ∈ S, ∀ y ∈ S, x.i = y.i → x = y) → Dr R d fn kd n ds ops k cs e0 D W As0 T a S is → ∃ S', (∀ x ∈ S, x ∈ S') ∧ (∀ x ∈ S', x ∈ S ∨ (x.i ∈ is ∧ ∃ Sx, (∀ y ∈ Sx, y ∈ S') ∧ Obl R d fn kd n ds ops k cs e0 D W Sx x)) ∧ (∀ i ∈ is, ∃ x ∈ S', x.i = i) ∧
  (∀ x ∈ S', x.ld = true → (T.filter fun t => !reach ops 8 t x.i).length ≤ a) ∧ (Ext As0 W ∧ Ch R d fn kd n ds ops k cs e0 D W T.length S' T a [] As0) ∧ (∀ x ∈ S', ∀ y ∈ S', x.i = y.i → x = y)
 | [], S, _, _, hU, h => by
  obtain ⟨h1, h2⟩ := h
  refine ⟨S, fun x hx => hx, fun x hx => .inl hx, fun i hi => (by cases hi), fun x hx hld => ?_, h2, hU⟩
  have := List.all_eq_true.1 h1 x hx
  rw [hld] at this
  simpa using this
 | i :: is, S, hn, hni, hU, h => by
  obtain ⟨t, v, ld, o, h⟩ := h
  obtain ⟨hn1, hn2⟩ := nodupB_cons hn
  obtain ⟨S', a1, a2, a3, a4, a5, a6⟩ := Dr.uniq is _ hn2 (fun x hx => by
   rcases List.mem_cons.1 hx with rfl | hx
   ·exact hn1
   ·exact fun z => hni x hx (List.mem_cons_of_mem _ z)) (fun x hx y hy e => by
   rcases List.mem_cons.1 hx with rfl | hx <;> rcases List.mem_cons.1 hy with rfl | hy
   ·rfl
   ·exact absurd (List.mem_cons.2 (.inl e.symm)) (hni y hy)
   ·exact absurd (List.mem_cons.2 (.inl e)) (hni x hx)
   ·exact hU x hx y hy e) h
  refine ⟨S', fun x hx => a1 x (List.mem_cons_of_mem _ hx), fun x hx => ?_, fun j hj => ?_, a4, a5, a6⟩
  ·rcases a2 x hx with hx | ⟨hx, y⟩
   ·rcases List.mem_cons.1 hx with rfl | hx
    ·exact .inr ⟨List.mem_cons_self .., S, fun y hy => a1 y (List.mem_cons_of_mem _ hy), o⟩
    ·exact .inl hx
   ·exact .inr ⟨List.mem_cons_of_mem _ hx, y⟩
  ·rcases List.mem_cons.1 hj with rfl | hj
   ·exact ⟨_, a1 _ (List.mem_cons_self ..), rfl⟩
   ·exact a3 j hj
theorem repl_get (m i : Nat) : (Array.replicate m false)[i]?.getD false = false := by rw [Array.getElem?_replicate]; split <;> rfl
theorem Closed.drawnW (C : Closed P main B R) {c : Code} (D : List (Nat × Nat)) (is T : List Nat) (a : Nat) (h : Dr R d fn kd n ds (cO c) k cs e0 D W As0 T a [] is) (hc : ck c = .draw := by rfl) (hr : regOk (cO c) D T is = true := by decide +kernel) (hn : nodupB is = true := by rfl) :
  At R d As0 (gr fn kd n e0 ds (.code c :: k) cs) := by
 refine C.dr (fun t => ?_) hc
 have rg := regOk_of hr
 obtain ⟨S, _, a2, a3, a4, a5, a6⟩ := Dr.uniq is [] hn (fun x hx => by cases hx) (fun x hx => by cases hx) h
 have a2' : ∀ x ∈ S, x.i ∈ is ∧ ∃ Sx, (∀ y ∈ Sx, y ∈ S) ∧ Obl R d fn kd n ds (cO c) k cs e0 D W Sx x := fun x hx => (a2 x hx).resolve_left (by simp)
 have hst : ∀ listed : Array Bool, listed = Array.replicate (cO c).size false → DSt R d fn kd n ds (cO c) k cs e0 D W As0 T is a S (fun i => listed[i]?.getD false = true) e0 [] [] T [] As0 := fun listed hl => by
  have hno : ∀ i, ¬ (listed[i]?.getD false = true) := fun i => by
   subst hl; rw [repl_get]; simp
  have hlk : ∀ x ∈ ([] : List SE) ++ S, dstOf (cO c) x.i = some x.t := fun x hx => by
   obtain ⟨_, Sx, _, ⟨o, ho, hd⟩, _⟩ := a2' x (by simpa using hx)
   unfold dstOf; rw [ho]; exact hd
  exact ⟨fun x _ hx => absurd hx (hno _), fun _ _ => rfl, fun _ _ _ _ => rfl, fun w hw => absurd hw (hno w), by rw [List.append_nil]; exact .refl _, fun t ht => (by cases ht), fun t _ => hno t, hlk, fun t ht => (by cases ht), fun x hx => (by cases hx), fun x hx => (by obtain ⟨h1, Sx, h2, h3⟩ := a2' x hx; exact ⟨.inl h1, Sx, fun y hy => by simpa using h2 y hy, h3⟩), fun i hi => a3 i (hi.resolve_right (by simp)), a4, a6, a5.2, fun _ => a5.1⟩
 have hunl : ∀ m, unl (fun i => (Array.replicate (cO c).size false)[i]?.getD false) m = m := fun m => by
  induction m with
  | zero => rfl
  | succ m ih =>
   unfold unl
   rw [ih, repl_get]; rfl
 unfold Region.schedule
 split
 ·unfold Region.linearise
  exact drawn_run rg (cO c).size _ _ e0 S [] [] T [] As0 (by simp) (hunl _) (hst _ rfl)
 ·unfold Region.linearise
  exact drawn_run rg (cO c).size _ _ e0 S [] [] T [] As0 (by simp) (hunl _) (hst _ rfl)
theorem Closed.drawn (C : Closed P main B R) {c : Code} (D : List (Nat × Nat)) (is T : List Nat) (a : Nat) (h : Dr R d fn kd n ds (cO c) k cs e0 D As0 As0 T a [] is) (hc : ck c = .draw := by rfl) (hr : regOk (cO c) D T is = true := by decide +kernel) (hn : nodupB is = true := by rfl) :
  At R d As0 (gr fn kd n e0 ds (.code c :: k) cs) := C.drawnW D is T a h hc hr hn
end
end Go.Sl
end
section
set_option linter.unusedVariables false
namespace Go.Sl
open Go.Conc
class RowF {α : Type} (f : α → List Value) (z : outParam Nat) : Prop where
 len : ∀ a, (f a).length = z
 one : ∀ a, ∀ v ∈ f a, oneCell v = true
def SliceV.b (s : SliceV) : Nat := match s.a with | some a => a.block | none => 0
def imSl {α : Type} (I : HL) (f : α → List Value) (el : TypeId) (s : SliceV) (l : List α) : Prop :=
 (s = nilS ∧ l = []) ∨ ∃ pad, s = ⟨some ⟨s.b, 0, none⟩, l.length, s.cap⟩ ∧ I s.b = some (.cells (rowA f l pad) el (0, 0))
theorem imSl.mono {α : Type} {I I' : HL} {f : α → List Value} {el : TypeId} {s : SliceV} {l : List α} (h : imSl I f el s l) (hs : Sub I I') : imSl I' f el s l :=
 h.imp id fun ⟨pad, h1, h2⟩ => ⟨pad, h1, hs _ _ h2⟩
theorem imSl.nil {α : Type} (I : HL) (f : α → List Value) (el : TypeId) : imSl I f el nilS [] := .inl ⟨rfl, rfl⟩
inductive RowS {α : Type} (f : α → List Value) (el : TypeId) (s : SliceV) (l : List α) : List HP → Prop
 | own {z : Nat} {As L : List HP} : Fo (slP f z el s l) As L → RowS f el s l As
 | imm {I : HL} {As L : List HP} : Fo (imm I) As L → imSl I f el s l → RowS f el s l As
 | ext {As As0 : List HP} : Ext As As0 → RowS f el s l As0 → RowS f el s l As
section
variable {α : Type} {f : α → List Value} {el : TypeId} {s : SliceV} {l : List α} {As : List HP} {h : HL}
theorem RowS.get (r : RowS f el s l As) (st : Sat As h) : (s = nilS ∧ l = []) ∨ ∃ pad, s = ⟨some ⟨s.b, 0, none⟩, l.length, s.cap⟩ ∧ h s.b = some (.cells (rowA f l pad) el (0, 0)) := by
 induction r with
 | @own z As L fo =>
  obtain ⟨hh, x, hsub, _⟩ := st.perm fo.perm
  rcases x with ⟨rfl, rfl⟩ | ⟨b, pad, e, _, _, hpt⟩
  ·exact .inl ⟨rfl, rfl⟩
  ·have hb : s.b = b := by rw [e]; rfl
   refine .inr ⟨pad, by rw [hb]; exact e, ?_⟩
   subst hpt; rw [hb]; exact hsub b _ (by simp [one])
 | imm fo hi =>
  rcases hi with ⟨rfl, rfl⟩ | ⟨pad, h1, h2⟩
  ·exact .inl ⟨rfl, rfl⟩
  ·exact .inr ⟨pad, h1, (st.perm fo.perm).getI h2⟩
 | ext e _ ih => exact ih (e _ st)
theorem RowS.at {i : Nat} (r : RowS f el s l As) (st : Sat As h) (hi : i < l.length) : ∃ pad, s = ⟨some ⟨s.b, 0, none⟩, l.length, s.cap⟩ ∧ h s.b = some (.cells (rowA f l pad) el (0, 0)) := by
 rcases r.get st with ⟨_, rfl⟩ | h
 ·simp at hi
 ·exact h
theorem RowS.src {B : Bad} {H : Array Obj} {z : Nat} [rf : RowF f z] (r : RowS f el s l As) (st : Sat As (hp H)) (hs : ∀ j, B.sh el j = false) : SrcOk B H z l.length s.v (flat f l) := by
 rcases r.get st with ⟨rfl, rfl⟩ | ⟨pad, h1, h2⟩
 ·exact .inl ⟨rfl, rfl, rfl⟩
 ·refine .inr ⟨s.b, 0, s.cap, _, _, by rw [h1]; rfl, h2, ?_, ?_, hs⟩
  ·rw [rowA_size rf.len]; omega
  ·have hfl : (flat f l).length = l.length * z := flat_len rf.len l
   rw [Nat.zero_add, ← hfl]; simp [rowA]
theorem RowS.srcP {B : Bad} {H : Array Obj} {z : Nat} [rf : RowF f z] (r : RowS f el s l As) (st : Sat As (hp H)) (hs : ∀ j, B.sh el j = false) (i m : Nat) (him : i + m ≤ l.length) (cap : Nat) (a : Option Addr) (ha : m ≠ 0 → a = some ⟨s.b, i * z, none⟩) (hn : m = 0 → a = none ∧ cap = 0 ∨ ∃ o, a = some ⟨s.b, o, none⟩ ∧ l ≠ [] ∧ o ≤ l.length * z) :
  SrcOk B H z m (.slice a m cap) (flat f ((l.drop i).take m)) := by
 rcases r.get st with ⟨rfl, rfl⟩ | ⟨pad, h1, h2⟩
 ·have : m = 0 := by simp at him; omega
  subst this
  rcases hn rfl with ⟨rfl, rfl⟩ | ⟨o, _, hne, _⟩
  ·exact .inl ⟨rfl, rfl, by simp [flat]⟩
  ·exact absurd rfl hne
 ·have hfl : (flat f l).length = l.length * z := flat_len rf.len l
  by_cases hm : m = 0
  ·subst hm
   rcases hn rfl with ⟨rfl, rfl⟩ | ⟨o, rfl, hne, ho⟩
   ·exact .inl ⟨rfl, rfl, by simp [flat]⟩
   ·exact .inr ⟨s.b, o, cap, _, _, rfl, h2, by rw [rowA_size rf.len]; omega, by simp [flat]; omega, hs⟩
  ·rw [ha hm]
   refine .inr ⟨s.b, i * z, cap, _, _, rfl, h2, ?_, ?_, hs⟩
   ·rw [rowA_size rf.len, ← Nat.add_mul]
    have := Nat.mul_le_mul_right z him
    omega
   ·rw [← Nat.add_mul]
    have hlen : (l.take (i + m)).length = i + m := by rw [List.length_take]; omega
    have e1 : flat f l ++ pad = flat f (l.take i) ++ (flat f ((l.drop i).take m) ++ (flat f (l.drop (i + m)) ++ pad)) := by
     have : l = l.take i ++ ((l.drop i).take m ++ l.drop (i + m)) := by
      rw [← List.drop_drop, List.take_append_drop, List.take_append_drop]
     conv => lhs; rw [this, flat_app, flat_app]
     simp
    have e2 : (flat f (l.take i)).length = i * z := by rw [flat_len rf.len, List.length_take, Nat.min_eq_left (by omega)]
    have e3 : (flat f ((l.drop i).take m)).length = m * z := by rw [flat_len rf.len, List.length_take, List.length_drop, Nat.min_eq_left (by omega)]
    unfold rowA
    rw [e1, List.extract_toArray]
    congr 1
    rw [List.extract_eq_take_drop, Nat.add_mul, ← e2, List.drop_left, Nat.add_sub_cancel_left, ← e3, List.take_left]
end
section
variable {P : Program} {main : Bool} {B : Bad} {R : Nat → Goroutine → Array Obj → Prop} {d : Nat} {As As' L F : List HP}
variable {fn : FuncId} {kd : Kd} {n : Nat} {e : Nat → Value} {ds : List Deferred} {k : List Item} {cs : List Frame}
variable {ops : Array Oper} {i : Nat} {rest : List Nat} {dst : Option Nat} {t : Nat} {ty : TypeId} {pos : String} {af : Array Edge} {gd : Option (Nat × Bool)} {x y w : Operand} {v u : Value} {b off : Nat} {c : Array Value} {el tt t2 t3 : TypeId} {kk : IntKind}
theorem Closed.cnd (C : Closed P main B R) {c : Code} {t : Bool} (h1 : t = true → At R d As (gr fn kd n e ds (.code (cT c) :: k) cs)) (h2 : t = false → At R d As (gr fn kd n e ds (.code (cE c) :: k) cs)) (hc : ck c = .cond := by rfl) (hb : ev n e (cC c) = .bool t := by rfl) : At R d As (gr fn kd n e ds (.code c :: k) cs) := by
 cases t with
 | true => exact C.cT' (h1 rfl) hc hb
 | false => exact C.cF' (h2 rfl) hc hb
theorem Closed.clR (C : Closed P main B R) {f : FuncId} {fu : Func} {c : Code} {nf : Nat} [b : Body P f fu c nf] {fo : Operand} {args : Array Operand} {ats : Array TypeId} {vl : List Value} {A : List HP} {Q : Value → List HP → Prop} (hs : Spec P main B f vl.toArray A Q)
  (h : ∀ v As', Q v As' → At R d (As' ++ F) (gr fn kd n (putO e dst v) ds (.inRegion ops rest :: k) cs))
  (ho : nthO ops i = some ⟨dst, .call ⟨.value fo, args, ats⟩, ty, pos, af, gd⟩ := by rfl) (hv : args.toList.map (ev n e) = vl := by rfl) (hf : ev n e fo = .func (.func f) #[] #[] := by rfl)
  (hr : ReF A As F := by repeat (first | with_reducible exact ReF.nil | with_reducible exact Fo.head | with_reducible apply Fo.tail | with_reducible apply ReF.cons)) (hw : wantB ops n e gd = true := by rfl) : At R d As (gr fn kd n e ds (.inRegion ops (i :: rest) :: k) cs) :=
 At.perm hr.perm (C.cl hs h ho hw hf hv)
section
variable {α : Type} {f : α → List Value} {z : Nat} {s : SliceV} {l : List α} {j o : Nat}
theorem Closed.lnR (C : Closed P main B R) [cE : El P tt el] (ho : nthO ops i = some ⟨some t, .call ⟨.builtin .len, #[x], #[tt]⟩, ty, pos, af, gd⟩) (h : Nx R d As fn kd n e ds ops rest k cs t (.int .i64 l.length))
  (hx : ev n e x = s.v := by rfl) (hr : RowS f el s l As := by first | (apply RowS.own; (repeat (first | with_reducible exact Fo.head | with_reducible apply Fo.tail)); done) | (apply RowS.imm; (repeat (first | with_reducible exact Fo.head | with_reducible apply Fo.tail)); assumption) | (apply RowS.ext; assumption; apply RowS.own; (repeat (first | with_reducible exact Fo.head | with_reducible apply Fo.tail)); done) | (apply RowS.ext; assumption; apply RowS.imm; (repeat (first | with_reducible exact Fo.head | with_reducible apply Fo.tail)); assumption)) (hw : wantB ops n e gd = true := by rfl) : Nw R d As fn kd n e ds ops i rest k cs :=
 C.gen ho hw fun H st => by
  have hl : s.len = l.length := by
   rcases hr.get st with ⟨rfl, rfl⟩ | ⟨pad, h1, _⟩
   ·rfl
   ·rw [h1]
  unfold execOp; simp only [resolve]
  refine okS_do (okS_pure ?_)
  simp only [List.map_toArray, List.map_cons, List.map_nil, hx]
  unfold invoke builtin
  refine okS_do ?_
  unfold Builtin.len_
  refine okS_do (pu_und cE.h B H d _ ?_)
  refine okS_pure (okS_pure ⟨As, st, ?_⟩)
  rw [hl]; exact h
theorem Closed.iaR (C : Closed P main B R) [rf : RowF f z] [c : El P tt el] [Cz P el z] (ho : nthO ops i = some ⟨some t, .indexAddr tt x y, ty, pos, af, gd⟩) (h : Nx R d As fn kd n e ds ops rest k cs t (.pointer (some ⟨s.b, j * z, none⟩)))
  (hx : ev n e x = s.v := by rfl) (hy : ev n e y = .int kk (j : Int) := by rfl) (hr : RowS f el s l As := by first | (apply RowS.own; (repeat (first | with_reducible exact Fo.head | with_reducible apply Fo.tail)); done) | (apply RowS.imm; (repeat (first | with_reducible exact Fo.head | with_reducible apply Fo.tail)); assumption) | (apply RowS.ext; assumption; apply RowS.own; (repeat (first | with_reducible exact Fo.head | with_reducible apply Fo.tail)); done) | (apply RowS.ext; assumption; apply RowS.imm; (repeat (first | with_reducible exact Fo.head | with_reducible apply Fo.tail)); assumption)) (hj : j < l.length := by omega) (hw : wantB ops n e gd = true := by rfl) : Nw R d As fn kd n e ds ops i rest k cs :=
 C.gen ho hw fun H st => by
  obtain ⟨pad, hs, _⟩ := hr.at st hj
  have hx' : ev n e x = .slice (some ⟨s.b, 0, none⟩) l.length s.cap := by
   rw [hx]; unfold SliceV.v
   have h1 : s.a = some ⟨s.b, 0, none⟩ := congrArg SliceV.a hs
   have h2 : s.len = l.length := congrArg SliceV.len hs
   rw [h1, h2]
  unfold execOp; simp only [hx', hy, Instr.indexAt, asIntOf]
  refine okS_do (okS_do (okS_pure ?_))
  refine okS_do (pu_und c.h B H d _ ?_)
  refine okS_do (okS_pure ?_)
  refine okS_do (pu_und c.h B H d _ ?_)
  simp only
  rw [if_pos (by omega)]
  refine okS_do (pu_size B H d _ (okS_pure ?_))
  rw [add_of]
  refine ⟨As, st, ?_⟩
  have : 0 + (j : Int).toNat * z = j * z := by simp
  rw [this]; exact h
theorem Closed.ldR (C : Closed P main B R) [rf : RowF f z] [Ag P tt false] (ho : nthO ops i = some ⟨some t, .load tt x, ty, pos, af, gd⟩) (h : Nx R d As fn kd n e ds ops rest k cs t v)
  (hx : ev n e x = .pointer (some ⟨s.b, j * z + o, none⟩) := by rfl) (hr : RowS f el s l As := by first | (apply RowS.own; (repeat (first | with_reducible exact Fo.head | with_reducible apply Fo.tail)); done) | (apply RowS.imm; (repeat (first | with_reducible exact Fo.head | with_reducible apply Fo.tail)); assumption) | (apply RowS.ext; assumption; apply RowS.own; (repeat (first | with_reducible exact Fo.head | with_reducible apply Fo.tail)); done) | (apply RowS.ext; assumption; apply RowS.imm; (repeat (first | with_reducible exact Fo.head | with_reducible apply Fo.tail)); assumption)) (hj : j < l.length := by omega) (hv : (f l[j])[o]? = some v := by rfl) (hz : o < z := by decide) (hs : B.sh el (j * z + o) = false := by rfl) (hw : wantB ops n e gd = true := by rfl) : Nw R d As fn kd n e ds ops i rest k cs :=
 C.gen ho hw fun H st => by
  obtain ⟨pad, _, hg⟩ := hr.at st hj
  unfold execOp; simp only [hx, Instr.loadAt, Instr.sureAddr]
  exact okS_do (okS_do (okS_pure (okS_loadVar1 hg ((rowA_get rf.len hj hz rfl).trans hv) hs ⟨As, st, h⟩)))
theorem Closed.ldR0 (C : Closed P main B R) [rf : RowF f z] [Ag P tt false] (ho : nthO ops i = some ⟨some t, .load tt x, ty, pos, af, gd⟩) (h : Nx R d As fn kd n e ds ops rest k cs t v)
  (hx : ev n e x = .pointer (some ⟨s.b, j * z, none⟩) := by rfl) (hr : RowS f el s l As := by first | (apply RowS.own; (repeat (first | with_reducible exact Fo.head | with_reducible apply Fo.tail)); done) | (apply RowS.imm; (repeat (first | with_reducible exact Fo.head | with_reducible apply Fo.tail)); assumption) | (apply RowS.ext; assumption; apply RowS.own; (repeat (first | with_reducible exact Fo.head | with_reducible apply Fo.tail)); done) | (apply RowS.ext; assumption; apply RowS.imm; (repeat (first | with_reducible exact Fo.head | with_reducible apply Fo.tail)); assumption)) (hj : j < l.length := by omega) (hv : (f l[j])[0]? = some v := by rfl) (hz : 0 < z := by decide) (hs : B.sh el (j * z + 0) = false := by rfl) (hw : wantB ops n e gd = true := by rfl) : Nw R d As fn kd n e ds ops i rest k cs :=
 C.ldR (o := 0) ho h hx hr hj hv hz hs hw
theorem Closed.ldRS (C : Closed P main B R) [rf : RowF f z] [Ag P tt true] [Cz P tt z] (ho : nthO ops i = some ⟨some t, .load tt x, ty, pos, af, gd⟩) (h : ∀ hj : j < l.length, Nx R d As fn kd n e ds ops rest k cs t (.agg (f l[j]).toArray))
  (hx : ev n e x = .pointer (some ⟨s.b, j * z, none⟩) := by rfl) (hr : RowS f el s l As := by first | (apply RowS.own; (repeat (first | with_reducible exact Fo.head | with_reducible apply Fo.tail)); done) | (apply RowS.imm; (repeat (first | with_reducible exact Fo.head | with_reducible apply Fo.tail)); assumption) | (apply RowS.ext; assumption; apply RowS.own; (repeat (first | with_reducible exact Fo.head | with_reducible apply Fo.tail)); done) | (apply RowS.ext; assumption; apply RowS.imm; (repeat (first | with_reducible exact Fo.head | with_reducible apply Fo.tail)); assumption)) (hj : j < l.length := by omega) (hs : ∀ q, B.sh el q = false := by intro q; rfl) (hw : wantB ops n e gd = true := by rfl) : Nw R d As fn kd n e ds ops i rest k cs :=
 C.gen ho hw fun H st => by
  obtain ⟨pad, _, hg⟩ := hr.at st hj
  unfold execOp; simp only [hx, Instr.loadAt, Instr.sureAddr]
  refine okS_do (okS_do (okS_pure (okS_loadVarS hg ?_ hs ?_)))
  ·rw [rowA_size rf.len]
   have := Nat.mul_le_mul_right z (show j + 1 ≤ l.length by omega)
   rw [Nat.add_mul] at this; omega
  ·rw [rowA_piece rf.len hj rfl]; exact ⟨As, st, h hj⟩
theorem Closed.ldRP (C : Closed P main B R) (hj : j < l.length) [rf : RowF f z] [Ag P tt true] [Cz P tt z] (ho : nthO ops i = some ⟨some t, .load tt x, ty, pos, af, gd⟩) (h : Nx R d As fn kd n e ds ops rest k cs t (.agg (f l[j]).toArray))
  (hx : ev n e x = .pointer (some ⟨s.b, j * z, none⟩) := by rfl) (hr : RowS f el s l As := by first | (apply RowS.own; (repeat (first | with_reducible exact Fo.head | with_reducible apply Fo.tail)); done) | (apply RowS.imm; (repeat (first | with_reducible exact Fo.head | with_reducible apply Fo.tail)); assumption) | (apply RowS.ext; assumption; apply RowS.own; (repeat (first | with_reducible exact Fo.head | with_reducible apply Fo.tail)); done) | (apply RowS.ext; assumption; apply RowS.imm; (repeat (first | with_reducible exact Fo.head | with_reducible apply Fo.tail)); assumption)) (hs : ∀ q, B.sh el q = false := by intro q; rfl) (hw : wantB ops n e gd = true := by rfl) : Nw R d As fn kd n e ds ops i rest k cs := C.ldRS ho (fun _ => h) hx hr hj hs hw
end
end
end Go.Sl
end
section
set_option linter.unusedVariables false
namespace Go.Sl
open Go.Conc
section
variable {P : Program} {main : Bool} {B : Bad} {R : Nat → Goroutine → Array Obj → Prop} {d : Nat} {As As' Bs L F : List HP}
variable {fn : FuncId} {kd : Kd} {n : Nat} {e : Nat → Value} {ds : List Deferred} {k : List Item} {cs : List Frame}
variable {ops : Array Oper} {i : Nat} {rest : List Nat} {dst : Option Nat} {t : Nat} {ty : TypeId} {pos : String} {af : Array Edge} {gd : Option (Nat × Bool)} {x y w : Operand} {v u : Value} {b off : Nat} {c : Array Value} {el tt t2 t3 : TypeId} {kk : IntKind}
theorem Closed.loopR (C : Closed P main B R) {c : Code} {X : Type} (L : X → List (Nat × Value)) (I : X → List HP) (Ok : X → Prop) (m : X → Nat) (x0 : X) (he : EnvIs e (L x0)) (hok : Ok x0)
  (step : ∀ x e, Ok x → (∀ y e' As', Ok y → m y < m x → EnvIs e' (L y) → Reo As' (I y) → At R d As' (gr fn kd n e' ds (.inLoop (cB c) :: k) cs)) → At R d (I x) (gr fn kd n (puts e (L x)) ds (.code (cB c) :: .inLoop (cB c) :: k) cs))
  (hI : Reo As (I x0) := by (try simp only [List.cons_append, List.nil_append]); repeat (first | with_reducible exact Reo.refl | with_reducible exact Reo.nil | with_reducible exact Fo.head | with_reducible apply Fo.tail | with_reducible apply Reo.cons | with_reducible apply Reo.drop)) (hc : ck c = .loop := by rfl) : At R d As (gr fn kd n e ds (.code c :: k) cs) :=
 At.reo hI (C.loopI L I Ok m x0 he rfl hok (fun x e hok ih => step x e hok fun y e' As' hy hlt he' hr => At.reo hr (ih y e' he' hy hlt)) hc)
theorem again {X : Type} {L : X → List (Nat × Value)} {I : X → List HP} {Ok : X → Prop} {m : X → Nat} {x0 : X} {body : Code} (ih : ∀ y e' As', Ok y → m y < m x0 → EnvIs e' (L y) → Reo As' (I y) → At R d As' (gr fn kd n e' ds (.inLoop body :: k) cs)) (y : X) (hy : Ok y) (hm : m y < m x0)
  (he : EnvIs e (L y) := by repeat (first | exact trivial | refine And.intro rfl ?_)) (hr : Reo As (I y) := by (try simp only [List.cons_append, List.nil_append]); repeat (first | with_reducible exact Reo.refl | with_reducible exact Reo.nil | with_reducible exact Fo.head | with_reducible apply Fo.tail | with_reducible apply Reo.cons | with_reducible apply Reo.drop)) : At R d As (gr fn kd n e ds (.inLoop body :: k) cs) := ih y e As hy hm he hr
theorem cutR {G : Prop} (φ : Prop) (L : List (Nat × Value)) (As1 : List HP) {k1 : List Item} (h1 : (∀ e' As', φ → EnvIs e' L → Reo As' As1 → At R d As' (gr fn kd n e' ds k1 cs)) → G) (h2 : φ → ∀ e, At R d As1 (gr fn kd n (puts e L) ds k1 cs)) : G :=
 h1 fun e' As' hφ he hr => At.reo hr (by rw [← puts_eq he]; exact h2 hφ e')
theorem join {φ : Prop} {L : List (Nat × Value)} {As1 : List HP} {k1 : List Item} (h : ∀ e' As', φ → EnvIs e' L → Reo As' As1 → At R d As' (gr fn kd n e' ds k1 cs)) (hφ : φ)
  (he : EnvIs e L := by repeat (first | exact trivial | refine And.intro rfl ?_)) (hr : Reo As As1 := by (try simp only [List.cons_append, List.nil_append]); repeat (first | with_reducible exact Reo.refl | with_reducible exact Reo.nil | with_reducible exact Fo.head | with_reducible apply Fo.tail | with_reducible apply Reo.cons | with_reducible apply Reo.drop)) : At R d As (gr fn kd n e ds k1 cs) := h e As hφ he hr
theorem cutX {G : Prop} {X : Type} (φ : X → Prop) (L : X → List (Nat × Value)) (As1 : X → List HP) {k1 : List Item} (h1 : (∀ x e' As', φ x → EnvIs e' (L x) → Reo As' (As1 x) → At R d As' (gr fn kd n e' ds k1 cs)) → G) (h2 : ∀ x, φ x → ∀ e, At R d (As1 x) (gr fn kd n (puts e (L x)) ds k1 cs)) : G :=
 h1 fun x e' As' hφ he hr => At.reo hr (by rw [← puts_eq he]; exact h2 x hφ e')
theorem joinX {X : Type} {φ : X → Prop} {L : X → List (Nat × Value)} {As1 : X → List HP} {k1 : List Item} (h : ∀ x e' As', φ x → EnvIs e' (L x) → Reo As' (As1 x) → At R d As' (gr fn kd n e' ds k1 cs)) (x : X) (hφ : φ x)
  (he : EnvIs e (L x) := by repeat (first | exact trivial | refine And.intro rfl ?_)) (hr : Reo As (As1 x) := by (try simp only [List.cons_append, List.nil_append]); repeat (first | with_reducible exact Reo.refl | with_reducible exact Reo.nil | with_reducible exact Fo.head | with_reducible apply Fo.tail | with_reducible apply Reo.cons | with_reducible apply Reo.drop)) : At R d As (gr fn kd n e ds k1 cs) := h x e As hφ he hr
theorem Closed.retR (C : Closed P main B R) {fu : Func} {cc : Code} {n' : Nat} [b : Body P fn fu cc n'] {c : Frame} {x : Code} {Q : Value → List HP → Prop} (hkd : KdOk kd c) (hret : ∀ v As', Q v As' → At R d (As' ++ F) (after kd c cs v)) {v0 : Value} (q : Q v As')
  (hv : resV fu n e = some v0 := by rfl) (hv1 : v0 = v := by first | ((conv => { lhs; whnf }); done) | rfl) (hr : Reo As (As' ++ F) := by (try simp only [List.cons_append, List.nil_append]); repeat (first | with_reducible exact Reo.refl | with_reducible exact Reo.nil | with_reducible exact Fo.head | with_reducible apply Fo.tail | with_reducible apply Reo.cons | with_reducible apply Reo.drop)) (hx : ck x = .ret := by rfl) : At R d As (gr fn kd n e [] (.code x :: k) (c :: cs)) :=
 C.ret0 hkd (At.reo hr (hret v As' q)) (hv1 ▸ hv) hx
theorem Closed.finR (C : Closed P main B R) {fu : Func} {cc : Code} {n' : Nat} [b : Body P fn fu cc n'] {c : Frame} {Q : Value → List HP → Prop} (hkd : KdOk kd c) (hret : ∀ v As', Q v As' → At R d (As' ++ F) (after kd c cs v)) {v0 : Value} (q : Q v As')
  (hv : resV fu n e = some v0 := by rfl) (hv1 : v0 = v := by first | ((conv => { lhs; whnf }); done) | rfl) (hr : Reo As (As' ++ F) := by (try simp only [List.cons_append, List.nil_append]); repeat (first | with_reducible exact Reo.refl | with_reducible exact Reo.nil | with_reducible exact Fo.head | with_reducible apply Fo.tail | with_reducible apply Reo.cons | with_reducible apply Reo.drop)) : At R d As (gr fn kd n e [] [] (c :: cs)) :=
 C.fin0 hkd (At.reo hr (hret v As' q)) (hv1 ▸ hv)
def fillL (pl : List (Nat × Nat)) : Array Value → List (Nat × Value) → Array Value
 | c, [] => c
 | c, (i, v) :: l => fillL pl (wr c (pl.getD i (0, 0)).1 v.cells.toList) l
def fillOk (pl : List (Nat × Nat)) (m : Nat) : List (Nat × Value) → Bool
 | [] => true
 | (i, v) :: l => (match pl[i]? with | some (o, z) => v.cells.size == z && decide (o + z ≤ m) | none => false) && fillOk pl m l
theorem fill_eq (pl : List (Nat × Nat)) : ∀ (l : List (Nat × Value)) (c : Array Value), fillOk pl c.size l = true → Instr.fill (pl.toArray[·]?) c l = some (fillL pl c l)
 | [], c, _ => rfl
 | (i, v) :: l, c, h => by
  unfold fillOk at h
  simp only [Bool.and_eq_true] at h
  obtain ⟨h1, h2⟩ := h
  unfold Instr.fill fillL
  simp only [List.getElem?_toArray]
  cases hp : pl[i]? with
  | none => rw [hp] at h1; cases h1
  | some oz =>
   obtain ⟨o, z⟩ := oz
   rw [hp] at h1
   simp only [Bool.and_eq_true, beq_iff_eq, decide_eq_true_eq] at h1
   have hg : pl.getD i (0, 0) = (o, z) := by simp [List.getD, hp]
   simp only [hg]
   have hn : ¬ ((decide (v.cells.size ≠ z) || decide (o + v.cells.size > c.size)) = true) := by
    rw [h1.1]
    have := h1.2
    simp; omega
   rw [if_neg hn]
   have hf : Array.foldl (fun cs (x : Value × Nat) => match x with | (c, j) => cs.setIfInBounds (o + j) c) c v.cells.zipIdx = wr c o v.cells.toList := by
    rw [← Array.foldl_toList, Array.toList_zipIdx]
    exact zip_wr o v.cells.toList 0 _
   rw [hf]
   have key := fill_eq pl l (wr c o v.cells.toList) (by rw [wr_size]; exact h2)
   simp only [List.getElem?_toArray] at key
   exact key
inductive PV (n : Nat) (e : Nat → Value) : List (Nat × Operand) → List (Nat × Value) → Prop
 | nil : PV n e [] []
 | cons {i : Nat} {x : Operand} {v : Value} {l : List (Nat × Operand)} {m : List (Nat × Value)} (h : ev n e x = v) : PV n e l m → PV n e ((i, x) :: l) ((i, v) :: m)
theorem PV.eq {l : List (Nat × Operand)} {m : List (Nat × Value)} (p : PV n e l m) : l.map (fun (i, x) => (i, ev n e x)) = m := by
 induction p with
 | nil => rfl
 | cons h _ ih => simp [h, ih]
theorem Closed.bd (C : Closed P main B R) {zs xs : Array Value} {parts : Array (Nat × Operand)} {pl : List (Nat × Nat)} {pv : List (Nat × Value)} [cz : Zv P tt (.agg zs)] [hpl : Bd P tt pl] (ho : nthO ops i = some ⟨some t, .build tt parts, ty, pos, af, gd⟩) (h : Nx R d As fn kd n e ds ops rest k cs t (.agg xs))
  (hp : PV n e parts.toList pv := by repeat (first | exact PV.nil | (apply PV.cons; focus (conv => { lhs; whnf })))) (hok : fillOk pl zs.size pv = true := by rfl)
  (hx : fillL pl zs pv = xs := by first | (simp only [fillL, wr, Value.cells, List.getD_cons_zero, List.getD_cons_succ, List.toList_toArray, Nat.zero_add, Nat.reduceAdd, List.setIfInBounds_toArray, List.set_cons_succ, List.set_cons_zero]; done) | (simp only [fillL, wr, Value.cells, List.getD_cons_zero, List.getD_cons_succ, List.toList_toArray, Nat.zero_add, Nat.reduceAdd, List.setIfInBounds_toArray, List.set_cons_succ, List.set_cons_zero]; rfl) | rfl) (hw : wantB ops n e gd = true := by rfl) : Nw R d As fn kd n e ds ops i rest k cs :=
 C.val ho hw (fun B H d Q q' => by
  obtain ⟨fs, h1, h2⟩ := hpl.h
  unfold execOp; simp only [Instr.build]
  refine okS_do (okS_do (pu_zero B H d _ (okS_do (pu_und h1 B H d _ ?_))))
  simp only [Value.cells]
  rw [Array.mapM_eq_mapM_toList]
  refine okS_do ?_
  rw [map_eq_pure_bind]
  refine okS_do (h2.pu B H d _ (okS_pure ?_))
  have := fill_eq pl pv zs hok
  rw [Array.toList_map, hp.eq, this, hx]
  exact q') h
theorem Closed.bs1 (C : Closed P main B R) {z : Nat} {zv : Value} [cE : El P tt el] [Cz P el z] [Zv P el zv] (ho : nthO ops i = some ⟨some t, .buildSlice tt 1 #[(0, x)], ty, pos, af, gd⟩)
  (h : ∀ b, Nx R d (pts b (.cells c el (0, 0)) :: As) fn kd n e ds ops rest k cs t (.slice (some ⟨b, 0, none⟩) 1 1))
  (hx : ev n e x = v := by conv => { lhs; whnf }) (hc : v.cells = c := by first | (simp only [Value.cells]; done) | (simp only [Value.cells]; rfl) | rfl) (hv : v.cells.size = z := by rfl) (h0 : 1 * z ≠ 0 := by decide) (hm : 1 * z ≤ 16777216 := by decide) (hw : wantB ops n e gd = true := by rfl) : Nw R d As fn kd n e ds ops i rest k cs := by
 subst hc
 refine C.bs (vs := [v]) ho (fun b => ?_) (by simp [hx]) rfl (by simpa using hv) h0 hm hw
 have e1 : ([v].flatMap (·.cells.toList)).toArray = v.cells := by simp
 rw [e1]; exact h b
section
variable {α : Type} {f : α → List Value} {z : Nat} {s : SliceV} {l m : List α} {j o : Nat}
theorem Closed.apR (C : Closed P main B R) {el3 bz : Nat} {zv : Value} {yv : Value} [rf : RowF f z] [cE : El P tt el] [cE3 : El P t3 el3] [Cz P el z] [cB : Bz P el bz] [Zv P el zv] (m : List α)
  (ho : nthO ops i = some ⟨some t, .call ⟨.builtin .append, #[x, y], #[tt, t3]⟩, ty, pos, af, gd⟩) (h : ∀ s' : SliceV, Nx R d (slP f z el s' (l ++ m) :: L) fn kd n e ds ops rest k cs t s'.v)
  (hx : ev n e x = s.v := by rfl) (hy : ev n e y = yv := by rfl) (hf : Fo (slP f z el s l) As L := by repeat (first | with_reducible exact Fo.head | with_reducible apply Fo.tail)) (hsrc : ∀ H, Sat As (hp H) → SrcOk B H z m.length yv (flat f m))
  (hsz : (l.length + m.length) * bz ≤ 140737488355328 := by (try simp only [List.length_cons, List.length_nil]); omega) (hzv : zv.cells.size = z := by rfl) (hb0 : bz ≠ 0 := by decide) (hb : ∀ b j, B.rd b el j = false ∧ B.sh el j = false := by intro _ j; exact ⟨rfl, rfl⟩) (hw : wantB ops n e gd = true := by rfl) : Nw R d As fn kd n e ds ops i rest k cs :=
 At.fo hf (C.ap ho rf.len rf.one (fun H s' => hsrc H (s'.perm hf.perm.symm)) (fun s' _ => h s') hsz hx hy hzv hb0 hb hw)
theorem At.mem_src {B : Bad} {H : Array Obj} {b2 : Nat} {ty2 : TypeId} {c2 : Array Value} {nn : Nat} (hh : Has b2 (.cells c2 ty2 (0, 0)) As) (st : Sat As (hp H)) (hs : ∀ j, B.sh ty2 j = false) {xs : List Value} (hc : c2 = xs.toArray) (hn : nn * z = xs.length) : SrcOk B H z nn (.slice (some ⟨b2, 0, none⟩) nn nn) xs := by
 subst hc
 exact .inr ⟨b2, 0, nn, _, _, rfl, hh.get st, by simp [hn], by rw [hn, Nat.zero_add]; simp, hs⟩
theorem Closed.ap1 (C : Closed P main B R) {el3 bz b2 : Nat} {ty2 : TypeId} {c2 : Array Value} {zv : Value} [rf : RowF f z] [cE : El P tt el] [cE3 : El P t3 el3] [Cz P el z] [cB : Bz P el bz] [Zv P el zv] (a : α)
  (ho : nthO ops i = some ⟨some t, .call ⟨.builtin .append, #[x, y], #[tt, t3]⟩, ty, pos, af, gd⟩) (h : ∀ s' : SliceV, Nx R d (slP f z el s' (l ++ [a]) :: L) fn kd n e ds ops rest k cs t s'.v)
  (hx : ev n e x = s.v := by rfl) (hy : ev n e y = .slice (some ⟨b2, 0, none⟩) 1 1 := by rfl) (hf : Fo (slP f z el s l) As L := by repeat (first | with_reducible exact Fo.head | with_reducible apply Fo.tail)) (hh : Has b2 (.cells c2 ty2 (0, 0)) As := by repeat (first | with_reducible exact Has.head | with_reducible apply Has.tail)) (hc : c2 = (f a).toArray := by rfl)
  (hsz : (l.length + 1) * bz ≤ 140737488355328 := by omega) (hs : ∀ j, B.sh ty2 j = false := by intro j; rfl) (hzv : zv.cells.size = z := by rfl) (hb0 : bz ≠ 0 := by decide) (hb : ∀ b j, B.rd b el j = false ∧ B.sh el j = false := by intro _ j; exact ⟨rfl, rfl⟩) (hw : wantB ops n e gd = true := by rfl) : Nw R d As fn kd n e ds ops i rest k cs :=
 C.apR (el3 := el3) [a] ho h hx hy hf (fun H st => At.mem_src hh st hs (xs := flat f [a]) (by rw [hc]; simp [flat]) (by simp [flat, rf.len])) hsz hzv hb0 hb hw
theorem slP_know {α : Type} {f : α → List Value} {z : Nat} {el : TypeId} {s : SliceV} {l : List α} (hl : 0 < l.length) (h : HL) (x : slP f z el s l h) : s.a = some ⟨s.b, 0, none⟩ ∧ s.len = l.length ∧ l.length ≤ s.cap := by
 rcases x with ⟨_, rfl⟩ | ⟨b, pad, e, _, h2, _⟩
 ·simp at hl
 ·have hb : s.b = b := by rw [e]; rfl
  exact ⟨by rw [hb]; exact congrArg SliceV.a e, congrArg SliceV.len e, h2⟩
theorem At.nilS (f : α → List Value) (z : Nat) (el : TypeId) {g : Goroutine} (h : At R d (slP f z el Go.Sl.nilS [] :: As) g) : At R d As g := fun H s => by
 have e : less (hp H) (fun _ => none) = hp H := by funext b; simp [less]
 refine h H ⟨fun _ => none, .inl ⟨rfl, rfl⟩, fun _ _ x => (by cases x), ?_⟩
 rw [e]; exact s
theorem At.nilA {g : Goroutine} (h : At R d (all [] :: As) g) : At R d As g := fun H s => h H (Sat.unflat (l := []) s)
theorem At.frz {I : HL} {g : Goroutine} {L2 : List HP} (hf : Fo (slP f z el s l) As L) (hi : Fo (imm I) L L2) (h : ∀ I', Sub I I' → imSl I' f el s l → At R d (imm I' :: L2) g) : At R d As g := by
 refine At.fo hf fun H st => ?_
 obtain ⟨hh, x, hsub, hr⟩ := st
 rcases x with ⟨rfl, rfl⟩ | ⟨b, pad, e, _, _, hpt⟩
 ·exact h I (Sub.refl I) (.inl ⟨rfl, rfl⟩) H ((hr.mono less_sub).perm hi.perm)
 ·have st' : Sat (pts b (.cells (rowA f l pad) el (0, 0)) :: imm I :: L2) (hp H) := ⟨hh, hpt, hsub, hr.perm hi.perm⟩
  have hb : s.b = b := by rw [e]; rfl
  refine At.freeze (fun I' h1 h2 => h I' h1 (.inr ⟨pad, by rw [hb]; exact e, by rw [hb]; exact h2⟩)) H st'
theorem At.own {g : Goroutine} (s : SliceV) (pad : List Value) (hs : s = ⟨some ⟨b, 0, none⟩, l.length, s.cap⟩) (hl : l.length * z + pad.length = s.cap * z) (hle : l.length ≤ s.cap) (hf : Fo (pts b (.cells (rowA f l pad) el (0, 0))) As L) (h : At R d (slP f z el s l :: L) g) : At R d As g :=
 At.turn hf (fun _ hh => .inr ⟨b, pad, hs, hl, hle, hh⟩) h
theorem Closed.stR (C : Closed P main B R) [rf : RowF f z] [Cz P tt 1] (a : α) (ho : nthO ops i = some ⟨none, .store tt x y, ty, pos, af, gd⟩) (h : At R d (slP f z el s (l.set j a) :: L) (gr fn kd n e ds (.inRegion ops rest :: k) cs))
  (hx : ev n e x = .pointer (some ⟨s.b, j * z + o, none⟩) := by rfl) (hy : ev n e y = v := by conv => { lhs; whnf }) (hf : Fo (slP f z el s l) As L := by repeat (first | with_reducible exact Fo.head | with_reducible apply Fo.tail)) (hj : j < l.length := by omega) (ha : f a = (f l[j]).set o v := by rfl) (hz : o < z := by decide) (hb : ∀ b j, B.rd b el j = false ∧ B.sh el j = false := by intro _ j; exact ⟨rfl, rfl⟩) (hv : oneCell v = true := by rfl) (hw : wantB ops n e gd = true := by rfl) : At R d As (gr fn kd n e ds (.inRegion ops (i :: rest) :: k) cs) := by
 refine At.fo hf fun H st => ?_
 obtain ⟨hh, xx, hsub, hr⟩ := st
 rcases xx with ⟨rfl, rfl⟩ | ⟨b, pad, e1, h1, h2, hpt⟩
 ·simp at hj
 ·have hsb : s.b = b := by rw [e1]; rfl
  rw [hsb] at hx
  have st' : Sat (pts b (.cells (rowA f l pad) el (0, 0)) :: L) (hp H) := ⟨hh, hpt, hsub, hr⟩
  refine C.st ho ?_ hx hy hv .head rfl ?_ (hb _ _).1 (hb 0 _).2 hw H st'
  ·rw [rowA_set1 rf.len hj hz rfl a ha]
   refine fun H st => h H (st.imp fun hl hhl => .inr ⟨b, pad, ?_, ?_, ?_, hhl⟩)
   ·rw [List.length_set]; exact e1
   ·rw [List.length_set]; exact h1
   ·rw [List.length_set]; exact h2
  ·rw [rowA_size rf.len]
   have := Nat.mul_le_mul_right z (show j + 1 ≤ l.length by omega)
   rw [Nat.add_mul] at this; omega
theorem Closed.stR0 (C : Closed P main B R) [rf : RowF f z] [Cz P tt 1] (a : α) (ho : nthO ops i = some ⟨none, .store tt x y, ty, pos, af, gd⟩) (h : At R d (slP f z el s (l.set j a) :: L) (gr fn kd n e ds (.inRegion ops rest :: k) cs))
  (hx : ev n e x = .pointer (some ⟨s.b, j * z, none⟩) := by rfl) (hy : ev n e y = v := by conv => { lhs; whnf }) (hf : Fo (slP f z el s l) As L := by repeat (first | with_reducible exact Fo.head | with_reducible apply Fo.tail)) (hj : j < l.length := by omega) (ha : f a = (f l[j]).set 0 v := by rfl) (hz : 0 < z := by decide) (hb : ∀ b j, B.rd b el j = false ∧ B.sh el j = false := by intro _ j; exact ⟨rfl, rfl⟩) (hv : oneCell v = true := by rfl) (hw : wantB ops n e gd = true := by rfl) : At R d As (gr fn kd n e ds (.inRegion ops (i :: rest) :: k) cs) :=
 C.stR (o := 0) a ho h hx hy hf hj ha hz hb hv hw
theorem Closed.stRS (C : Closed P main B R) [rf : RowF f z] [Cz P tt z] {xs : Array Value} (a : α) (ho : nthO ops i = some ⟨none, .store tt x y, ty, pos, af, gd⟩) (h : At R d (slP f z el s (l.set j a) :: L) (gr fn kd n e ds (.inRegion ops rest :: k) cs))
  (hx : ev n e x = .pointer (some ⟨s.b, j * z, none⟩) := by rfl) (hy : ev n e y = .agg xs := by rfl) (hf : Fo (slP f z el s l) As L := by repeat (first | with_reducible exact Fo.head | with_reducible apply Fo.tail)) (hj : j < l.length := by omega) (ha : (f a).toArray = xs := by rfl) (hb : ∀ b j, B.rd b el j = false ∧ B.sh el j = false := by intro _ j; exact ⟨rfl, rfl⟩) (hw : wantB ops n e gd = true := by rfl) : At R d As (gr fn kd n e ds (.inRegion ops (i :: rest) :: k) cs) := by
 refine At.fo hf fun H st => ?_
 obtain ⟨hh, xx, hsub, hr⟩ := st
 rcases xx with ⟨rfl, rfl⟩ | ⟨b, pad, e1, h1, h2, hpt⟩
 ·simp at hj
 ·have hsb : s.b = b := by rw [e1]; rfl
  rw [hsb] at hx
  subst ha
  have st' : Sat (pts b (.cells (rowA f l pad) el (0, 0)) :: L) (hp H) := ⟨hh, hpt, hsub, hr⟩
  refine C.stS ho ?_ hx hy (fun v hv => rf.one a v (by simpa using hv)) (by simp [rf.len]) .head rfl ?_ (fun j => (hb _ j).1) (fun j => (hb 0 j).2) hw H st'
  ·rw [rowA_set rf.len hj rfl a]
   refine fun H st => h H (st.imp fun hl hhl => .inr ⟨b, pad, ?_, ?_, ?_, hhl⟩)
   ·rw [List.length_set]; exact e1
   ·rw [List.length_set]; exact h1
   ·rw [List.length_set]; exact h2
  ·rw [rowA_size rf.len]
   have := Nat.mul_le_mul_right z (show j + 1 ≤ l.length by omega)
   rw [Nat.add_mul] at this; omega
end
end
end Go.Sl
end
section
set_option linter.unusedVariables false
namespace Go.Sl
section
variable {R : Nat → Goroutine → Array Obj → Prop} {d : Nat} {As F L : List HP} {g : Goroutine}
theorem all_perm {l m As : List HP} (p : l.Perm m) {h : HL} (s : Sat (all l :: As) h) : Sat (all m :: As) h := (s.flat.perm (p.append_right As)).unflat
theorem perm_out {X : Type} {l : List X} {i : Nat} (hi : i < l.length) : l.Perm (l[i] :: l.eraseIdx i) := by
 rw [List.eraseIdx_eq_take_drop_succ]
 conv => lhs; rw [← List.take_append_drop i l, List.drop_eq_getElem_cons hi]
 exact List.perm_middle
theorem perm_in {X : Type} {l : List X} {i : Nat} (hi : i < l.length) (u : X) : (l.set i u).Perm (u :: l.eraseIdx i) := by
 rw [List.eraseIdx_eq_take_drop_succ, List.set_eq_take_append_cons_drop, if_pos hi]
 exact List.perm_middle
variable {α : Type} {f : α → HP} {l : List α} {i : Nat}
theorem all_out (hi : i < l.length) (hf : Fo (all (l.map f)) As L) (h : At R d (f l[i] :: all ((l.eraseIdx i).map f) :: L) g) : At R d As g :=
 At.fo hf fun H s => h H (Sat.under (fun _ s => Sat.unflat s) (Sat.flat (l := f l[i] :: (l.eraseIdx i).map f) (all_perm ((perm_out hi).map f) s)))
theorem all_in (hi : i < l.length) (u : α) (hr : ReF [f u, all ((l.eraseIdx i).map f)] As L) (h : At R d (all ((l.set i u).map f) :: L) g) : At R d As g :=
 At.perm hr.perm fun H s => h H (all_perm ((perm_in hi u).symm.map f) (Sat.unflat (l := f u :: (l.eraseIdx i).map f) (Sat.under (fun _ s => Sat.flat s) s)))
theorem all_add (u : α) (hr : ReF [f u, all (l.map f)] As L) (h : At R d (all ((l ++ [u]).map f) :: L) g) : At R d As g :=
 At.perm hr.perm fun H s => h H (all_perm (by have := (List.perm_append_singleton u l).symm.map f; exact this) (Sat.unflat (l := f u :: l.map f) (Sat.under (fun _ s => Sat.flat s) s)))
end
end Go.Sl
end
section
namespace Go.Sl
structure OpR where
 w : Bool
 k : Int
 v : Int
structure MsgR where
 kind : Int
 frm : Int
 to : Int
 tx : Int
 yes : Bool
 ops : List OpR
 reads : List Int
structure RecR where
 kind : Int
 tx : Int
 yes : Bool
 home : Int
 ops : List OpR
 reads : List Int
structure VoteR where
 frm : Int
 reads : List Int
structure UndR where
 tx : Int
 ops : List OpR
 votes : List VoteR
 dec : Bool
 yes : Bool
 acks : List Int
structure TimR where
 tm : Int
 again : Bool
 tx : Int
structure HeldR where
 key : Int
 tx : Int
structure ShR where
 me : Int
 n : Int
 up : Bool
 log : List RecR
 good : Int
 vals : List Int
 locks : List HeldR
 under : List UndR
 timers : List TimR
 waits : List MsgR
 clock : Int
 out : List MsgR
def atR (key n : Int) : Int := (key - 97).tmod n
def partR (ops : List OpR) (s n : Int) : List OpR := ops.filter fun o => atR o.k n == s
def takesR (ops : List OpR) (s n : Int) : Bool := !(partR ops s n).isEmpty
def isRec (kind tx : Int) (r : RecR) : Bool := r.kind == kind && r.tx == tx
def findD (log : List RecR) (kind tx : Int) : Nat → Option Nat
 | 0 => none
 | i + 1 => if (log[i]?).any (isRec kind tx) then some i else findD log kind tx i
def findR (log : List RecR) (kind tx : Int) : Option Nat := findD log kind tx log.length
def readyR (log : List RecR) (tx : Int) : Option Nat := if (findR log 3 tx).isSome then none else findR log 1 tx
def underR (l : List UndR) (tx : Int) : Option Nat := l.findIdx? fun u => u.tx == tx
def sendR (s : ShR) (m : MsgR) : ShR := { s with out := s.out ++ [{ m with frm := s.me }] }
def waitR (s : ShR) (m : MsgR) : ShR := { s with waits := s.waits ++ [{ m with frm := s.me }] }
def msg0 : MsgR := ⟨0, 0, 0, 0, false, [], []⟩
def rec0 : RecR := ⟨0, 0, false, 0, [], []⟩
def upto (n : Int) : List Int := (List.range n.toNat).map Int.ofNat
def eachR (s : ShR) (ops : List OpR) (f : ShR → Int → List OpR → ShR) : ShR := (upto s.n).foldl (fun z k => if (partR ops k s.n).isEmpty then z else f z k (partR ops k s.n)) s
def beginR (s : ShR) (m : MsgR) : ShR :=
 match findR s.log 2 m.tx with
 | some d => if (d : Int) < s.good then sendR s { msg0 with kind := 7, to := -1, tx := m.tx, yes := (s.log[d]?.getD rec0).yes, reads := (s.log[d]?.getD rec0).reads } else s
 | none =>
  if (underR s.under m.tx).isSome then s else
  let s1 := eachR { s with under := s.under ++ [⟨m.tx, m.ops, [], false, false, []⟩] } m.ops fun z k p => sendR z { msg0 with kind := 2, to := k, tx := m.tx, ops := p }
  { s1 with timers := s1.timers ++ [⟨s1.clock + 4, true, m.tx⟩] }
def votedR (u : UndR) (k : Int) : Option VoteR := u.votes.find? fun v => v.frm == k
def readsGo (u : UndR) (n : Int) : List OpR → (Int → Nat) → List Int
 | [], _ => []
 | o :: l, used =>
  if o.w then readsGo u n l used else
  let k := atR o.k n
  (((votedR u k).map (·.reads)).getD [])[used k]?.getD 0 :: readsGo u n l (fun j => if j = k then used k + 1 else used j)
def readsR (u : UndR) (n : Int) : List Int := readsGo u n u.ops fun _ => 0
def allIn (n : Int) (ops : List OpR) (p : Int → Bool) : Bool := (upto n).all fun k => !takesR ops k n || p k
def voteR (s : ShR) (m : MsgR) : ShR :=
 match underR s.under m.tx with
 | none => s
 | some i =>
  match s.under[i]? with
  | none => s
  | some u =>
   if u.dec then s else
   let u1 := if m.yes && !(votedR u m.frm).isSome then { u with votes := u.votes ++ [⟨m.frm, m.reads⟩] } else u
   if m.yes && !allIn s.n u1.ops (fun k => (votedR u1 k).isSome) then { s with under := s.under.set i u1 } else
   let u2 := { u1 with dec := true, yes := m.yes }
   let rd := if m.yes then readsR u2 s.n else []
   let s1 := { s with under := s.under.set i u2, log := s.log ++ [{ rec0 with kind := 2, tx := m.tx, yes := m.yes, reads := rd }] }
   let s2 := eachR s1 u2.ops fun z k _ => waitR z { msg0 with kind := 4, to := k, tx := m.tx, yes := m.yes }
   waitR s2 { msg0 with kind := 7, to := -1, tx := m.tx, yes := m.yes, reads := rd }
def ackR (s : ShR) (m : MsgR) : ShR :=
 match underR s.under m.tx with
 | none => s
 | some i =>
  match s.under[i]? with
  | none => s
  | some u =>
   if !u.dec then s else
   let u1 := { u with acks := u.acks ++ [m.frm] }
   if allIn s.n u1.ops (fun k => u1.acks.contains k) then { s with under := s.under.eraseIdx i } else { s with under := s.under.set i u1 }
def askR (s : ShR) (m : MsgR) : ShR :=
 match findR s.log 2 m.tx with
 | some d => if (d : Int) < s.good then sendR s { msg0 with kind := 4, to := m.frm, tx := m.tx, yes := (s.log[d]?.getD rec0).yes } else s
 | none =>
  if (underR s.under m.tx).isSome then s else
  waitR { s with log := s.log ++ [{ rec0 with kind := 2, tx := m.tx }] } { msg0 with kind := 4, to := m.frm, tx := m.tx }
def lockedR (l : List HeldR) (key : Int) : Int := ((l.find? fun h => h.key == key).map (·.tx)).getD (-1)
def seenR (vals : List Int) (ops : List OpR) : List Int := (ops.filter fun o => !o.w).map fun o => vals[(o.k - 97).toNat]?.getD 0
def lockR (l : List HeldR) (tx : Int) (ops : List OpR) : List HeldR := l ++ ops.map fun o => ⟨o.k, tx⟩
def freeR (l : List HeldR) (tx : Int) : List HeldR := l.filter fun h => h.tx != tx
def writeR (vals : List Int) (ops : List OpR) : List Int := ops.foldl (fun v o => if o.w then v.set (o.k - 97).toNat o.v else v) vals
def prepareR (s : ShR) (m : MsgR) : ShR :=
 let no := { msg0 with kind := 3, to := m.frm, tx := m.tx }
 let yes := { no with yes := true, reads := seenR s.vals m.ops }
 match readyR s.log m.tx with
 | some r => if (r : Int) < s.good then sendR s { yes with reads := seenR s.vals (s.log[r]?.getD rec0).ops } else s
 | none =>
  match findR s.log 3 m.tx with
  | some d => if (s.log[d]?.getD rec0).yes then s else sendR s no
  | none =>
   if m.ops.any (fun o => decide (lockedR s.locks o.k ≥ 0)) then sendR s no else
   let s1 := waitR { s with locks := lockR s.locks m.tx m.ops, log := s.log ++ [{ rec0 with kind := 1, tx := m.tx, home := m.frm, ops := m.ops }] } yes
   { s1 with timers := s1.timers ++ [⟨s1.clock + 3, false, m.tx⟩] }
def decideR (s : ShR) (m : MsgR) : ShR :=
 match readyR s.log m.tx with
 | some r =>
  let s1 := if m.yes then { s with vals := writeR s.vals (s.log[r]?.getD rec0).ops } else s
  waitR { s1 with locks := freeR s.locks m.tx, log := s.log ++ [{ rec0 with kind := 3, tx := m.tx, yes := m.yes }] } { msg0 with kind := 5, to := m.frm, tx := m.tx }
 | none =>
  match findR s.log 3 m.tx with
  | some d => if (d : Int) < s.good then sendR s { msg0 with kind := 5, to := m.frm, tx := m.tx } else s
  | none => if m.yes then s else waitR { s with log := s.log ++ [{ rec0 with kind := 3, tx := m.tx, yes := m.yes }] } { msg0 with kind := 5, to := m.frm, tx := m.tx }
def takeR (s : ShR) (m : MsgR) : ShR :=
 if m.kind = 1 then beginR s m else if m.kind = 2 then prepareR s m else if m.kind = 3 then voteR s m else if m.kind = 4 then decideR s m else if m.kind = 5 then ackR s m else if m.kind = 6 then askR s m else s
def syncR (s : ShR) : ShR := { s with good := s.log.length, out := s.out ++ s.waits, waits := [] }
def dueR (clock : Int) : List TimR → Nat → Option (Nat × TimR) → Option (Nat × TimR)
 | [], _, k => k
 | t :: l, i, k => dueR clock l (i + 1) (if decide (t.tm ≤ clock) && (match k with | none => true | some (_, u) => decide (t.tm < u.tm)) then some (i, t) else k)
def offR (s : ShR) (t : TimR) : ShR :=
 if !t.again then
  match readyR s.log t.tx with
  | some r =>
   let s1 := sendR s { msg0 with kind := 6, to := (s.log[r]?.getD rec0).home, tx := t.tx }
   { s1 with timers := s1.timers ++ [⟨s1.clock + 3, false, t.tx⟩] }
  | none => s
 else
  match underR s.under t.tx with
  | none => s
  | some i =>
   match s.under[i]? with
   | none => s
   | some u =>
    let good := match findR s.log 2 t.tx with | some d => decide ((d : Int) < s.good) | none => decide (-1 < s.good)
    let s1 := eachR s u.ops fun z k p =>
     if !u.dec && !(votedR u k).isSome then sendR z { msg0 with kind := 2, to := k, tx := t.tx, ops := p }
     else if u.dec && good && !u.acks.contains k then sendR z { msg0 with kind := 4, to := k, tx := t.tx, yes := u.yes }
     else z
    { s1 with timers := s1.timers ++ [⟨s1.clock + 4, true, t.tx⟩] }
def tickGo : Nat → ShR → ShR
 | 0, s => s
 | f + 1, s =>
  match dueR s.clock s.timers 0 none with
  | none => s
  | some (k, t) => tickGo f (offR { s with timers := s.timers.eraseIdx k } t)
def dueN (s : ShR) : Nat := (s.timers.filter fun t => t.tm ≤ s.clock).length
def tickR (s : ShR) : ShR := let s1 := { s with clock := s.clock + 1 }; tickGo (dueN s1 + 1) s1
def zeros26 : List Int := List.replicate 26 0
def forgetR (s : ShR) : ShR := { s with vals := zeros26, locks := [], under := [], timers := [], waits := [], clock := 0 }
def crashR (s : ShR) (keep : Int) : ShR :=
 let k := if keep < 0 then 0 else keep
 let n := (s.log.length : Int) - s.good
 let n := if k < n then k else n
 forgetR { s with up := false, good := s.good + n, log := s.log.take (s.good + n).toNat }
def prepD (log : List RecR) (tx : Int) (i : Nat) : Option Nat := findD log 1 tx i
def replayR (log : List RecR) : Nat → ShR → ShR
 | 0, s => s
 | i + 1, s =>
  let s := replayR log i s
  match log[i]? with
  | none => s
  | some r =>
   if r.kind = 1 then { s with locks := lockR s.locks r.tx r.ops }
   else if r.kind = 3 then
    let s1 := match prepD log r.tx i with | some p => if r.yes then { s with vals := writeR s.vals (log[p]?.getD rec0).ops } else s | none => s
    { s1 with locks := freeR s1.locks r.tx }
   else s
def askTimers (log : List RecR) : List TimR := ((upto 60).filter fun tx => (readyR log tx).isSome).map fun tx => ⟨3, false, tx⟩
def restartR (s : ShR) : ShR :=
 let s1 := replayR s.log s.log.length (forgetR { s with up := true })
 { s1 with timers := s1.timers ++ askTimers s.log }
structure TxR where
 ops : List OpR
 state : Int
 reads : List Int
structure WR where
 sh : List ShR
 bag : List MsgR
 txs : List TxR
 stopped : Bool
def newSh (k n : Int) : ShR := forgetR ⟨k, n, true, [], 0, [], [], [], [], [], 0, []⟩
def newW (n : Int) : WR := ⟨(upto n).map fun k => newSh k n, [], [], false⟩
def okOp (o : OpR) : Prop := 97 ≤ o.k ∧ o.k ≤ 122 ∧ (o.w = true ∨ o.v = 0)
instance (o : OpR) : Decidable (okOp o) := by unfold okOp; exact inferInstance
def rightP (l : List OpR) : Prop := (∀ o ∈ l, okOp o) ∧ (l.map (·.k)).Nodup ∧ 1 ≤ l.length ∧ l.length ≤ 6
instance (l : List OpR) : Decidable (rightP l) := by unfold rightP; exact inferInstance
def homeR (ops : List OpR) (n : Int) : Int := match ops with | o :: _ => atR o.k n | [] => 0
def beginW (w : WR) (tx : Nat) : WR :=
 match w.txs[tx]? with
 | none => w
 | some t => { w with bag := w.bag ++ [{ msg0 with kind := 1, frm := -1, to := homeR t.ops w.sh.length, tx := tx, ops := t.ops }] }
def submitW (w : WR) (ops : List OpR) : WR × Int × Int :=
 if w.stopped then (w, 0, 9) else if ¬ rightP ops then (w, 0, 2) else if w.txs.length = 60 ∨ 400 ≤ w.bag.length then (w, 0, 3)
 else (beginW { w with txs := w.txs ++ [⟨ops, 1, []⟩] } w.txs.length, w.txs.length, 0)
def sentW (w : WR) (a : Nat) (s : ShR) : WR := { w with sh := w.sh.set a { s with out := [] }, bag := w.bag ++ s.out }
def replyW (w : WR) (m : MsgR) : WR :=
 match w.txs[m.tx.toNat]? with
 | none => w
 | some t => if t.state = 1 then { w with txs := w.txs.set m.tx.toNat (if m.yes then { t with state := 2, reads := m.reads } else { t with state := 3 }) } else w
def messageW (w : WR) (k i : Int) : WR × Int :=
 if i < 0 ∨ (w.bag.length : Int) ≤ i then (w, 5) else
 match w.bag[i.toNat]? with
 | none => (w, 5)
 | some m =>
  if k = 4 then (if 400 ≤ w.bag.length then (w, 3) else ({ w with bag := w.bag ++ [m] }, 0)) else
  let w1 := { w with bag := w.bag.eraseIdx i.toNat }
  if k = 3 then (w1, 0) else
  if m.to = -1 then (replyW w1 m, 0) else
  match w1.sh[m.to.toNat]? with
  | none => (w1, 0)
  | some s => if s.up then (sentW w1 m.to.toNat (takeR s m), 0) else (w1, 0)
def doW (w : WR) (k a b : Int) : WR × Int :=
 if k < 1 ∨ 8 < k then (w, 0) else if w.stopped then (w, 9)
 else if k = 1 then (if a < 0 ∨ (w.txs.length : Int) ≤ a then (w, 4) else if 400 ≤ w.bag.length then (w, 3) else (beginW w a.toNat, 0))
 else if k ≤ 4 then messageW w k a
 else if a < 0 ∨ (w.sh.length : Int) ≤ a then (w, 6)
 else match w.sh[a.toNat]? with
  | none => (w, 6)
  | some s =>
   if k = 8 then (if s.up then (w, 8) else ({ w with sh := w.sh.set a.toNat (restartR s) }, 0))
   else if !s.up then (w, 7)
   else if k = 5 then (sentW w a.toNat (syncR s), 0)
   else if k = 6 then (if 150 < w.bag.length then (w, 3) else (sentW w a.toNat (tickR s), 0))
   else (sentW w a.toNat (crashR s b), 0)
end Go.Sl
end
section
namespace Go.Sl
inductive EntP where
 | prep (tx home : Int) (ops : List OpR)
 | dec (tx : Int) (yes : Bool) (reads : List Int)
 | don (tx : Int) (yes : Bool)
def EntP.recd : EntP → RecR
 | .prep tx home ops => { rec0 with kind := 1, tx := tx, home := home, ops := ops }
 | .dec tx yes reads => { rec0 with kind := 2, tx := tx, yes := yes, reads := reads }
 | .don tx yes => { rec0 with kind := 3, tx := tx, yes := yes }
structure PlaceP where
 pl : Int
 yes : Bool
structure PendP where
 pl : Int
 home : Int
 ops : List OpR
structure UndP where
 ops : List OpR
 votes : List (Int × List Int)
 acks : List (Int × Int)
 dec : Bool
 yes : Bool
structure ShP where
 me : Int
 n : Int
 up : Bool
 log : List EntP
 good : Int
 values : List (Int × Int)
 locks : List (Int × Int)
 pend : List (Int × PendP)
 done : List (Int × PlaceP)
 decd : List (Int × PlaceP)
 und : List (Int × UndP)
 timers : List TimR
 clock : Int
 waits : List MsgR
 out : List MsgR
def partsP (ops : List OpR) (n : Int) : List (Int × List OpR) := ops.foldl (fun m o => setM m (atR o.k n) ((getM m (atR o.k n)).getD [] ++ [o])) []
def sendP (s : ShP) (m : MsgR) : ShP := { s with out := s.out ++ [{ m with frm := s.me }] }
def waitP (s : ShP) (m : MsgR) : ShP := { s with waits := s.waits ++ [{ m with frm := s.me }] }
def alarmP (s : ShP) (tx ticks : Int) (again : Bool) : ShP := { s with timers := s.timers ++ [⟨s.clock + ticks, again, tx⟩] }
def eachP (s : ShP) (ops : List OpR) (f : ShP → Int → List OpR → ShP) : ShP :=
 (upto s.n).foldl (fun z k => if ((getM (partsP ops s.n) k).getD []).isEmpty then z else f z k ((getM (partsP ops s.n) k).getD [])) s
def beginP (s : ShP) (m : MsgR) : ShP :=
 match getM s.decd m.tx with
 | some d => if d.pl < s.good then sendP s { msg0 with kind := 7, to := -1, tx := m.tx, yes := d.yes, reads := ((s.log[d.pl.toNat]?.map EntP.recd).getD rec0).reads } else s
 | none =>
  if (getM s.und m.tx).isSome then s else
  alarmP (eachP { s with und := setM s.und m.tx ⟨m.ops, [], [], false, false⟩ } m.ops fun z k p => sendP z { msg0 with kind := 2, to := k, tx := m.tx, ops := p }) m.tx 4 true
def readsPGo (u : UndP) (n : Int) : List OpR → List (Int × Int) → Option (List Int)
 | [], _ => some []
 | o :: l, next =>
  if o.w then readsPGo u n l next else
  let k := atR o.k n
  let i := (getM next k).getD 0
  match ((getM u.votes k).getD [])[i.toNat]? with
  | none => none
  | some x => (readsPGo u n l (setM next k (i + 1))).map (x :: ·)
def readsP (u : UndP) (n : Int) : Option (List Int) := readsPGo u n u.ops []
def voteP (s : ShP) (m : MsgR) : ShP :=
 match getM s.und m.tx with
 | none => s
 | some u =>
  if u.dec then s else
  let u1 := if m.yes && !(getM u.votes m.frm).isSome then { u with votes := setM u.votes m.frm m.reads } else u
  if m.yes && decide (u1.votes.length < (partsP u1.ops s.n).length) then { s with und := setM s.und m.tx u1 } else
  let rd := if m.yes then (readsP u1 s.n).getD [] else []
  let s1 := { s with und := setM s.und m.tx { u1 with dec := true, yes := m.yes }, log := s.log ++ [.dec m.tx m.yes rd], decd := setM s.decd m.tx ⟨s.log.length, m.yes⟩ }
  let s2 := eachP s1 u1.ops fun z k _ => waitP z { msg0 with kind := 4, to := k, tx := m.tx, yes := m.yes }
  waitP s2 { msg0 with kind := 7, to := -1, tx := m.tx, yes := m.yes, reads := rd }
def ackP (s : ShP) (m : MsgR) : ShP :=
 match getM s.und m.tx with
 | none => s
 | some u =>
  if !u.dec then s else
  let u1 := { u with acks := setM u.acks m.frm ((getM u.acks m.frm).getD 0 + 1) }
  if u1.acks.length = (partsP u1.ops s.n).length then { s with und := delM (setM s.und m.tx u1) m.tx } else { s with und := setM s.und m.tx u1 }
def askP (s : ShP) (m : MsgR) : ShP :=
 match getM s.decd m.tx with
 | some d => if d.pl < s.good then sendP s { msg0 with kind := 4, to := m.frm, tx := m.tx, yes := d.yes } else s
 | none =>
  if (getM s.und m.tx).isSome then s else
  waitP { s with log := s.log ++ [.dec m.tx false []], decd := setM s.decd m.tx ⟨s.log.length, false⟩ } { msg0 with kind := 4, to := m.frm, tx := m.tx }
def seenP (values : List (Int × Int)) (ops : List OpR) : List Int := (ops.filter fun o => !o.w).map fun o => (getM values o.k).getD 0
def holdP (s : ShP) (tx home : Int) (ops : List OpR) (pl : Int) : ShP := { s with locks := ops.foldl (fun l o => setM l o.k tx) s.locks, pend := setM s.pend tx ⟨pl, home, ops⟩ }
def finishP (s : ShP) (tx : Int) (yes : Bool) (pl : Int) : ShP :=
 let ops := ((getM s.pend tx).map (·.ops)).getD []
 { s with values := ops.foldl (fun v o => if yes && o.w then setM v o.k o.v else v) s.values, locks := ops.foldl (fun l o => delM l o.k) s.locks, pend := delM s.pend tx, done := setM s.done tx ⟨pl, yes⟩ }
def prepareP (s : ShP) (m : MsgR) : ShP :=
 let answer := { msg0 with kind := 3, to := m.frm, tx := m.tx }
 match getM s.pend m.tx with
 | some p => if p.pl < s.good then sendP s { answer with yes := true, reads := seenP s.values p.ops } else s
 | none =>
  match getM s.done m.tx with
  | some d => if d.yes then s else sendP s answer
  | none =>
   if m.ops.any (fun o => (getM s.locks o.k).isSome) then sendP s answer else
   let s1 := holdP { s with log := s.log ++ [.prep m.tx m.frm m.ops] } m.tx m.frm m.ops s.log.length
   alarmP (waitP s1 { answer with yes := true, reads := seenP s1.values m.ops }) m.tx 3 false
def decideP (s : ShP) (m : MsgR) : ShP :=
 let fin := waitP (finishP { s with log := s.log ++ [.don m.tx m.yes] } m.tx m.yes s.log.length) { msg0 with kind := 5, to := m.frm, tx := m.tx }
 match getM s.pend m.tx with
 | some _ => fin
 | none =>
  match getM s.done m.tx with
  | some d => if d.pl < s.good then sendP s { msg0 with kind := 5, to := m.frm, tx := m.tx } else s
  | none => if m.yes then s else fin
def takeP (s : ShP) (m : MsgR) : ShP :=
 if m.kind = 1 then beginP s m else if m.kind = 2 then prepareP s m else if m.kind = 3 then voteP s m else if m.kind = 4 then decideP s m else if m.kind = 5 then ackP s m else if m.kind = 6 then askP s m else s
def syncP (s : ShP) : ShP := { s with good := s.log.length, out := s.out ++ s.waits, waits := [] }
def againP (s : ShP) (tx : Int) : ShP :=
 match getM s.und tx with
 | none => s
 | some u =>
  alarmP (eachP s u.ops fun z k p =>
   if !u.dec && !(getM u.votes k).isSome then sendP z { msg0 with kind := 2, to := k, tx := tx, ops := p }
   else if u.dec && decide (((getM s.decd tx).map (·.pl)).getD 0 < s.good) && decide ((getM u.acks k).getD 0 = 0) then sendP z { msg0 with kind := 4, to := k, tx := tx, yes := u.yes }
   else z) tx 4 true
def offP (s : ShP) (t : TimR) : ShP :=
 if t.again then againP s t.tx else
 match getM s.pend t.tx with
 | some p => alarmP (sendP s { msg0 with kind := 6, to := p.home, tx := t.tx }) t.tx 3 false
 | none => s
def tickPGo : Nat → ShP → ShP
 | 0, s => s
 | f + 1, s =>
  match dueR s.clock s.timers 0 none with
  | none => s
  | some (k, t) => tickPGo f (offP { s with timers := s.timers.eraseIdx k } t)
def dueNP (s : ShP) : Nat := (s.timers.filter fun t => t.tm ≤ s.clock).length
def tickP (s : ShP) : ShP := let s1 := { s with clock := s.clock + 1 }; tickPGo (dueNP s1 + 1) s1
def freshP (s : ShP) : ShP := { s with values := [], locks := [], pend := [], done := [], decd := [], und := [], timers := [], clock := 0, waits := [] }
def crashP (s : ShP) (keep : Int) : ShP :=
 let good := s.good + min (max keep 0) ((s.log.length : Int) - s.good)
 freshP { s with up := false, good := good, log := s.log.take good.toNat }
def replayP1 (s : ShP) (i : Nat) : EntP → ShP
 | .prep tx home ops => holdP s tx home ops i
 | .dec tx yes _ => { s with decd := setM s.decd tx ⟨i, yes⟩ }
 | .don tx yes => finishP s tx yes i
def replayP (log : List EntP) : Nat → ShP → ShP
 | 0, s => s
 | i + 1, s => match log[i]? with | none => replayP log i s | some e => replayP1 (replayP log i s) i e
def sortedTx (l : List Int) : List Int := l.mergeSort (fun a b => decide (a ≤ b))
def restartP (s : ShP) : ShP :=
 let s1 := replayP s.log s.log.length (freshP { s with up := true })
 (sortedTx (s1.pend.map (·.1))).foldl (fun z tx => alarmP z tx 3 false) s1
def newShP (k n : Int) : ShP := freshP ⟨k, n, true, [], 0, [], [], [], [], [], [], [], 0, [], []⟩
end Go.Sl
end
section
set_option linter.unusedVariables false
namespace Go.Sl
open Go.Proofs
def badT : Bad := ⟨fun _ t _ => t == 92 || t == 114 || t == 23 || t == 120, fun t _ => t == 92 || t == 114 || t == 23 || t == 120, 0⟩
def i64L (n : Int) : List Value := [.int .i64 n]
instance : RowF i64L 1 := ⟨fun _ => rfl, fun a v h => by simp [i64L] at h; subst h; rfl⟩
def opRC (o : OpR) : List Value := [.bool o.w, .int .i64 o.k, .int .i64 o.v]
instance : RowF opRC 3 := ⟨fun _ => rfl, fun a v h => by simp [opRC] at h; rcases h with h | h | h <;> subst h <;> rfl⟩
def OpsB (l : List OpR) : Prop := (∀ o ∈ l, 97 ≤ o.k ∧ o.k ≤ 122) ∧ l.length < 2 ^ 20
structure MsgV extends MsgR where
 so : SliceV
 sr : SliceV
def msgC (m : MsgV) : List Value := [.int .i64 m.kind, .int .i64 m.frm, .int .i64 m.to, .int .i64 m.tx, .bool m.yes, m.so.v, m.sr.v]
instance : RowF msgC 7 := ⟨fun _ => rfl, fun a v h => by simp [msgC] at h; rcases h with h | h | h | h | h | h | h <;> subst h <;> rfl⟩
structure RecV extends RecR where
 so : SliceV
 sr : SliceV
def recC (m : RecV) : List Value := [.int .i64 m.kind, .int .i64 m.tx, .bool m.yes, .int .i64 m.home, m.so.v, m.sr.v]
instance : RowF recC 6 := ⟨fun _ => rfl, fun a v h => by simp [recC] at h; rcases h with h | h | h | h | h | h <;> subst h <;> rfl⟩
structure VotV extends VoteR where
 sr : SliceV
def votC (m : VotV) : List Value := [.int .i64 m.frm, m.sr.v]
structure UndV where
 tx : Int
 ops : List OpR
 so : SliceV
 votes : List VotV
 sv : SliceV
 dec : Bool
 yes : Bool
 acks : List Int
 sa : SliceV
def UndV.abs (u : UndV) : UndR := ⟨u.tx, u.ops, u.votes.map (·.toVoteR), u.dec, u.yes, u.acks⟩
def undC (u : UndV) : List Value := [.int .i64 u.tx, u.so.v, u.sv.v, .bool u.dec, .bool u.yes, u.sa.v]
def timC (t : TimR) : List Value := [.int .i64 t.tm, .bool t.again, .int .i64 t.tx]
def heldC (t : HeldR) : List Value := [.int .i64 t.key, .int .i64 t.tx]
instance : RowF heldC 2 := ⟨fun _ => rfl, fun a v h => by simp [heldC] at h; rcases h with h | h <;> subst h <;> rfl⟩
structure ShV where
 me : Int
 n : Int
 up : Bool
 log : List RecV
 good : Int
 vals : List Int
 locks : List HeldR
 under : List UndV
 timers : List TimR
 waits : List MsgV
 clock : Int
 out : List MsgV
def ShV.abs (s : ShV) : ShR := ⟨s.me, s.n, s.up, s.log.map (·.toRecR), s.good, s.vals, s.locks, s.under.map (·.abs), s.timers, s.waits.map (·.toMsgR), s.clock, s.out.map (·.toMsgR)⟩
structure ShS where
 log : SliceV
 vals : SliceV
 locks : SliceV
 under : SliceV
 timers : SliceV
 waits : SliceV
 out : SliceV
def shC (s : ShV) (a : ShS) : Array Value := #[.int .i64 s.me, .int .i64 s.n, .bool s.up, a.log.v, .int .i64 s.good, a.vals.v, a.locks.v, a.under.v, a.timers.v, a.waits.v, .int .i64 s.clock, a.out.v]
def undP (u : UndV) : HP := all [slP votC 2 290 u.sv u.votes, slP i64L 1 3 u.sa u.acks]
def shL (s : ShV) (a : ShS) : List HP := [slP recC 6 247 a.log s.log, slP i64L 1 3 a.vals s.vals, slP heldC 2 258 a.locks s.locks, slP undC 6 287 a.under s.under, all (s.under.map undP),
 slP timC 3 251 a.timers s.timers, slP msgC 7 137 a.waits s.waits, slP msgC 7 137 a.out s.out]
def shP (b : Nat) (s : ShV) : HP := fun h => ∃ a, all (pts b (.cells (shC s a) 61 (0, 0)) :: shL s a) h
structure MsgI (I : HL) (m : MsgV) : Prop where
 o : imSl I opRC 63 m.so m.ops
 r : imSl I i64L 3 m.sr m.reads
structure RecI (I : HL) (m : RecV) : Prop where
 o : imSl I opRC 63 m.so m.ops
 r : imSl I i64L 3 m.sr m.reads
structure UndI (I : HL) (u : UndV) : Prop where
 o : imSl I opRC 63 u.so u.ops
 r : ∀ v ∈ u.votes, imSl I i64L 3 v.sr v.reads
structure ShI (I : HL) (s : ShV) : Prop where
 log : ∀ r ∈ s.log, RecI I r
 und : ∀ u ∈ s.under, UndI I u
 waits : ∀ m ∈ s.waits, MsgI I m
 out : ∀ m ∈ s.out, MsgI I m
theorem MsgI.mono {I I' : HL} {m : MsgV} (hs : Sub I I') (h : MsgI I m) : MsgI I' m := ⟨h.o.mono hs, h.r.mono hs⟩
theorem RecI.mono {I I' : HL} {m : RecV} (hs : Sub I I') (h : RecI I m) : RecI I' m := ⟨h.o.mono hs, h.r.mono hs⟩
theorem UndI.mono {I I' : HL} {m : UndV} (hs : Sub I I') (h : UndI I m) : UndI I' m := ⟨h.o.mono hs, fun v hv => (h.r v hv).mono hs⟩
theorem ShI.mono {I I' : HL} {s : ShV} (hs : Sub I I') (h : ShI I s) : ShI I' s := ⟨fun r hr => (h.log r hr).mono hs, fun u hu => (h.und u hu).mono hs, fun r hr => (h.waits r hr).mono hs, fun r hr => (h.out r hr).mono hs⟩
abbrev shO (b : Nat) (s : ShV) (lg vl lk un tm wt ot : SliceV) (F : List HP) : List HP := pts b (.cells #[.int .i64 s.me, .int .i64 s.n, .bool s.up, lg.v, .int .i64 s.good, vl.v, lk.v, un.v, tm.v, wt.v, .int .i64 s.clock, ot.v] 61 (0, 0)) ::
  slP recC 6 247 lg s.log :: slP i64L 1 3 vl s.vals :: slP heldC 2 258 lk s.locks :: slP undC 6 287 un s.under :: all (s.under.map undP) ::
  slP timC 3 251 tm s.timers :: slP msgC 7 137 wt s.waits :: slP msgC 7 137 ot s.out :: F
section
variable {R : Nat → Goroutine → Array Obj → Prop} {d : Nat} {As F L : List HP} {g : Goroutine} {b : Nat} {s : ShV}
theorem nilU (h : At R d (all (([] : List UndV).map undP) :: F) g) : At R d F g := At.nilA h
theorem shP.opn (hf : Fo (shP b s) As L := by repeat (first | with_reducible exact Fo.head | with_reducible apply Fo.tail)) (h : ∀ lg vl lk un tm wt ot : SliceV, At R d (shO b s lg vl lk un tm wt ot L) g) : At R d As g := by
 refine At.fo hf fun H st => ?_
 obtain ⟨a, st⟩ := st.ex
 exact h a.log a.vals a.locks a.under a.timers a.waits a.out H (st.flat)
theorem shP.cls {c : Array Value} (s : ShV) (h : At R d (shP b s :: F) g) (hf : Fo (pts b (.cells c 61 (0, 0))) As L := by repeat (first | with_reducible exact Fo.head | with_reducible apply Fo.tail)) {lg vl lk un tm wt ot : SliceV} (hc : c = shC s ⟨lg, vl, lk, un, tm, wt, ot⟩ := by rfl)
  (hr : ReF [slP recC 6 247 lg s.log, slP i64L 1 3 vl s.vals, slP heldC 2 258 lk s.locks, slP undC 6 287 un s.under, all (s.under.map undP),
   slP timC 3 251 tm s.timers, slP msgC 7 137 wt s.waits, slP msgC 7 137 ot s.out] L F := by repeat (first | with_reducible exact ReF.nil | with_reducible exact Fo.head | with_reducible apply Fo.tail | with_reducible apply ReF.cons)) : At R d As g := by
 subst hc
 refine At.perm (hf.perm.trans (hr.perm.cons _)) fun H st => h H ?_
 exact Sat.imp (fun hh x => ⟨⟨lg, vl, lk, un, tm, wt, ot⟩, x⟩) (Sat.unflat (l := pts b (.cells (shC s ⟨lg, vl, lk, un, tm, wt, ot⟩) 61 (0, 0)) :: shL s ⟨lg, vl, lk, un, tm, wt, ot⟩) st)
end
end Go.Sl
end
section
set_option linter.unusedVariables false
namespace Go.Sl
open Go.Proofs
variable {main : Bool}
structure TxV extends TxR where
 so : SliceV
 sr : SliceV
def txC (t : TxV) : List Value := [t.so.v, .int .i64 t.state, t.sr.v]
instance : RowF txC 3 := ⟨fun _ => rfl, fun a v h => by simp [txC] at h; rcases h with h | h | h <;> subst h <;> rfl⟩
def ptrC (b : Nat) : List Value := [.pointer (some ⟨b, 0, none⟩)]
instance : RowF ptrC 1 := ⟨fun _ => rfl, fun a v h => by simp [ptrC] at h; subst h; rfl⟩
structure WV where
 sh : List (Nat × ShV)
 bag : List MsgV
 txs : List TxV
 stopped : Bool
def WV.abs (w : WV) : WR := ⟨w.sh.map (·.2.abs), w.bag.map (·.toMsgR), w.txs.map (·.toTxR), w.stopped⟩
abbrev shE (p : Nat × ShV) : HP := shP p.1 p.2
abbrev wO (b : Nat) (w : WV) (sh bg tx : SliceV) (F : List HP) : List HP := pts b (.cells #[sh.v, bg.v, tx.v, .bool w.stopped] 53 (0, 0)) :: slP ptrC 1 54 sh (w.sh.map (·.1)) :: slP msgC 7 137 bg w.bag :: slP txC 3 71 tx w.txs :: all (w.sh.map shE) :: F
def wP (b : Nat) (w : WV) : HP := fun h => ∃ sh bg tx : SliceV, all (wO b w sh bg tx []) h
structure TxI (I : HL) (t : TxV) : Prop where
 o : imSl I opRC 63 t.so t.ops
 r : imSl I i64L 3 t.sr t.reads
structure WI (I : HL) (w : WV) : Prop where
 sh : ∀ p ∈ w.sh, ShI I p.2
 bag : ∀ m ∈ w.bag, MsgI I m
 txs : ∀ t ∈ w.txs, TxI I t
theorem TxI.mono {I I' : HL} {t : TxV} (hs : Sub I I') (h : TxI I t) : TxI I' t := ⟨h.o.mono hs, h.r.mono hs⟩
theorem WI.mono {I I' : HL} {w : WV} (hs : Sub I I') (h : WI I w) : WI I' w := ⟨fun p hp => (h.sh p hp).mono hs, fun m hm => (h.bag m hm).mono hs, fun t ht => (h.txs t ht).mono hs⟩
section
variable {R : Nat → Goroutine → Array Obj → Prop} {d : Nat} {As F L : List HP} {g : Goroutine} {b : Nat} {w : WV}
theorem wP.opn (hf : Fo (wP b w) As L := by repeat (first | with_reducible exact Fo.head | with_reducible apply Fo.tail)) (h : ∀ sh bg tx : SliceV, At R d (wO b w sh bg tx L) g) : At R d As g := by
 refine At.fo hf fun H st => ?_
 obtain ⟨sh, st⟩ := st.ex
 obtain ⟨bg, st⟩ := st.ex
 obtain ⟨tx, st⟩ := st.ex
 exact h sh bg tx H st.flat
theorem wP.cls {c : Array Value} (w : WV) (h : At R d (wP b w :: F) g) (hf : Fo (pts b (.cells c 53 (0, 0))) As L := by repeat (first | with_reducible exact Fo.head | with_reducible apply Fo.tail)) {sh bg tx : SliceV} (hc : c = #[sh.v, bg.v, tx.v, .bool w.stopped] := by rfl)
  (hr : ReF [slP ptrC 1 54 sh (w.sh.map (·.1)), slP msgC 7 137 bg w.bag, slP txC 3 71 tx w.txs, all (w.sh.map shE)] L F := by repeat (first | with_reducible exact ReF.nil | with_reducible exact Fo.head | with_reducible apply Fo.tail | with_reducible apply ReF.cons)) : At R d As g := by
 subst hc
 refine At.perm (hf.perm.trans (hr.perm.cons _)) fun H st => h H ?_
 exact Sat.imp (fun hh x => ⟨sh, bg, tx, x⟩) (Sat.unflat (l := wO b w sh bg tx []) st)
end
theorem right_spec {I : HL} {so : SliceV} {ops : List OpR} (ho : imSl I opRC 63 so ops) (hl : ops.length < 2 ^ 60) :
  Spec Tryz.prog main badT 31 #[so.v] [imm I] (fun v As => v = .bool (decide (rightP ops)) ∧ As = [imm I]) := by
 refine Spec.of ?_
 intro R C kd d F c cs hkd hret
 simp only [List.cons_append, List.nil_append]
 refine C.go ?_
 refine C.rg [0] ?_
 refine C.asg rfl ?_
 refine C.go ?_
 refine C.rg [0] ?_
 refine C.asg rfl ?_
 refine C.go ?_
 refine C.loopR (X := Nat) (fun i => [(0, so.v), (3, .int .i64 i)]) (fun _ => imm I :: F) (fun i => i ≤ ops.length ∧ (∀ j (hj : j < ops.length), j < i → okOp ops[j]) ∧ ((ops.take i).map (·.k)).Nodup) (fun i => ops.length - i) 0 ⟨rfl, rfl, trivial⟩ ⟨Nat.zero_le _, by intro j _ hj; omega, by simp⟩ ?_
 intro i e ⟨hi, hok, hne⟩ ih
 refine C.go ?_
 refine C.rg [0, 1, 2, 3] ?_
 refine C.mv rfl ?_
 refine C.mv rfl ?_
 refine C.lnR rfl ?_
 refine C.cmp rfl (fun h8 => ?_) (fun h8 => ?_)
 ·skip
  refine C.go ?_
  refine C.tru ?_
  have hi' : i < ops.length := by simpa using h8
  apply cutR (okOp ops[i]) [(0, so.v), (3, .int .i64 i)] (imm I :: F) (R := R) (d := d) (fn := 31) (kd := kd) (n := 65) (ds := []) (cs := c :: cs)
  ·intro hin6
   refine C.rg [0, 1, 2, 3, 4, 5, 6, 7, 8, 9, 10, 11, 12, 13, 14, 15, 16, 17, 18, 19, 20, 21, 22, 23, 24, 25, 26, 27, 28, 29] ?_
   refine C.mv rfl ?_
   refine C.mv rfl ?_
   refine C.iaR rfl ?_
   refine C.fa rfl ?_
   refine C.ldR rfl ?_
   refine C.cmp rfl (fun h16 => ?_) (fun h16 => ?_)
   ·skip
    refine C.mv rfl ?_
    refine C.no rfl ?_
    refine C.no rfl ?_
    refine C.no rfl ?_
    refine C.no rfl ?_
    refine C.no rfl ?_
    refine C.no rfl ?_
    refine C.pk rfl ?_
    refine C.mv rfl ?_
    refine C.no rfl ?_
    refine C.no rfl ?_
    refine C.no rfl ?_
    refine C.no rfl ?_
    refine C.no rfl ?_
    refine C.no rfl ?_
    refine C.no rfl ?_
    refine C.no rfl ?_
    refine C.no rfl ?_
    refine C.no rfl ?_
    refine C.no rfl ?_
    refine C.no rfl ?_
    refine C.no rfl ?_
    refine C.no rfl ?_
    refine C.pk rfl ?_
    refine C.go ?_
    refine C.tru ?_
    refine C.rg [0] ?_
    refine C.asg rfl ?_
    refine C.go ?_
    refine C.retR hkd hret ⟨?_, rfl⟩
    rw [decide_eq_false (fun h => by have := (h.1 _ (List.getElem_mem hi')).1; omega)]
   ·skip
    refine C.mv rfl ?_
    refine C.mv rfl ?_
    refine C.mv rfl ?_
    refine C.iaR rfl ?_
    refine C.fa rfl ?_
    refine C.ldR rfl ?_
    refine C.cmp rfl (fun h23 => ?_) (fun h23 => ?_)
    ·skip
     refine C.pk rfl ?_
     refine C.mv rfl ?_
     refine C.no rfl ?_
     refine C.no rfl ?_
     refine C.no rfl ?_
     refine C.no rfl ?_
     refine C.no rfl ?_
     refine C.no rfl ?_
     refine C.no rfl ?_
     refine C.no rfl ?_
     refine C.no rfl ?_
     refine C.no rfl ?_
     refine C.no rfl ?_
     refine C.no rfl ?_
     refine C.no rfl ?_
     refine C.no rfl ?_
     refine C.pk rfl ?_
     refine C.go ?_
     refine C.tru ?_
     refine C.rg [0] ?_
     refine C.asg rfl ?_
     refine C.go ?_
     refine C.retR hkd hret ⟨?_, rfl⟩
     rw [decide_eq_false (fun h => by have := (h.1 _ (List.getElem_mem hi')).2.1; omega)]
    ·skip
     refine C.pk rfl ?_
     refine C.mv rfl ?_
     refine C.mv rfl ?_
     refine C.mv rfl ?_
     refine C.iaR rfl ?_
     refine C.fa rfl ?_
     refine C.ldR0 rfl ?_
     generalize hw : ops[i].w = z
     rcases Bool.eq_false_or_eq_true z with rfl | rfl
     ·skip
      refine C.nt rfl ?_
      refine C.mv rfl ?_
      refine C.no rfl ?_
      refine C.no rfl ?_
      refine C.no rfl ?_
      refine C.no rfl ?_
      refine C.no rfl ?_
      refine C.no rfl ?_
      refine C.pk rfl ?_
      refine C.pk rfl ?_
      refine C.go ?_
      refine C.fls ?_
      exact join hin6 ⟨by omega, by omega, .inl hw⟩
     ·skip
      refine C.nt rfl ?_
      refine C.mv rfl ?_
      refine C.mv rfl ?_
      refine C.mv rfl ?_
      refine C.iaR rfl ?_
      refine C.fa rfl ?_
      refine C.ldR rfl ?_
      refine C.cmp rfl (fun h38 => ?_) (fun h38 => ?_)
      ·skip
       refine C.pk rfl ?_
       refine C.pk rfl ?_
       refine C.go ?_
       refine C.tru ?_
       refine C.rg [0] ?_
       refine C.asg rfl ?_
       refine C.go ?_
       refine C.retR hkd hret ⟨?_, rfl⟩
       rw [decide_eq_false (fun h => by
        rcases (h.1 _ (List.getElem_mem hi')).2.2 with h | h
        ·rw [hw] at h; cases h
        ·omega)]
      ·skip
       refine C.pk rfl ?_
       refine C.pk rfl ?_
       refine C.go ?_
       refine C.fls ?_
       exact join hin6 ⟨by omega, by omega, .inr (by omega)⟩
  ·rintro hoki e
   refine C.rg [0] ?_
   refine C.asg rfl ?_
   refine C.go ?_
   refine C.loopR (X := Nat) (fun j => [(0, so.v), (3, .int .i64 i), (4, .int .i64 j)]) (fun _ => imm I :: F) (fun j => j ≤ i ∧ ∀ j' (hj : j' < ops.length), j' < j → ops[j'].k ≠ ops[i].k) (fun j => i - j) 0 ⟨rfl, rfl, rfl, trivial⟩ ⟨Nat.zero_le _, by intro j' _ hj; omega⟩ ?_
   intro j e ⟨hj, hnj⟩ ih2
   refine C.go ?_
   refine C.rg [0, 1, 2] ?_
   refine C.mv rfl ?_
   refine C.mv rfl ?_
   refine C.cmp rfl (fun h43 => ?_) (fun h43 => ?_)
   ·skip
    refine C.go ?_
    refine C.tru ?_
    have hj' : j < i := by simpa using h43
    have hj2 : j < ops.length := by omega
    by_cases h56 : ops[j].k = ops[i].k
    ·skip
     refine C.drawn [(46, 0), (47, 1), (48, 2), (49, 3), (50, 4), (51, 5), (52, 6), (53, 7), (54, 8), (55, 9), (56, 10)] [0, 1, 2, 3, 4, 5, 6, 7, 8, 9, 10] [] 0 ?_
     refine Dr.pu ⟨_, rfl, rfl⟩ (fun _ _ _ h => C.mv rfl h) ?_
     refine Dr.pu ⟨_, rfl, rfl⟩ (fun _ _ _ h => C.mv rfl h) ?_
     refine Dr.ld ⟨_, rfl, rfl⟩ (fun _ hE _ _ h => C.iaR rfl h) ?_
     refine Dr.pu ⟨_, rfl, rfl⟩ (fun _ _ _ h => C.fa rfl h) ?_
     refine Dr.ld ⟨_, rfl, rfl⟩ (fun _ hE _ _ h => C.ldR rfl h) ?_
     refine Dr.pu ⟨_, rfl, rfl⟩ (fun _ _ _ h => C.mv rfl h) ?_
     refine Dr.pu ⟨_, rfl, rfl⟩ (fun _ _ _ h => C.mv rfl h) ?_
     refine Dr.ld ⟨_, rfl, rfl⟩ (fun _ hE _ _ h => C.iaR rfl h) ?_
     refine Dr.pu ⟨_, rfl, rfl⟩ (fun _ _ _ h => C.fa rfl h) ?_
     refine Dr.ld ⟨_, rfl, rfl⟩ (fun _ hE _ _ h => C.ldR rfl h) ?_
     refine Dr.pu ⟨_, rfl, rfl⟩ (fun _ _ _ h => C.cmpT rfl h (hf := h56)) ?_
     refine Dr.chain rfl ?_
     refine Ch.fin ?_
     refine C.go ?_
     refine C.tru ?_
     refine C.rg [0] ?_
     refine C.asg rfl ?_
     refine C.go ?_
     refine C.retR hkd hret ⟨?_, rfl⟩
     rw [decide_eq_false (fun h => by
      have h1 := List.pairwise_iff_getElem.1 h.2.1 j i (by simpa using hj2) (by simpa using hi') hj'
      rw [List.getElem_map, List.getElem_map] at h1
      exact h1 h56)]
    ·skip
     refine C.drawn [(46, 0), (47, 1), (48, 2), (49, 3), (50, 4), (51, 5), (52, 6), (53, 7), (54, 8), (55, 9), (56, 10)] [0, 1, 2, 3, 4, 5, 6, 7, 8, 9, 10] [] 0 ?_
     refine Dr.pu ⟨_, rfl, rfl⟩ (fun _ _ _ h => C.mv rfl h) ?_
     refine Dr.pu ⟨_, rfl, rfl⟩ (fun _ _ _ h => C.mv rfl h) ?_
     refine Dr.ld ⟨_, rfl, rfl⟩ (fun _ hE _ _ h => C.iaR rfl h) ?_
     refine Dr.pu ⟨_, rfl, rfl⟩ (fun _ _ _ h => C.fa rfl h) ?_
     refine Dr.ld ⟨_, rfl, rfl⟩ (fun _ hE _ _ h => C.ldR rfl h) ?_
     refine Dr.pu ⟨_, rfl, rfl⟩ (fun _ _ _ h => C.mv rfl h) ?_
     refine Dr.pu ⟨_, rfl, rfl⟩ (fun _ _ _ h => C.mv rfl h) ?_
     refine Dr.ld ⟨_, rfl, rfl⟩ (fun _ hE _ _ h => C.iaR rfl h) ?_
     refine Dr.pu ⟨_, rfl, rfl⟩ (fun _ _ _ h => C.fa rfl h) ?_
     refine Dr.ld ⟨_, rfl, rfl⟩ (fun _ hE _ _ h => C.ldR rfl h) ?_
     refine Dr.pu ⟨_, rfl, rfl⟩ (fun _ _ _ h => C.cmpF rfl h (hf := h56)) ?_
     refine Dr.chain rfl ?_
     refine Ch.fin ?_
     refine C.go ?_
     refine C.fls ?_
     refine C.rg [0, 1, 2] ?_
     refine C.mv rfl ?_
     refine C.ar rfl ?_
     refine C.asg rfl ?_
     refine C.go ?_
     refine again ih2 (j + 1) ⟨hj', fun j' hj3 hlt => ?_⟩ (by omega)
     rcases Nat.lt_succ_iff_lt_or_eq.1 hlt with h | rfl
     ·exact hnj j' hj3 h
     ·exact h56
   ·skip
    refine C.go ?_
    refine C.fls ?_
    refine C.rg [0, 1, 2] ?_
    refine C.mv rfl ?_
    refine C.ar rfl ?_
    refine C.asg rfl ?_
    refine C.go ?_
    have hji : j = i := by have : ¬ j < i := (by simpa using h43); omega
    subst hji
    refine again ih (j + 1) ⟨hi', fun j' hj3 hlt => ?_, ?_⟩ (by omega)
    ·rcases Nat.lt_succ_iff_lt_or_eq.1 hlt with h | rfl
     ·exact hok j' hj3 h
     ·exact hoki
    ·rw [List.take_succ_eq_append_getElem hi', List.map_append, List.nodup_append]
     refine ⟨hne, by simp, fun a ha c hc => ?_⟩
     simp only [List.map_cons, List.map_nil, List.mem_singleton] at hc
     subst hc
     obtain ⟨o, ho, rfl⟩ := List.mem_map.1 ha
     obtain ⟨q, hq, rfl⟩ := List.getElem_of_mem ho
     rw [List.length_take] at hq
     rw [List.getElem_take]
     exact hnj q (by omega) (by omega)
 ·skip
  refine C.go ?_
  refine C.fls ?_
  have hie : i = ops.length := by have : ¬ i < ops.length := (by simpa using h8); omega
  subst hie
  rw [List.take_length] at hne
  have hall : ∀ o ∈ ops, okOp o := fun o ho => by
   obtain ⟨q, hq, rfl⟩ := List.getElem_of_mem ho
   exact hok q hq hq
  refine C.rg [0, 1, 2, 3, 4, 5, 6, 7, 8] ?_
  refine C.mv rfl ?_
  refine C.lnR rfl ?_
  refine C.cmp rfl (fun h59 => ?_) (fun h59 => ?_)
  ·skip
   refine C.mv rfl ?_
   refine C.mv rfl ?_
   refine C.lnR rfl ?_
   refine C.cmp rfl (fun h63 => ?_) (fun h63 => ?_)
   ·skip
    refine C.pk rfl ?_
    refine C.asg rfl ?_
    refine C.go ?_
    refine C.retR hkd hret ⟨?_, rfl⟩
    rw [decide_eq_true (show rightP ops from ⟨hall, hne, by omega, by omega⟩)]
   ·skip
    refine C.pk rfl ?_
    refine C.asg rfl ?_
    refine C.go ?_
    refine C.retR hkd hret ⟨?_, rfl⟩
    rw [decide_eq_false (fun h => by have := h.2.2.2; omega)]
  ·skip
   refine C.mv rfl ?_
   refine C.no rfl ?_
   refine C.no rfl ?_
   refine C.no rfl ?_
   refine C.pk rfl ?_
   refine C.asg rfl ?_
   refine C.go ?_
   refine C.retR hkd hret ⟨?_, rfl⟩
   rw [decide_eq_false (fun h => by have := h.2.2.1; omega)]
end Go.Sl
end
section
set_option linter.unusedVariables false
namespace Go.Sl
open Go.Conc
structure GOk (B : Bad) (σ : Gh) (H : Array Obj) : Prop where
 still : ∀ i s p, σ.seats i = some s → p ∈ s.mem → p.1.spot = none ∧ ∃ c ty, H[p.1.block]? = some (.cells c ty (0, 0)) ∧ B.rd p.1.block ty p.1.off = true
 shun : ∀ l, σ.sh l → ∃ a : Addr, l = .cell a ∧ ∃ c ty, H[a.block]? = some (.cells c ty (0, 0)) ∧ B.sh ty a.off = true ∧ B.bot ≤ a.block
theorem GOk.step {B : Bad} {σ : Gh} {H H' : Array Obj} (h : GOk B σ H) (s : StepOk B H H') : GOk B σ H' :=
 ⟨fun i s' p e hp => by
  obtain ⟨h1, c, ty, h2, h3⟩ := h.still i s' p e hp
  obtain ⟨c', h4, _⟩ := s.cells _ _ _ _ h2
  exact ⟨h1, c', ty, h4, h3⟩, fun l hl => by
  obtain ⟨a, rfl, c, ty, h2, h3⟩ := h.shun l hl
  obtain ⟨c', h4, _⟩ := s.cells _ _ _ _ h2
  exact ⟨a, rfl, c', ty, h4, h3⟩⟩
theorem ownOk_of {B : Bad} {σ : Gh} {w w' : World} {es : Array Event} (g : GOk B σ w.heap) (s : StepOk B w.heap w'.heap) (he : ∀ e ∈ es, EvOk B w'.heap e) : OwnOk σ w w' es := by
 have g' := g.step s
 refine ⟨s.size, s.chans, fun i s' p e hp hc => ?_, fun e hes => ?_⟩
 ·obtain ⟨h1, c, ty, h2, h3⟩ := g.still i s' p e hp
  obtain ⟨c', h4, h5⟩ := s.cells _ _ _ _ h2
  unfold World.cell? at hc ⊢
  rw [h2] at hc
  rw [h4]
  simp only [h1] at hc ⊢
  rw [h5 _ h3]; exact hc
 ·have hev := he e hes
  have hrd : ∀ i a c ty fr, σ.rd i (.cell a) → w'.heap[a.block]? = some (.cells c ty fr) → B.rd a.block ty a.off = true := fun i a c ty fr hr hh => by
   obtain ⟨s', e', p, hp, ep⟩ := hr
   obtain rfl := Loc.cell.inj ep
   obtain ⟨_, c', ty', h2, h3⟩ := g'.still i s' p e' hp
   rw [hh] at h2
   cases h2; exact h3
  have hsh : ∀ a c ty fr, σ.sh (.cell a) → w'.heap[a.block]? = some (.cells c ty fr) → B.sh ty a.off = true ∧ B.bot ≤ a.block := fun a c ty fr hr hh => by
   obtain ⟨a', ea, c', ty', h2, h3⟩ := g'.shun _ hr
   obtain rfl := Loc.cell.inj ea
   rw [hh] at h2
   cases h2; exact h3
  have hlt : ∀ b o, w'.heap[b]? = some o → b < w'.heap.size := fun b o h => (Array.getElem?_eq_some_iff.1 h).1
  obtain ⟨loc, wr, sy⟩ := e
  cases loc with
  | cell a =>
   obtain ⟨h1, c, ty, ⟨fr, h2⟩, h3, h4⟩ := hev
   refine ⟨fun b hb => ?_, fun ad ea => (by simp [MemAct.ofEvent] at ea), ?_⟩
   ·simp only [MemAct.ofEvent, MemAct.touch?, Option.some.injEq] at hb
    subst hb
    refine ⟨fun hw i hr => ?_, fun hs hk => ?_⟩
    ·have := hrd i a c ty fr hr h2
     rw [h3 hw] at this; cases this
    ·have := hsh a c ty fr hs h2
     cases sy with
     | true => simp at hk
     | false =>
      rcases h4 rfl with h5 | h5
      ·have := this.2; omega
      ·rw [h5] at this; cases this.1
   ·exact hlt _ _ h2
  | obj r =>
   obtain ⟨h1, h2⟩ := hev
   have h2 : sy = false := h2
   subst h2
   have hof : MemAct.ofEvent ⟨.obj r, wr, false⟩ = .access ⟨.obj r, wr, false⟩ := by cases wr <;> rfl
   rw [hof]
   refine ⟨fun b hb => ?_, fun ad ea => (by cases ea), h1⟩
   simp only [MemAct.touch?, Option.some.injEq] at hb
   subst hb
   refine ⟨fun hw i hr => ?_, fun hs _ => ?_⟩
   ·obtain ⟨s', e', p, hp, ep⟩ := hr; cases ep
   ·obtain ⟨a, ea, _⟩ := g'.shun _ hs; cases ea
  | mark m =>
   obtain ⟨h1, h2⟩ := hev
   have hof : MemAct.ofEvent ⟨.mark m, wr, sy⟩ = .mark m := by cases wr <;> cases sy <;> rfl
   rw [hof]
   refine ⟨fun b hb => ?_, fun ad ea => ?_, ?_⟩
   ·cases m with
    | read a =>
     simp only [MemAct.touch?, Option.some.injEq] at hb
     subst hb
     exact ⟨fun hw => by simp at hw, fun _ hk => by simp at hk⟩
    | write a =>
     obtain ⟨c, ty, h3, h4⟩ := h1
     simp only [MemAct.touch?, Option.some.injEq] at hb
     subst hb
     refine ⟨fun _ i hr => ?_, fun _ hk => by simp at hk⟩
     have := hrd i a c ty _ hr h3
     rw [h4] at this; cases this
    | _ => simp [MemAct.touch?] at hb
   ·cases ea
    obtain ⟨c, ty, h3, h4⟩ := h1
    intro hs
    have := (hsh _ c ty _ hs h3).1
    rw [h4] at this; cases this
   ·cases m with
    | acquire a => obtain ⟨c, ty, h3⟩ := h1; exact hlt _ _ h3
    | release a => obtain ⟨c, ty, h3, _⟩ := h1; exact hlt _ _ h3
    | releaseMerge a => obtain ⟨c, ty, h3⟩ := h1; exact hlt _ _ h3
    | read a => obtain ⟨c, ty, h3⟩ := h1; exact hlt _ _ h3
    | write a => obtain ⟨c, ty, h3, _⟩ := h1; exact hlt _ _ h3
    | _ => trivial
  | _ => exact hev.elim
structure BLe (B B' : Bad) : Prop where
 rd : ∀ b ty o, B.rd b ty o = true → B'.rd b ty o = true
 sh : ∀ ty o, B.sh ty o = true → B'.sh ty o = true
 bot : B'.bot ≤ B.bot
structure Bar where
 B0 : Bad
 h0 : B0.bot = 0
 mkd : TypeId → Nat → Bool
 sh : TypeId → Nat → Bool
 h1 : ∀ b ty o, mkd ty o = true → B0.rd b ty o = true
 h2 : ∀ ty o, sh ty o = true → B0.sh ty o = true
def Gh.blk (σ : Gh) (b : Nat) : Bool := (List.range σ.n).any fun i => match σ.seats i with | none => false | some s => s.mem.any fun p => p.1.block == b
def Bar.bw (X : Bar) (σ : Gh) : Bad := ⟨fun b ty o => X.mkd ty o && σ.blk b, X.sh, σ.bot⟩
theorem Gh.blk_iff {σ : Gh} (hn : ∀ i s, σ.seats i = some s → i < σ.n) {b : Nat} : σ.blk b = true ↔ ∃ i s p, σ.seats i = some s ∧ p ∈ s.mem ∧ p.1.block = b := by
 unfold Gh.blk
 rw [List.any_eq_true]
 constructor
 ·rintro ⟨i, _, h⟩
  cases e : σ.seats i with
  | none => rw [e] at h; cases h
  | some s =>
   rw [e] at h
   obtain ⟨p, hp, hb⟩ := List.any_eq_true.1 h
   exact ⟨i, s, p, e, hp, by simpa using hb⟩
 ·rintro ⟨i, s, p, e, hp, hb⟩
  refine ⟨i, List.mem_range.2 (hn i s e), ?_⟩
  rw [e]
  exact List.any_eq_true.2 ⟨p, hp, by simpa using hb⟩
def Bar.rd (X : Bar) (i : Nat) : Nat → TypeId → Nat → Bool := if i = 0 then X.B0.rd else fun _ ty o => X.mkd ty o
theorem Bar.le (X : Bar) (σ : Gh) : BLe (X.bw σ) X.B0 := ⟨fun b ty o h => X.h1 b ty o (by unfold Bar.bw at h; simp only [Bool.and_eq_true] at h; exact h.1), X.h2, by rw [X.h0]; exact Nat.zero_le _⟩
structure GO (X : Bar) (σ : Gh) (H : Array Obj) : Prop where
 lt : ∀ i s, σ.seats i = some s → i < σ.n
 cl : ∀ i s c, σ.seats i = some s → s.has c → c < H.size
 still : ∀ i s p, σ.seats i = some s → p ∈ s.mem → p.1.spot = none ∧ ∃ c ty, H[p.1.block]? = some (.cells c ty (0, 0)) ∧ X.rd i p.1.block ty p.1.off = true
 shun : ∀ l, σ.sh l → ∃ a : Addr, l = .cell a ∧ ∃ c ty, H[a.block]? = some (.cells c ty (0, 0)) ∧ X.sh ty a.off = true ∧ σ.bot ≤ a.block
 bot : σ.bot ≤ H.size
theorem GO.zero {X : Bar} {σ : Gh} {H : Array Obj} (h : GO X σ H) (h0 : σ.seats 0 = none) : GOk (X.bw σ) σ H := ⟨fun i s p e hp => by
 have hi : i ≠ 0 := fun z => by rw [z, h0] at e; cases e
 obtain ⟨h1, c, ty, h2, h3⟩ := h.still i s p e hp
 refine ⟨h1, c, ty, h2, ?_⟩
 unfold Bar.rd at h3
 rw [if_neg hi] at h3
 unfold Bar.bw
 simp only [Bool.and_eq_true]
 exact ⟨h3, (Gh.blk_iff h.lt).2 ⟨i, s, p, e, hp, rfl⟩⟩, h.shun⟩
theorem GO.stepAny {B : Bad} {X : Bar} {σ : Gh} {H H' : Array Obj} (h : GO X σ H) (s : StepOk B H H') : GO X σ H' :=
 ⟨h.lt, fun i s' c e hc => Nat.lt_of_lt_of_le (h.cl i s' c e hc) s.size, fun i s' p e hp => by
  obtain ⟨h1, c, ty, h2, h3⟩ := h.still i s' p e hp
  obtain ⟨c', h4, _⟩ := s.cells _ _ _ _ h2
  exact ⟨h1, c', ty, h4, h3⟩, fun l hl => by
  obtain ⟨a, rfl, c, ty, h2, h3⟩ := h.shun l hl
  obtain ⟨c', h4, _⟩ := s.cells _ _ _ _ h2
  exact ⟨a, rfl, c', ty, h4, h3⟩, Nat.le_trans h.bot s.size⟩
def RunR (P : Program) (Post : Value → World → Prop) (X : Bar) (σ : Gh) (h : Nat) (os : Os) (out : Array (Nat × ByteArray)) : Nat → Goroutine → Array Obj → Prop :=
 fun d g H => σ.seats h = none → GO X σ H → ∀ w : World, w.heap = H → w.os = os → w.output = out → Run P Post σ h d g w
section
variable {P : Program} {Post : Value → World → Prop} {X : Bar} {σ : Gh} {h : Nat} {os : Os} {out : Array (Nat × ByteArray)}
open Classical in
theorem RunR.closedG {B : Bad} (hB : σ.seats h = none → ∀ H, GO X σ H → GOk B σ H) : Closed P (h == 0) B (RunR P Post X σ h os out) := ⟨fun d g H hs step hole go w hw ho hu => by
 have gok := hB hole H go
 have key : ∀ w₁, Sm w w₁ → ∃ r : Goroutine × World × Array Event, stepG P (h == 0) g w₁ = .go r.1 r.2.1 r.2.2 ∧ OwnOk σ w₁ r.2.1 r.2.2 ∧ Run P Post σ h (deafBehind d r.2.2) r.1 r.2.1 := fun w₁ hs₁ => by
  have hw₁ : w₁.heap = H := hs₁.hp.trans hw
  obtain ⟨g', w', es, h1, h2, h3, h4, h5, h6⟩ := step w₁ hw₁
  subst hw₁
  exact ⟨(g', w', es), h1, ownOk_of gok h4 h5, h6 hole (go.stepAny h4) w' rfl (h2.trans (hs₁.os.trans ho)) (h3.trans (hs₁.out.trans hu))⟩
 refine Run.own (fun w₁ => if q : Sm w w₁ then (Classical.choose (key w₁ q)).1 else g) (fun w₁ => if q : Sm w w₁ then (Classical.choose (key w₁ q)).2.1 else w₁) (fun w₁ => if q : Sm w w₁ then (Classical.choose (key w₁ q)).2.2 else #[]) hs (fun w₁ q => ?_) (fun w₁ q => ?_) (fun w₁ q => ?_)
 ·simp only [dif_pos q]; exact (Classical.choose_spec (key w₁ q)).1
 ·simp only [dif_pos q]; exact (Classical.choose_spec (key w₁ q)).2.1
 ·simp only [dif_pos q]; exact (Classical.choose_spec (key w₁ q)).2.2⟩
theorem RunR.closed0 : Closed P true (X.bw σ) (RunR P Post X σ 0 os out) := RunR.closedG (h := 0) fun h0 H g => g.zero h0
end
theorem Closed.less {P : Program} {main : Bool} {B B' : Bad} {R : Nat → Goroutine → Array Obj → Prop} (hb : BLe B B') (C : Closed P main B R) : Closed P main B' R := ⟨fun d g H hs step => C.step d g H hs fun w hw => by
 obtain ⟨g', w', es, h1, h2, h3, h4, h5, h6⟩ := step w hw
 refine ⟨g', w', es, h1, h2, h3, ⟨h4.size, h4.chans, fun b c ty fr hc => ?_⟩, fun e he => ?_, h6⟩
 ·obtain ⟨c', k1, k2⟩ := h4.cells b c ty fr hc
  exact ⟨c', k1, fun j hj => k2 j (hb.rd _ _ _ hj)⟩
 ·have hrd : ∀ b ty o, B'.rd b ty o = false → B.rd b ty o = false := fun b ty o z => by
   cases q : B.rd b ty o with
   | false => rfl
   | true => rw [hb.rd _ _ _ q] at z; cases z
  have hsh : ∀ ty o, B'.sh ty o = false → B.sh ty o = false := fun ty o z => by
   cases q : B.sh ty o with
   | false => rfl
   | true => rw [hb.sh _ _ q] at z; cases z
  have hm : ∀ m, markOk B' w'.heap m → markOk B w'.heap m := fun m z => by
   cases m with
   | release a => obtain ⟨c, ty, k1, k2⟩ := z; exact ⟨c, ty, k1, hsh _ _ k2⟩
   | write a => obtain ⟨c, ty, k1, k2⟩ := z; exact ⟨c, ty, k1, hrd _ _ _ k2⟩
   | _ => exact z
  have := h5 e he
  obtain ⟨loc, wr, sy⟩ := e
  cases loc with
  | cell a => obtain ⟨k1, c, ty, k2, k3, k4⟩ := this; exact ⟨k1, c, ty, k2, fun z => hrd _ _ _ (k3 z), fun z => (k4 z).imp (fun z => Nat.lt_of_lt_of_le z hb.bot) (hsh _ _)⟩
  | obj r => exact this
  | mark m => exact ⟨hm m this.1, this.2⟩
  | _ => exact this.elim⟩
end Go.Sl
end
section
set_option linter.unusedVariables false
namespace Go.Sl
open Go.Conc
class Ext_ (P : Program) (f : FuncId) (fu : outParam Func) (ex : outParam (Array Value → Sem Value)) : Prop where
 func : P.funcs[f]? = some fu
 name : (fu.name == "runtime.NumGoroutine") = false
 body : fu.body.isNone = true
 nx : Extern.findNext fu = none
 fd : Extern.find fu = some ex
section
variable {P : Program} {main : Bool} {B : Bad} {R : Nat → Goroutine → Array Obj → Prop} {d : Nat} {As As' Bs L F : List HP}
variable {fn : FuncId} {kd : Kd} {n : Nat} {e : Nat → Value} {ds : List Deferred} {k : List Item} {cs : List Frame}
variable {ops : Array Oper} {i : Nat} {rest : List Nat} {dst : Option Nat} {t : Nat} {ty : TypeId} {pos : String} {af : Array Edge} {gd : Option (Nat × Bool)}
theorem Closed.xt (C : Closed P main B R) {f : FuncId} {fu : Func} {ex : Array Value → Sem Value} [b : Ext_ P f fu ex] {fo : Operand} {args : Array Operand} {ats : Array TypeId} {vl : List Value}
  (h : ∀ H, Sat As (hp H) → okS P B (ex vl.toArray) H d fun v H' d' => ∃ As', Sat As' (hp H') ∧ At R d' As' (gr fn kd n (putO e dst v) ds (.inRegion ops rest :: k) cs))
  (ho : nthO ops i = some ⟨dst, .call ⟨.value fo, args, ats⟩, ty, pos, af, gd⟩) (hw : wantB ops n e gd = true) (hf : ev n e fo = .func (.func f) #[] #[]) (hv : args.toList.map (ev n e) = vl) : At R d As (gr fn kd n e ds (.inRegion ops (i :: rest) :: k) cs) := by
 refine C.gen ho hw fun H s => ?_
 unfold execOp
 simp only
 refine okS_do ?_
 have hv' : args.map (ev n e) = vl.toArray := by rw [← hv, ← Array.toList_map, Array.toArray_toList]
 simp only [resolve, hf, Deferred.ofValue, hv']
 refine okS_do ?_
 show okS P B _ _ _ _
 simp only [Array.empty_append]
 show okS P B (invoke (.fn (.func f) #[]) vl.toArray) H d _
 unfold invoke
 simp only [Array.append_empty]
 unfold callFunc
 refine okS_do ?_
 show okS P B _ H d _
 simp only [program, okS]
 rw [b.func]
 simp only [b.name, b.body, if_true, Bool.false_eq_true, if_false]
 refine okS_do ?_
 simp only [mark, okS, markOk, deafBy, true_and]
 simp only [b.nx, b.fd]
 refine okS_do (okS_mono (fun v H' d' q => ?_) (h H s))
 obtain ⟨As', s', q⟩ := q
 exact okS_pure ⟨As', s', q⟩
variable {f : FuncId} {fu : Func} {fo : Operand} {args : Array Operand} {ats : Array TypeId} {a : Addr} {b off : Nat} {c : Array Value} {el : TypeId}
theorem Closed.xDis (C : Closed P main B R) [x : Ext_ P f fu (fun _ => do mark .disable; pure Extern.Race.none_)] {vl : List Value} (ho : nthO ops i = some ⟨dst, .call ⟨.value fo, args, ats⟩, ty, pos, af, gd⟩) (h : At R (d + 1) As (gr fn kd n (putO e dst (.tuple #[])) ds (.inRegion ops rest :: k) cs))
  (hw : wantB ops n e gd = true := by rfl) (hf : ev n e fo = .func (.func f) #[] #[] := by rfl) (hv : args.toList.map (ev n e) = vl := by rfl) : At R d As (gr fn kd n e ds (.inRegion ops (i :: rest) :: k) cs) :=
 C.xt (f := f) (vl := vl) (fun H s => by
  refine okS_do ?_
  simp only [mark, okS, markOk, deafBy, true_and]
  exact okS_pure ⟨As, s, h⟩) ho hw hf hv
theorem Closed.xEna (C : Closed P main B R) [x : Ext_ P f fu (fun _ => do mark .enable; pure Extern.Race.none_)] {vl : List Value} (ho : nthO ops i = some ⟨dst, .call ⟨.value fo, args, ats⟩, ty, pos, af, gd⟩) (h : At R (d - 1) As (gr fn kd n (putO e dst (.tuple #[])) ds (.inRegion ops rest :: k) cs))
  (hw : wantB ops n e gd = true := by rfl) (hf : ev n e fo = .func (.func f) #[] #[] := by rfl) (hv : args.toList.map (ev n e) = vl := by rfl) : At R d As (gr fn kd n e ds (.inRegion ops (i :: rest) :: k) cs) :=
 C.xt (f := f) (vl := vl) (fun H s => by
  refine okS_do ?_
  simp only [mark, okS, markOk, deafBy, true_and]
  exact okS_pure ⟨As, s, h⟩) ho hw hf hv
theorem Closed.xMk (C : Closed P main B R) {mk : Addr → Mark} [x : Ext_ P f fu (Extern.Race.marked mk)] {aS : List Value} (ho : nthO ops i = some ⟨dst, .call ⟨.value fo, args, ats⟩, ty, pos, af, gd⟩) (h : At R d As (gr fn kd n (putO e dst (.tuple #[])) ds (.inRegion ops rest :: k) cs))
  (hm : ∀ H, Sat As (hp H) → markOk B H (mk a)) (hd : deafBy (mk a) d = d := by rfl) (hw : wantB ops n e gd = true := by rfl) (hf : ev n e fo = .func (.func f) #[] #[] := by rfl) (hv : args.toList.map (ev n e) = .pointer (some a) :: aS := by rfl) : At R d As (gr fn kd n e ds (.inRegion ops (i :: rest) :: k) cs) :=
 C.xt (f := f) (vl := .pointer (some a) :: aS) (fun H s => by
  unfold Extern.Race.marked
  refine okS_do (okS_pure ?_)
  refine okS_do ?_
  refine ⟨hm H s, ?_⟩
  rw [hd]
  exact okS_pure ⟨As, s, h⟩) ho hw hf hv
variable {kk : IntKind} {z y z' : Int}
theorem okS_read {H : Array Obj} {Q : Value → Array Obj → Nat → Prop} (h1 : hp H b = some (.cells c el (0, 0))) (h3 : c[off]? = some (.int kk z)) (q : Q (.int kk z) H d) : okS P B (Extern.Atomic.read (.int kk) ⟨b, off, none⟩) H d Q := by
 unfold Extern.Atomic.read
 refine okS_do (okS_load h1 rfl h3 (fun h => by cases h) ?_)
 simp only [if_true]
 exact okS_pure q
theorem Closed.xLd (C : Closed P main B R) [x : Ext_ P f fu (Extern.Atomic.loadT (.int kk))] (ho : nthO ops i = some ⟨dst, .call ⟨.value fo, args, ats⟩, ty, pos, af, gd⟩) (h : At R d As (gr fn kd n (putO e dst (.int kk z)) ds (.inRegion ops rest :: k) cs))
  (hh : Kn As b (.cells c el (0, 0)) := by apply Has.kn; (repeat (first | with_reducible exact Has.head | with_reducible apply Has.tail)); done) (hc : c[off]? = some (.int kk z) := by rfl) (hw : wantB ops n e gd = true := by rfl) (hf : ev n e fo = .func (.func f) #[] #[] := by rfl) (hv : args.toList.map (ev n e) = [.pointer (some ⟨b, off, none⟩)] := by rfl) : At R d As (gr fn kd n e ds (.inRegion ops (i :: rest) :: k) cs) :=
 C.xt (f := f) (vl := [.pointer (some ⟨b, off, none⟩)]) (fun H s => by
  show okS P B (Extern.Atomic.loadT (.int kk) #[.pointer (some ⟨b, off, none⟩)]) H d _
  unfold Extern.Atomic.loadT
  refine okS_do (okS_pure ?_)
  exact okS_read (hh _ s) hc ⟨As, s, h⟩) ho hw hf hv
theorem okS_viewAt {H : Array Obj} {Q : Option (Addr × TypeId) → Array Obj → Nat → Prop} (h1 : hp H b = some (.cells c el (0, 0))) (q : Q none H d) : okS P B (viewAt b) H d Q := by
 unfold viewAt
 refine okS_do ?_
 have h1' : H[b]? = some (.cells c el (0, 0)) := h1
 simp only [shape, okS, shapeH, h1']
 exact q
theorem okS_frozen0 {H : Array Obj} {Q : Bool → Array Obj → Nat → Prop} (h1 : hp H b = some (.cells c el (0, 0))) (q : Q false H d) : okS P B (Extern.Atomic.touchesFrozen ⟨b, off, none⟩) H d Q := by
 unfold Extern.Atomic.touchesFrozen
 refine okS_do (okS_viewAt h1 ?_)
 have h1' : H[b]? = some (.cells c el (0, 0)) := h1
 simp only [frozen, okS, frozenH, h1']
 simpa using q
theorem Closed.xCasT (C : Closed P main B R) [x : Ext_ P f fu (Extern.Atomic.casT (.int kk))] (ho : nthO ops i = some ⟨dst, .call ⟨.value fo, args, ats⟩, ty, pos, af, gd⟩) (h : At R d As' (gr fn kd n (putO e dst (.bool true)) ds (.inRegion ops rest :: k) cs))
  (hv : args.toList.map (ev n e) = [.pointer (some ⟨b, off, none⟩), .int kk z, .int kk y] := by rfl) {c' : Array Value} (hu : Upd b (.cells c el (0, 0)) (.cells c' el (0, 0)) As As' := by repeat (first | with_reducible exact Upd.head | with_reducible apply Upd.tail)) (hc : c[off]? = some (.int kk z) := by rfl) (hcc : c.setIfInBounds off (.int kk y) = c' := by first | (simp only [Nat.zero_add, Nat.reduceAdd, List.setIfInBounds_toArray, List.set_cons_succ, List.set_cons_zero]; done) | (simp only [Nat.zero_add, Nat.reduceAdd, List.setIfInBounds_toArray, List.set_cons_succ, List.set_cons_zero]; rfl) | rfl)
  (hr : B.rd b el off = false := by rfl) (hw : wantB ops n e gd = true := by rfl) (hf : ev n e fo = .func (.func f) #[] #[] := by rfl) : At R d As (gr fn kd n e ds (.inRegion ops (i :: rest) :: k) cs) :=
 C.xt (f := f) (vl := [.pointer (some ⟨b, off, none⟩), .int kk z, .int kk y]) (fun H s => by
  subst hcc
  have hh := hu.has.get s
  show okS P B (Extern.Atomic.casT (.int kk) #[.pointer (some ⟨b, off, none⟩), .int kk z, .int kk y]) H d _
  unfold Extern.Atomic.casT
  refine okS_do (okS_pure ?_)
  refine okS_do (okS_frozen0 hh ?_)
  simp only [Bool.false_eq_true, if_false]
  refine okS_do (okS_read hh hc ?_)
  refine okS_do (okS_pure ?_)
  simp only [beq_self_eq_true, if_true]
  refine okS_do ?_
  show okS P B (store _ _ _) H d _
  refine ⟨rfl, c, el, hh, rfl, (Array.getElem?_eq_some_iff.1 hc).1, hr, fun z => (by cases z), ?_⟩
  exact okS_pure ⟨As', hu.set s, h⟩) ho hw hf hv
theorem Closed.xAdd (C : Closed P main B R) [x : Ext_ P f fu (Extern.Atomic.update (Op.intArith .add) kk true)] (ho : nthO ops i = some ⟨dst, .call ⟨.value fo, args, ats⟩, ty, pos, af, gd⟩) (h : At R d As' (gr fn kd n (putO e dst (.int kk z')) ds (.inRegion ops rest :: k) cs))
  (hv : args.toList.map (ev n e) = [.pointer (some ⟨b, off, none⟩), .int kk y] := by rfl) {c' : Array Value} (hu : Upd b (.cells c el (0, 0)) (.cells c' el (0, 0)) As As' := by repeat (first | with_reducible exact Upd.head | with_reducible apply Upd.tail)) (hc : c[off]? = some (.int kk z) := by rfl) (hz : kk.wrap (z + y) = z' := by rfl) (hcc : c.setIfInBounds off (.int kk z') = c' := by first | (simp only [Nat.zero_add, Nat.reduceAdd, List.setIfInBounds_toArray, List.set_cons_succ, List.set_cons_zero]; done) | (simp only [Nat.zero_add, Nat.reduceAdd, List.setIfInBounds_toArray, List.set_cons_succ, List.set_cons_zero]; rfl) | rfl)
  (hr : B.rd b el off = false := by rfl) (hw : wantB ops n e gd = true := by rfl) (hf : ev n e fo = .func (.func f) #[] #[] := by rfl) : At R d As (gr fn kd n e ds (.inRegion ops (i :: rest) :: k) cs) :=
 C.xt (f := f) (vl := [.pointer (some ⟨b, off, none⟩), .int kk y]) (fun H s => by
  subst hcc hz
  have hh := hu.has.get s
  show okS P B (Extern.Atomic.update (Op.intArith .add) kk true #[.pointer (some ⟨b, off, none⟩), .int kk y]) H d _
  unfold Extern.Atomic.update
  refine okS_do (okS_pure ?_)
  refine okS_do (okS_read hh hc ?_)
  refine okS_do (okS_pure ?_)
  refine okS_do (okS_pure ?_)
  refine okS_do (okS_pure ?_)
  refine okS_do ?_
  show okS P B (store _ _ _) H d _
  refine ⟨rfl, c, el, hh, rfl, (Array.getElem?_eq_some_iff.1 hc).1, hr, fun z => (by cases z), ?_⟩
  exact okS_pure ⟨As', hu.set s, h⟩) ho hw hf hv
class Up (P : Program) (t : TypeId) : Prop where
 h : P.underlying t = some .unsafePointer
theorem Closed.cvp (C : Closed P main B R) {s1 s2 t1 : TypeId} {z : Nat} {x : Operand} {t' : Nat} [c1 : Pt P s1 t1] [c2 : Up P s2] [c3 : Cz P t1 z] (ho : nthO ops i = some ⟨some t', .convert s1 s2 x, ty, pos, af, gd⟩) (h : At R d As (gr fn kd n (put e t' (.pointer (some ⟨b, off, none⟩))) ds (.inRegion ops rest :: k) cs))
  (hz : z ≠ 0 := by decide) (hx : ev n e x = .pointer (some ⟨b, off, none⟩) := by rfl) (hh : Kn As b (.cells c el (0, 0)) := by apply Has.kn; (repeat (first | with_reducible exact Has.head | with_reducible apply Has.tail)); done) (hl : off < c.size := by first | decide | (simp; done)) (hw : wantB ops n e gd = true := by rfl) : At R d As (gr fn kd n e ds (.inRegion ops (i :: rest) :: k) cs) :=
 C.gen ho hw fun H s => by
  have hh := hh _ s
  have hH : H[b]? = some (.cells c el (0, 0)) := hh
  unfold execOp; simp only [hx]
  refine okS_do ?_
  unfold convert
  refine okS_do (pu_und c1.h B H d _ (okS_do (pu_und c2.h B H d _ ?_)))
  show okS P B (Conv.unsafePointer s1 s2 (.pointer (some ⟨b, off, none⟩))) H d _
  unfold Conv.unsafePointer
  refine okS_do (pu_und c1.h B H d _ (okS_do (pu_und c2.h B H d _ ?_)))
  simp only
  refine okS_do ?_
  unfold Conv.seenAt
  refine okS_do (okS_viewAt hh ?_)
  refine okS_pure ?_
  refine okS_do ?_
  unfold cellsIn
  refine okS_do ?_
  simp only [shape, okS, shapeH, hH]
  refine okS_pure ?_
  refine okS_do (pu_size B H d _ ?_)
  have e1 : ¬ (decide (off ≥ c.size) && (none : Option Nat).isNone) = true := by simp; omega
  simp only [e1, Bool.or_false, Bool.false_eq_true, if_false]
  rw [if_neg (by simp [hz, hl])]
  exact okS_pure (okS_pure ⟨As, s, h⟩)
end
end Go.Sl
end
section
set_option linter.unusedVariables false
namespace Go.Sl
open Go.Conc
def ev0 (P : Program) {α : Type} : Sem α → Option α
 | .pure a => some a
 | .program k => ev0 P (k P)
 | _ => none
theorem ev0_run {P : Program} {α : Type} {s : Sem α} {v : α} (h : ev0 P s = some v) (w : World) (es : Array Event) : s.runT P w es = (.ok v w, es) := by
 induction s generalizing es with
 | pure a => obtain rfl := Option.some.inj h; rfl
 | program k ih => exact ih P h es
 | _ => cases h
theorem ev0_bind {P : Program} {α β : Type} {s : Sem α} {f : α → Sem β} {a : α} (h : ev0 P s = some a) : ev0 P (s.bind f) = ev0 P (f a) := by
 induction s with
 | pure b => obtain rfl := Option.some.inj h; rfl
 | program k ih => exact ih P h
 | _ => cases h
theorem ev0_do {P : Program} {α β : Type} {s : Sem α} {f : α → Sem β} {a : α} {b : β} (h : ev0 P s = some a) (k : ev0 P (f a) = some b) : ev0 P (s >>= f) = some b := (ev0_bind h).trans k
structure Mt (P : Program) (main : Bool) (Z : World → Prop) (W : Nat → Goroutine → Prop) : Prop where
 s : ∀ (q : Nat) (g g' : Goroutine), g.status = .running → (∀ w, Z w → stepG P main g w = .go g' w #[]) → W q g' → W (q + 1) g
 mono : ∀ (q m : Nat) (g : Goroutine), W q g → q ≤ m → W m g
section
variable {P : Program} {main : Bool} {Z : World → Prop} {W : Nat → Goroutine → Prop} {q : Nat}
variable {fn : FuncId} {kd : Kd} {n : Nat} {e : Nat → Value} {ds : List Deferred} {k : List Item} {cs : List Frame}
theorem Mt.ctl_ok (M : Mt P main Z W) : ∀ (m : Nat) (k : List Item), W q (gr fn kd n e ds (ctl m k) cs) → W (q + m) (gr fn kd n e ds k cs)
 | 0, _, h => h
 | m + 1, k, h => by
  unfold ctl at h
  split at h
  ·exact M.s _ _ _ rfl (fun w _ => by simp [gr, frm, stepG, stepG.exec]) (M.ctl_ok m _ h)
  ·exact M.s _ _ _ rfl (fun w _ => by simp [gr, frm, stepG, stepG.exec]) (M.ctl_ok m _ h)
  ·exact M.s _ _ _ rfl (fun w _ => by simp [gr, frm, stepG, stepG.exec]) (M.ctl_ok m _ h)
  ·rename_i c k'
   split at h
   ·rename_i hc; have := ck_inv hc; simp only at this; rw [this]; exact M.s _ _ _ rfl (fun w _ => by simp [gr, frm, stepG, stepG.exec]) (M.ctl_ok m _ h)
   ·rename_i hc; obtain ⟨l, e⟩ := ck_inv hc; rw [e]; exact M.s _ _ _ rfl (fun w _ => by simp [gr, frm, stepG, stepG.exec]) (M.ctl_ok m _ h)
   ·rename_i hc; have := ck_inv hc; simp only at this; rw [this]; exact M.s _ _ _ rfl (fun w _ => by simp [gr, frm, stepG, stepG.exec]) (M.ctl_ok m _ h)
   ·rename_i hc; have := ck_inv hc; simp only at this; rw [this]; exact M.s _ _ _ rfl (fun w _ => by simp [gr, frm, stepG, stepG.exec]) (M.ctl_ok m _ h)
   ·rename_i hc; have := ck_inv hc; simp only at this; rw [this]; exact M.s _ _ _ rfl (fun w _ => by simp [gr, frm, stepG, stepG.exec]) (M.ctl_ok m _ h)
   ·rename_i hc
    split at h
    ·rename_i k'' hx
     have := ck_inv hc; simp only at this; rw [this]; exact M.s _ _ _ rfl (fun w _ => by simp [gr, frm, stepG, stepG.exec, hx]) (M.ctl_ok m _ h)
    ·exact M.mono _ _ _ h (by omega)
   ·exact M.mono _ _ _ h (by omega)
  ·exact M.mono _ _ _ h (by omega)
theorem Mt.go (M : Mt P main Z W) {k' : List Item} (h : W q (gr fn kd n e ds k' cs)) (hk : ctl 60 k = k' := by rfl) : W (q + 60) (gr fn kd n e ds k cs) := M.ctl_ok 60 k (hk ▸ h)
theorem Mt.cond (M : Mt P main Z W) {c : Operand} {x y : Code} {t : Bool} (hc : ev n e c = .bool t) (h : W q (gr fn kd n e ds (.code (if t then x else y) :: k) cs)) : W (q + 1) (gr fn kd n e ds (.code (.cond c x y) :: k) cs) :=
 M.s _ _ _ rfl (fun w _ => by
  have := eval_frm fn kd n e ds (.code (.cond c x y) :: k)
  simp only [frm] at this
  simp [gr, frm, stepG, stepG.exec, this, hc]) h
theorem Mt.tru (M : Mt P main Z W) {c : Code} {k' : List Item} (h : W q (gr fn kd n e ds k' cs)) (hc : ck c = .cond := by rfl) (hv : ev n e (cC c) = .bool true := by rfl) (hk : ctl 60 (.code (cT c) :: k) = k' := by rfl) : W (q + 60 + 1) (gr fn kd n e ds (.code c :: k) cs) := by
 have := ck_inv hc
 simp only at this
 rw [this]
 exact M.cond hv (M.ctl_ok 60 _ (hk ▸ h))
theorem Mt.fls (M : Mt P main Z W) {c : Code} {k' : List Item} (h : W q (gr fn kd n e ds k' cs)) (hc : ck c = .cond := by rfl) (hv : ev n e (cC c) = .bool false := by rfl) (hk : ctl 60 (.code (cE c) :: k) = k' := by rfl) : W (q + 60 + 1) (gr fn kd n e ds (.code c :: k) cs) := by
 have := ck_inv hc
 simp only at this
 rw [this]
 exact M.cond hv (M.ctl_ok 60 _ (hk ▸ h))
theorem Mt.rg (M : Mt P main Z W) {c : Code} (l : List Nat) (h : W q (gr fn kd n e ds (.inRegion (cO c) l :: k) cs)) (hc : ck c = .region := by rfl) (hl : List.range (cO c).size = l := by rfl) : W (q + 1) (gr fn kd n e ds (.code c :: k) cs) := by
 have := ck_inv hc
 simp only at this
 rw [this]
 exact M.s _ _ _ rfl (fun w _ => by simp [gr, frm, stepG, stepG.exec]) (hl ▸ h)
theorem Mt.lp (M : Mt P main Z W) {c : Code} (h : W q (gr fn kd n e ds (.code (cB c) :: .inLoop (cB c) :: k) cs)) (hc : ck c = .loop := by rfl) : W (q + 1) (gr fn kd n e ds (.code c :: k) cs) := by
 have := ck_inv hc
 simp only at this
 rw [this]
 exact M.s _ _ _ rfl (fun w _ => by simp [gr, frm, stepG, stepG.exec]) h
theorem Mt.ilp (M : Mt P main Z W) {c : Code} (h : W q (gr fn kd n e ds (.code c :: .inLoop c :: k) cs)) : W (q + 1) (gr fn kd n e ds (.inLoop c :: k) cs) :=
 M.s _ _ _ rfl (fun w _ => by simp [gr, frm, stepG, stepG.exec]) h
variable {ops : Array Oper} {i : Nat} {rest : List Nat} {dst : Option Nat} {t : Nat} {ty : TypeId} {pos : String} {af : Array Edge} {gd : Option (Nat × Bool)} {x y z : Operand} {v u : Value}
theorem stepG_op {o : Oper} (ho : nthO ops i = some o) (hw : wantB ops n e o.guard = true) (w : World) : stepG P main (gr fn kd n e ds (.inRegion ops (i :: rest) :: k) cs) w = stepG.apply P true (frm fn kd n e ds (.inRegion ops (i :: rest) :: k)) cs none (execOp (ev n e) o) w := by
 rw [← nthO_eq] at ho
 rw [← wanted_eq] at hw
 have he := eval_frm fn kd n e ds (.inRegion ops (i :: rest) :: k)
 simp only [frm] at he
 simp [gr, frm, stepG, stepG.exec, stepG.oper, Frame.oper?, ho, hw, he]
theorem stepG_val {o : Oper} (ho : nthO ops i = some o) (hw : wantB ops n e o.guard = true) (hy : ev0 P (execOp (ev n e) o) = some (.value v)) (w : World) : stepG P main (gr fn kd n e ds (.inRegion ops (i :: rest) :: k) cs) w = .go (gr fn kd n (putO e o.dst v) ds (.inRegion ops rest :: k) cs) w #[] := by
 rw [stepG_op ho hw]
 have r := ev0_run hy w #[]
 have hkb := kd.early
 simp only [stepG.apply, r, if_true]
 rw [finish_frm (by rw [nthO_eq]; exact ho)]
 simp [frm, GStep.after, gr, seen_none, hkb]
theorem stepG_def {o : Oper} {x : Deferred} (ho : nthO ops i = some o) (hw : wantB ops n e o.guard = true) (hy : ev0 P (execOp (ev n e) o) = some (.defer x)) (w : World) : stepG P main (gr fn kd n e ds (.inRegion ops (i :: rest) :: k) cs) w = .go (gr fn kd n (putO e o.dst undef) (x :: ds) (.inRegion ops rest :: k) cs) w #[] := by
 rw [stepG_op ho hw]
 have r := ev0_run hy w #[]
 have hkb := kd.early
 have hf := finish_frm (fn := fn) (kd := kd) (n := n) (e := e) (ds := x :: ds) (k := k) (rest := rest) (o := o) (by rw [nthO_eq]; exact ho) undef
 simp only [frm] at hf
 simp only [stepG.apply, r, if_true, frm]
 rw [hf]
 simp [frm, hkb, GStep.after, gr, seen_none]
theorem stepG_ent {o : Oper} {f : FuncId} {args : Array Value} (ho : nthO ops i = some o) (hw : wantB ops n e o.guard = true) (hy : ev0 P (execOp (ev n e) o) = some (.enter f args)) (w : World) : stepG P main (gr fn kd n e ds (.inRegion ops (i :: rest) :: k) cs) w = .go (enterG P f args .nor (frm fn kd n e ds (.inRegion ops (i :: rest) :: k) :: cs)) w #[] := by
 rw [stepG_op ho hw]
 have r := ev0_run hy w #[]
 have hkb := kd.early
 simp only [stepG.apply, r, if_true]
 simp [frm, hkb, GStep.after, enterG, seen_none]
 rfl
theorem stepG_comm {o : Oper} {cases : Array CommCase} {sh : CommShape} {bl : Bool} (ho : nthO ops i = some o) (hw : wantB ops n e o.guard = true) (hy : ev0 P (execOp (ev n e) o) = some (.comm cases bl sh)) (w : World) : stepG P main (gr fn kd n e ds (.inRegion ops (i :: rest) :: k) cs) w = .comm (gr fn kd n e ds (.inRegion ops (i :: rest) :: k) cs) cases bl sh w #[] := by
 rw [stepG_op ho hw]
 have r := ev0_run hy w #[]
 have hkb := kd.early
 simp only [stepG.apply, r, if_true]
 simp [frm, hkb, GStep.after, gr, seen_none]
def child (P : Program) (d : Deferred) : Goroutine := { frame := { (default : Frame) with fn := P.funcs.size, defers := [d], mode := .panicking [goexitEntry] }, callers := [], status := .running, dying := none }
theorem stepG_spawn {o : Oper} {x : Deferred} (ho : nthO ops i = some o) (hw : wantB ops n e o.guard = true) (hy : ev0 P (execOp (ev n e) o) = some (.spawn x)) (hx : ∃ f cap, x.target = .fn f cap) (w : World) : stepG P main (gr fn kd n e ds (.inRegion ops (i :: rest) :: k) cs) w = .spawn (gr fn kd n (putO e o.dst undef) ds (.inRegion ops rest :: k) cs) (child P x) w #[] := by
 rw [stepG_op ho hw]
 have r := ev0_run hy w #[]
 have hkb := kd.early
 simp only [stepG.apply, r, if_true]
 rw [finish_frm (by rw [nthO_eq]; exact ho)]
 obtain ⟨tg, ar⟩ := x
 obtain ⟨f, cap, rfl⟩ : ∃ f cap, tg = .fn f cap := hx
 simp [frm, hkb, GStep.after, gr, seen_none, child]
theorem Mt.op (M : Mt P main Z W) {o : Oper} (ho : nthO ops i = some o) (hw : wantB ops n e o.guard = true) (hy : ev0 P (execOp (ev n e) o) = some (.value v)) (h : W q (gr fn kd n (putO e o.dst v) ds (.inRegion ops rest :: k) cs)) : W (q + 1) (gr fn kd n e ds (.inRegion ops (i :: rest) :: k) cs) :=
 M.s _ _ _ rfl (fun w _ => stepG_val ho hw hy w) h
theorem Mt.no (M : Mt P main Z W) {op : Op} (ho : nthO ops i = some ⟨dst, op, ty, pos, af, gd⟩) (h : W q (gr fn kd n (putO e dst undef) ds (.inRegion ops rest :: k) cs)) (hw : wantB ops n e gd = false := by rfl) : W (q + 1) (gr fn kd n e ds (.inRegion ops (i :: rest) :: k) cs) := by
 refine M.s _ _ _ rfl (fun w _ => ?_) h
 rw [← nthO_eq] at ho
 have hw' : Region.wanted (⟨dst, op, ty, pos, af, gd⟩ : Oper) (yielded ops (tm n e)) = false := by rw [wanted_eq]; exact hw
 have hf := finish_frm (fn := fn) (kd := kd) (n := n) (e := e) (ds := ds) (k := k) (rest := rest) ho undef
 simp only [frm] at hf
 simp only [gr, frm, stepG, stepG.exec, ho, Option.map_some, Option.getD_some, hw', Bool.false_eq_true, if_false, hf]
theorem Mt.mv (M : Mt P main Z W) (ho : nthO ops i = some ⟨some t, .move x, ty, pos, af, gd⟩) (h : W q (gr fn kd n (put e t v) ds (.inRegion ops rest :: k) cs)) (hx : ev n e x = v := by conv => { lhs; whnf }) (hw : wantB ops n e gd = true := by rfl) : W (q + 1) (gr fn kd n e ds (.inRegion ops (i :: rest) :: k) cs) :=
 M.op ho hw (by unfold execOp; simp only [hx]; rfl) h
theorem Mt.asg (M : Mt P main Z W) (ho : nthO ops i = some ⟨some t, .assign x, ty, pos, af, gd⟩) (h : W q (gr fn kd n (put e t v) ds (.inRegion ops rest :: k) cs)) (hx : ev n e x = v := by conv => { lhs; whnf }) (hw : wantB ops n e gd = true := by rfl) : W (q + 1) (gr fn kd n e ds (.inRegion ops (i :: rest) :: k) cs) :=
 M.op ho hw (by unfold execOp; simp only [hx]; rfl) h
theorem Mt.nc (M : Mt P main Z W) {a : Addr} (ho : nthO ops i = some ⟨some t, .nilCheck x, ty, pos, af, gd⟩) (h : W q (gr fn kd n (put e t (.pointer (some a))) ds (.inRegion ops rest :: k) cs)) (hx : ev n e x = .pointer (some a) := by rfl) (hw : wantB ops n e gd = true := by rfl) : W (q + 1) (gr fn kd n e ds (.inRegion ops (i :: rest) :: k) cs) :=
 M.op ho hw (by unfold execOp; simp only [hx]; rfl) h
theorem ev0_und {t : TypeId} {u : TypeDesc} (h : P.underlying t = some u) : ev0 P (underlying t) = some u := by
 unfold underlying; refine ev0_do (a := P) rfl ?_; simp only [h]; rfl
theorem ev0_info {t : TypeId} {i : TypeInfo} (h : P.info? t = some i) : ev0 P (typeInfo t) = some i := by
 unfold typeInfo; refine ev0_do (a := P) rfl ?_; simp only [h]; rfl
theorem ev0_size {t : TypeId} {z : Nat} (h : ∃ i, P.info? t = some i ∧ i.size = z) : ev0 P (sizeOf t) = some z := by
 obtain ⟨i, h, rfl⟩ := h
 unfold sizeOf; exact ev0_do (ev0_info h) rfl
theorem ev0_zero {t : TypeId} {v : Value} (h : ∃ i, P.info? t = some i ∧ i.zero = some v) : ev0 P (zeroValue t) = some v := by
 obtain ⟨i, h, hz⟩ := h
 unfold zeroValue; refine ev0_do (ev0_info h) ?_; rw [hz]; rfl
theorem Mt.fa (M : Mt P main Z W) {s f o b off : Nat} [c : Fl P s f o] (ho : nthO ops i = some ⟨some t, .fieldAddr s x f, ty, pos, af, gd⟩) (h : W q (gr fn kd n (put e t (.pointer (some ⟨b, off + o, none⟩))) ds (.inRegion ops rest :: k) cs))
  (hx : ev n e x = .pointer (some ⟨b, off, none⟩) := by rfl) (hw : wantB ops n e gd = true := by rfl) : W (q + 1) (gr fn kd n e ds (.inRegion ops (i :: rest) :: k) cs) :=
 M.op ho hw (by
  obtain ⟨fs, fl, z, h1, h2, rfl, ⟨inf, h4, h5⟩, h6⟩ := c.h
  unfold execOp; simp only [hx, Instr.fieldAt]
  refine ev0_do (a := .pointer (some ⟨b, off + fl.offset, none⟩)) (ev0_do (ev0_und h1) ?_) rfl
  simp only [h2, Instr.sureAddr]
  refine ev0_do (a := (⟨b, off, none⟩ : Addr)) rfl ?_
  unfold fieldPlace
  refine ev0_do (a := ⟨b, off + fl.offset, none⟩) ?_ rfl
  refine ev0_do (ev0_size ⟨inf, h4, h5⟩) ?_
  rw [if_neg h6, add_of]; rfl) h
theorem Mt.ext (M : Mt P main Z W) {vs : Array Value} {ix : Nat} (ho : nthO ops i = some ⟨some t, .extract x ix, ty, pos, af, gd⟩) (h : W q (gr fn kd n (put e t v) ds (.inRegion ops rest :: k) cs))
  (hx : ev n e x = .tuple vs := by rfl) (hv : vs[ix]? = some v := by rfl) (hw : wantB ops n e gd = true := by rfl) : W (q + 1) (gr fn kd n e ds (.inRegion ops (i :: rest) :: k) cs) :=
 M.op ho hw (by unfold execOp; simp only [hx, Instr.extract, hv]; rfl) h
theorem Mt.cv (M : Mt P main Z W) {k1 k2 : IntKind} {s1 s2 : TypeId} {p r : Int} [c1 : Ik P s1 k1] [c2 : Ik P s2 k2] (ho : nthO ops i = some ⟨some t, .convert s1 s2 x, ty, pos, af, gd⟩) (h : W q (gr fn kd n (put e t (.int k2 r)) ds (.inRegion ops rest :: k) cs))
  (hx : ev n e x = .int k1 p := by rfl) (hr : k2.wrap p = r := by rfl) (hw : wantB ops n e gd = true := by rfl) : W (q + 1) (gr fn kd n e ds (.inRegion ops (i :: rest) :: k) cs) :=
 M.op ho hw (by
  unfold execOp; simp only [hx]
  refine ev0_do (a := .int k2 r) ?_ rfl
  unfold convert
  refine ev0_do (ev0_und c1.h) (ev0_do (ev0_und c2.h) ?_)
  simp only [Conv.intToInt, hr]; rfl) h
theorem Mt.bo (M : Mt P main Z W) {op : BinOp} {tt t2 : TypeId} {k1 k2 : IntKind} {p r : Int} (ho : nthO ops i = some ⟨some t, .binOp op tt x y t2, ty, pos, af, gd⟩) (h : W q (gr fn kd n (put e t v) ds (.inRegion ops rest :: k) cs))
  (hx : ev n e x = .int k1 p := by rfl) (hy : ev n e y = .int k2 r := by rfl) (hv : ev0 P (binOp op tt (.int k1 p) (.int k2 r)) = some v := by rfl) (hw : wantB ops n e gd = true := by rfl) : W (q + 1) (gr fn kd n e ds (.inRegion ops (i :: rest) :: k) cs) :=
 M.op ho hw (by
  unfold execOp; simp only [hx, hy]
  refine ev0_do (a := v) ?_ rfl
  refine ev0_do (a := ()) ?_ hv
  unfold eqGuard
  cases op <;> rfl) h
theorem Mt.pk (M : Mt P main Z W) {b : Bool} (ho : nthO ops i = some ⟨some t, .pick x y z, ty, pos, af, gd⟩) (h : W q (gr fn kd n (put e t v) ds (.inRegion ops rest :: k) cs)) (hx : ev n e x = .bool b := by rfl) (hy : (if b then ev n e y else ev n e z) = v := by conv => { lhs; whnf }) (hw : wantB ops n e gd = true := by rfl) : W (q + 1) (gr fn kd n e ds (.inRegion ops (i :: rest) :: k) cs) :=
 M.op ho hw (by unfold execOp; simp only [hx]; cases b <;> (subst hy; rfl)) h
theorem Mt.cvp (M : Mt P main Z W) {s1 s2 t1 : TypeId} {z : Nat} {ad : Addr} [c1 : Pt P s1 t1] [c2 : Up P s2] [c3 : Cz P t1 z] (hZ : ∀ w, Z w → ∃ v, w.cell? ad = some v) (ho : nthO ops i = some ⟨some t, .convert s1 s2 x, ty, pos, af, gd⟩) (h : W q (gr fn kd n (put e t (.pointer (some ad))) ds (.inRegion ops rest :: k) cs))
  (hz : z ≠ 0 := by decide) (hx : ev n e x = .pointer (some ad) := by rfl) (hw : wantB ops n e gd = true := by rfl) : W (q + 1) (gr fn kd n e ds (.inRegion ops (i :: rest) :: k) cs) := by
 refine M.s _ _ _ rfl (fun w hw' => ?_) h
 obtain ⟨v, hv⟩ := hZ w hw'
 obtain ⟨inf, hi, hz'⟩ := c3.h
 have hsz : (P.info? t1).map (fun i => decide (i.size = 0)) = some false := by rw [hi]; simp [hz', hz]
 rw [stepG_op ho hw]
 have key : (execOp (ev n e) ⟨some t, .convert s1 s2 x, ty, pos, af, gd⟩).runT P w #[] = (.ok (.value (.pointer (some ad))) w, #[]) := by
  have k2 : (convert s1 s2 (.pointer (some ad))).runT P w #[] = (.ok (.pointer (some ad)) w, #[]) := Prod.ext ((Sem.runT_fst P _ w #[]).trans (run_convert_to_unsafe c1.h c2.h hsz hv)) (events_convert_to_unsafe c1.h c2.h hsz hv #[])
  unfold execOp; simp only [hx]
  show ((convert s1 s2 (.pointer (some ad))).bind fun v => Sem.pure (Next.value v)).runT P w #[] = _
  rw [Sem.runT_bind', k2]; rfl
 have hkb := kd.early
 simp only [stepG.apply, key, if_true]
 rw [finish_frm (by rw [nthO_eq]; exact ho)]
 simp [frm, GStep.after, gr, hkb, putO, seen_none]
theorem ev0_callFunc {f : FuncId} {fu : Func} {c : Code} {nf : Nat} [b : Body P f fu c nf] (args : Array Value) : ev0 P (callFunc f args) = some (.enter f args) := by
 unfold callFunc
 refine ev0_do (a := P) rfl ?_
 rw [b.func]
 simp only [b.name, b.body, Option.isNone_some, Bool.false_eq_true, if_false]
 rfl
theorem Mt.cal (M : Mt P main Z W) {f : FuncId} {fu : Func} {c : Code} {nf : Nat} [b : Body P f fu c nf] {fo : Operand} {args : Array Operand} {ats : Array TypeId} {vl : List Value} (ho : nthO ops i = some ⟨dst, .call ⟨.value fo, args, ats⟩, ty, pos, af, gd⟩)
  (h : W q (gr f .nor nf (argE vl.toArray) [] [.code c] (frm fn kd n e ds (.inRegion ops (i :: rest) :: k) :: cs)))
  (hw : wantB ops n e gd = true := by rfl) (hf : ev n e fo = .func (.func f) #[] #[] := by rfl) (hv : args.toList.map (ev n e) = vl := by rfl) (hn : Nat.ble vl.length nf = true := by rfl) : W (q + 1) (gr fn kd n e ds (.inRegion ops (i :: rest) :: k) cs) := by
 have hv' : args.map (ev n e) = vl.toArray := by rw [← hv, ← Array.toList_map, Array.toArray_toList]
 refine M.s _ _ _ rfl (fun w _ => stepG_ent (f := f) (args := vl.toArray) ho hw (by
  unfold execOp
  simp only
  refine ev0_do (a := ⟨.fn (.func f) #[], vl.toArray⟩) ?_ ?_
  ·unfold resolve
   simp only [hf, Deferred.ofValue, hv', Array.empty_append]; rfl
  ·show ev0 P (callFunc f (vl.toArray ++ #[])) = _
   rw [Array.append_empty]; exact ev0_callFunc _) w) ?_
 have := enterG_eq (P := P) (kd := .nor) (args := vl.toArray) (cs := frm fn kd n e ds (.inRegion ops (i :: rest) :: k) :: cs) b.func b.body (by rw [b.tmps]; exact Nat.le_of_ble_eq_true (by simpa using hn))
 rw [this, b.tmps]
 exact h
theorem Mt.dfr (M : Mt P main Z W) {f : FuncId} {fo : Operand} {args : Array Operand} {ats : Array TypeId} {vl : List Value} (ho : nthO ops i = some ⟨dst, .defer ⟨.value fo, args, ats⟩, ty, pos, af, gd⟩)
  (h : W q (gr fn kd n (putO e dst undef) (⟨.fn (.func f) #[], vl.toArray⟩ :: ds) (.inRegion ops rest :: k) cs))
  (hw : wantB ops n e gd = true := by rfl) (hf : ev n e fo = .func (.func f) #[] #[] := by rfl) (hv : args.toList.map (ev n e) = vl := by rfl) : W (q + 1) (gr fn kd n e ds (.inRegion ops (i :: rest) :: k) cs) := by
 have hv' : args.map (ev n e) = vl.toArray := by rw [← hv, ← Array.toList_map, Array.toArray_toList]
 refine M.s _ _ _ rfl (fun w _ => stepG_def (x := ⟨.fn (.func f) #[], vl.toArray⟩) ho hw (by
  unfold execOp
  simp only
  refine ev0_do (a := ⟨.fn (.func f) #[], vl.toArray⟩) ?_ rfl
  unfold resolve
  simp only [hf, Deferred.ofValue, hv', Array.empty_append]; rfl) w) h
theorem Mt.ret (M : Mt P main Z W) (h : W q (grR fn kd n e ds (.code .ret :: k) cs)) : W (q + 1) (gr fn kd n e ds (.code .ret :: k) cs) :=
 M.s _ _ _ rfl (fun w _ => by simp [gr, grR, frmR, frm, stepG, stepG.exec]) h
theorem Mt.fin (M : Mt P main Z W) (h : W q (grR fn kd n e ds [] cs)) : W (q + 1) (gr fn kd n e ds [] cs) :=
 M.s _ _ _ rfl (fun w _ => by simp [gr, grR, frmR, frm, stepG, stepG.exec]) h
theorem ev0_results {fu : Func} {v : Value} (h : resV fu n e = some v) : ev0 P (results fu (tm n e)) = some v := by
 have key : results fu (tm n e) = (pure v : Sem Value) := by
  unfold resV at h
  have hl : fu.results = fu.results.toList.toArray := by simp
  generalize fu.results.toList = l at h hl
  split at h <;> first | (cases h; done) | skip
  all_goals (simp only [Option.some.injEq] at h; subst h)
  all_goals simp [results, hl, ← tm_getD, -Array.getD_eq_getD_getElem?]
 rw [key]; rfl
theorem Mt.home (M : Mt P main Z W) {fu : Func} {cc : Code} {n' : Nat} [b : Body P fn fu cc n'] {kR : List Item} {c : Frame} {v : Value} (h : W q (backTo c cs v)) (hv : resV fu n e = some v := by rfl) : W (q + 1) (grR fn .nor n e [] kR (c :: cs)) :=
 M.s _ _ _ rfl (fun w _ => by
  have r := ev0_run (ev0_results (P := P) hv) w #[]
  simp only [grR, frmR, frm, stepG, unwind, b.func, r, doReturn, Kd.k]
  simp [GStep.after, backTo, seen_none]) h
theorem Mt.homeD (M : Mt P main Z W) {fu : Func} {cc : Code} {n' : Nat} [b : Body P fn fu cc n'] {kR : List Item} {c : Frame} {v : Value} (h : W q (backD c cs)) (hv : resV fu n e = some v := by rfl) (hc : c.mode = .returning ∨ c.mode = .panicking [goexitEntry] := by first | exact .inl rfl | exact .inr rfl) : W (q + 1) (grR fn .dfr n e [] kR (c :: cs)) :=
 M.s _ _ _ rfl (fun w _ => by
  have r := ev0_run (ev0_results (P := P) hv) w #[]
  simp only [grR, frmR, frm, stepG, unwind, b.func, r, doReturn, Kd.k]
  rcases hc with hc | hc <;> simp [GStep.after, backD, seen_none, hc, goexitEntry]) h
theorem Mt.dcall (M : Mt P main Z W) {f : FuncId} {fu : Func} {c : Code} {nf : Nat} [b : Body P f fu c nf] {cap args : Array Value} {todo : List Item} (h : W q (gr f .dfr nf (argE (args ++ cap)) [] [.code c] (frmR fn kd n e ds todo :: cs))) (hn : Nat.ble (args ++ cap).size nf = true := by rfl) : W (q + 1) (grR fn kd n e (⟨.fn (.func f) cap, args⟩ :: ds) todo cs) := by
 have e1 := enterG_eq (P := P) (kd := .dfr) (args := args ++ cap) (cs := frmR fn kd n e ds todo :: cs) b.func b.body (by rw [b.tmps]; exact Nat.le_of_ble_eq_true hn)
 refine M.s _ _ (enterG P f (args ++ cap) .dfr (frmR fn kd n e ds todo :: cs)) rfl (fun w _ => ?_) (by rw [e1, b.tmps]; exact h)
 have r := ev0_run (ev0_callFunc (P := P) (f := f) (args ++ cap)) w #[]
 simp only [grR, frmR, frm, stepG, unwind, callDeferred, invoke, r]
 simp [GStep.after, enterG, Kd.k, seen_none]
def base (P : Program) (ds : List Deferred) : Frame := { (default : Frame) with fn := P.funcs.size, defers := ds, mode := .panicking [goexitEntry] }
theorem Mt.child (M : Mt P main Z W) {f : FuncId} {fu : Func} {c : Code} {nf : Nat} [b : Body P f fu c nf] {cap args : Array Value} (h : W q (gr f .dfr nf (argE (args ++ cap)) [] [.code c] [base P []])) (hn : Nat.ble (args ++ cap).size nf = true := by rfl) : W (q + 1) (child P ⟨.fn (.func f) cap, args⟩) := by
 have e1 := enterG_eq (P := P) (kd := .dfr) (args := args ++ cap) (cs := [base P []]) b.func b.body (by rw [b.tmps]; exact Nat.le_of_ble_eq_true hn)
 refine M.s _ _ (enterG P f (args ++ cap) .dfr [base P []]) rfl (fun w _ => ?_) (by rw [e1, b.tmps]; exact h)
 have r := ev0_run (ev0_callFunc (P := P) (f := f) (args ++ cap)) w #[]
 simp only [Sl.child, stepG, unwind, callDeferred, invoke, r]
 simp [GStep.after, enterG, Kd.k, seen_none, base]
theorem quitsBase {d : Nat} (hd : d = 0) : QuitsD P 1 d (backD (base P []) []) := by
 refine .inr ⟨rfl, { frame := base P [], callers := [], status := .finished, dying := none }, #[], by simp, fun w => ?_, ⟨rfl, by rw [deafBehind_nil]; exact hd⟩⟩
 have h0 : (default : Frame).todo = [] := rfl
 simp [backD, base, stepG, unwind, Frame.catches, h0, goexitEntry]
end
theorem QuitsD.mono' {P : Program} : ∀ {n m d : Nat} {g : Goroutine}, QuitsD P n d g → n ≤ m → QuitsD P m d g
 | 0, 0, _, _, h, _ => h
 | 0, m + 1, _, _, h, _ => .inl h
 | n + 1, 0, _, _, _, hm => absurd hm (by omega)
 | n + 1, m + 1, _, _, h, hm => h.imp id fun ⟨h1, g', es, h2, h3, h4⟩ => ⟨h1, g', es, h2, h3, QuitsD.mono' h4 (by omega)⟩
theorem Cl.mono {P : Program} {G : Grp} : ∀ {n m : Nat} {x : St} {g : Goroutine}, Cl P G n x g → n ≤ m → Cl P G m x g
 | 0, _, _, _, h, _ => h.elim
 | n + 1, 0, _, _, _, hm => absurd hm (by omega)
 | n + 1, m + 1, x, g, h, hm => by
  obtain ⟨hs, h⟩ := h
  refine ⟨hs, ?_⟩
  rcases h with ⟨g', h1, h2⟩ | h
  ·exact .inl ⟨g', h1, Cl.mono h2 (by omega)⟩
  ·refine .inr ?_
   cases x with
   | rel => obtain ⟨g', h1, h2⟩ := h; exact ⟨g', h1, Cl.mono h2 (by omega)⟩
   | dis => obtain ⟨g', h1, h2⟩ := h; exact ⟨g', h1, Cl.mono h2 (by omega)⟩
   | add => obtain ⟨g', h1, h2, h3⟩ := h; exact ⟨g', h1, Cl.mono h2 (by omega), fun v wt a b c => QuitsD.mono' (h3 v wt a b c) (by omega)⟩
   | ld => obtain ⟨g', h1, h2⟩ := h; exact ⟨g', h1, Cl.mono h2 (by omega)⟩
   | sto => obtain ⟨g', h1, h2⟩ := h; exact ⟨g', h1, Cl.mono h2 (by omega)⟩
   | sem => obtain ⟨h0, g', h1, h2⟩ := h; exact ⟨h0, g', h1, QuitsD.mono' h2 (by omega)⟩
theorem Mt.quits {P : Program} {d : Nat} : Mt P false (fun _ => True) fun q g => QuitsD P q d g := ⟨fun q g g' hs h k => .inr ⟨hs, g', #[], by simp, fun w => h w trivial, by rw [deafBehind_nil]; exact k⟩, fun _ _ _ h hm => QuitsD.mono' h hm⟩
theorem Mt.cl {P : Program} {G : Grp} {x : St} : Mt P false (Gs G) fun q g => Cl P G q x g := ⟨fun q g g' hs h k => ⟨hs, .inl ⟨g', h, k⟩⟩, fun _ _ _ h hm => Cl.mono h hm⟩
theorem Mt.mw {P : Program} {G : Grp} {Fin : Goroutine → Prop} {x : MS} : Mt P true (Gs G) fun _ g => MW P G Fin x g := ⟨fun _ g g' hs h q => .mute hs h q, fun _ _ _ h _ => h⟩
theorem Mt.way {P : Program} {main : Bool} {s : SeatD} : Mt P main s.K fun q g => Way P main s q g := ⟨fun q g g' hs h k => .inr ⟨hs, fun w hw => ⟨g', #[], w.drawn, h w hw, by simp, k⟩⟩, fun _ _ _ h hm => Way.mono h hm⟩
def bs (fn : FuncId) (kd : Kd) : Frame := { (default : Frame) with fn := fn, kind := kd.k }
section
variable {P : Program} {main : Bool} {fn : FuncId} {kd : Kd} {n : Nat} {e : Nat → Value} {ds : List Deferred} {k : List Item} {cs : List Frame}
variable {ops : Array Oper} {i : Nat} {rest : List Nat} {dst : Option Nat} {t : Nat} {ty : TypeId} {pos : String} {af : Array Edge} {gd : Option (Nat × Bool)} {x y z : Operand}
variable {f : FuncId} {fu : Func} {args : Array Operand} {ats : Array TypeId}
theorem gr_at (todo : List Item) : gr fn kd n e ds todo cs = G ((bs fn kd).at ⟨tm n e, ds⟩ todo) cs := rfl
theorem act_put (v : Value) : (Act.put ⟨tm n e, ds⟩ dst v) = ⟨tm n (putO e dst v), ds⟩ := by
 unfold Act.put putO
 cases dst with
 | none => rfl
 | some d => simp only [tm_set]
theorem act_eval (x : Operand) : Act.eval ⟨tm n e, ds⟩ x = ev n e x := by
 cases x with
 | tmp t => simp only [Act.eval, ev, tm_getD]
 | _ => rfl
theorem bs_early : (bs fn kd).kind ≠ .early := by cases kd <;> (intro h; cases h)
theorem stepG_m0 (m : Mark) [b : Ext_ P f fu (fun _ => do mark m; pure Extern.Race.none_)] (ho : nthO ops i = some ⟨dst, .call ⟨.value (.func f), args, ats⟩, ty, pos, af, gd⟩) (hw : wantB ops n e gd = true) (hm : ∀ g, m ≠ .extern g) (w : World) :
  stepG P main (gr fn kd n e ds (.inRegion ops (i :: rest) :: k) cs) w = .go (gr fn kd n (putO e dst (.tuple #[])) ds (.inRegion ops rest :: k) cs) w #[evm m] := by
 rw [gr_at, gr_at, ← act_put]
 exact stepG_mark0 m hm (o := ⟨dst, .call ⟨.value (.func f), args, ats⟩, ty, pos, af, gd⟩) (by rw [nthO_eq]; exact ho) (by rw [wanted_eq]; exact hw) bs_early rfl b.func b.name b.body b.nx b.fd
theorem stepG_mA (mk : Addr → Mark) [b : Ext_ P f fu (Extern.Race.marked mk)] {ad : Addr} (ho : nthO ops i = some ⟨dst, .call ⟨.value (.func f), args, ats⟩, ty, pos, af, gd⟩) (hw : wantB ops n e gd = true) (hm : ∀ ad g, mk ad ≠ .extern g) (hx : (args.toList.map (ev n e))[0]? = some (.pointer (some ad))) (w : World) :
  stepG P main (gr fn kd n e ds (.inRegion ops (i :: rest) :: k) cs) w = .go (gr fn kd n (putO e dst (.tuple #[])) ds (.inRegion ops rest :: k) cs) w #[evm (mk ad)] := by
 rw [gr_at, gr_at, ← act_put]
 refine stepG_markAt mk hm (o := ⟨dst, .call ⟨.value (.func f), args, ats⟩, ty, pos, af, gd⟩) (by rw [nthO_eq]; exact ho) (by rw [wanted_eq]; exact hw) bs_early rfl b.func b.name b.body b.nx b.fd ?_
 have : (args.map (Act.eval ⟨tm n e, ds⟩)) = (args.toList.map (ev n e)).toArray := by
  rw [show Act.eval ⟨tm n e, ds⟩ = ev n e from funext act_eval, ← Array.toList_map, Array.toArray_toList]
 rw [this]; simpa using hx
theorem stepG_aL {kk : IntKind} [b : Ext_ P f fu (Extern.Atomic.loadT (.int kk))] {ad : Addr} {v : Int} (ho : nthO ops i = some ⟨dst, .call ⟨.value (.func f), #[x], ats⟩, ty, pos, af, gd⟩) (hw : wantB ops n e gd = true) (hx : ev n e x = .pointer (some ad)) {w : World} (hc : w.cell? ad = some (.int kk v)) :
  stepG P main (gr fn kd n e ds (.inRegion ops (i :: rest) :: k) cs) w = .go (gr fn kd n (putO e dst (.int kk v)) ds (.inRegion ops rest :: k) cs) w #[ar ad] := by
 rw [gr_at, gr_at, ← act_put]
 exact stepG_load_atomic (o := ⟨dst, .call ⟨.value (.func f), #[x], ats⟩, ty, pos, af, gd⟩) (by rw [nthO_eq]; exact ho) (by rw [wanted_eq]; exact hw) bs_early rfl b.func b.name b.body b.nx kk b.fd (by rw [act_eval]; exact hx) hc
theorem stepG_aS {kk : IntKind} [b : Ext_ P f fu Extern.Atomic.storeT] {ad : Addr} {v : Int} {u : Value} (ho : nthO ops i = some ⟨dst, .call ⟨.value (.func f), #[x, y], ats⟩, ty, pos, af, gd⟩) (hw : wantB ops n e gd = true) (hx : ev n e x = .pointer (some ad)) (hy : ev n e y = .int kk v) {w : World} (hc : w.cell? ad = some u) (hz : w.frozen? ad = false) :
  stepG P main (gr fn kd n e ds (.inRegion ops (i :: rest) :: k) cs) w = .go (gr fn kd n (putO e dst (.tuple #[])) ds (.inRegion ops rest :: k) cs) (w.setCell ad (.int kk v)) #[aw ad] := by
 rw [gr_at, gr_at, ← act_put]
 exact stepG_store_atomic (o := ⟨dst, .call ⟨.value (.func f), #[x, y], ats⟩, ty, pos, af, gd⟩) (by rw [nthO_eq]; exact ho) (by rw [wanted_eq]; exact hw) bs_early rfl b.func b.name b.body b.nx b.fd (by rw [act_eval]; exact hx) (by rw [act_eval]; exact hy) hc hz
theorem stepG_aA {kk : IntKind} [b : Ext_ P f fu (Extern.Atomic.update (Op.intArith .add) kk true)] {ad : Addr} {v d : Int} (ho : nthO ops i = some ⟨dst, .call ⟨.value (.func f), #[x, y], ats⟩, ty, pos, af, gd⟩) (hw : wantB ops n e gd = true) (hx : ev n e x = .pointer (some ad)) (hy : ev n e y = .int kk d) {w : World} (hc : w.cell? ad = some (.int kk v)) (hz : w.frozen? ad = false) :
  stepG P main (gr fn kd n e ds (.inRegion ops (i :: rest) :: k) cs) w = .go (gr fn kd n (putO e dst (.int kk (kk.wrap (v + d)))) ds (.inRegion ops rest :: k) cs) (w.setCell ad (.int kk (kk.wrap (v + d)))) #[ar ad, aw ad] := by
 rw [gr_at, gr_at, ← act_put]
 exact stepG_add_atomic (o := ⟨dst, .call ⟨.value (.func f), #[x, y], ats⟩, ty, pos, af, gd⟩) (by rw [nthO_eq]; exact ho) (by rw [wanted_eq]; exact hw) bs_early rfl b.func b.name b.body b.nx kk b.fd (by rw [act_eval]; exact hx) (by rw [act_eval]; exact hy) hc hz
theorem stepG_aC {kk : IntKind} [b : Ext_ P f fu (Extern.Atomic.casT (.int kk))] {ad : Addr} {v d : Int} (ho : nthO ops i = some ⟨dst, .call ⟨.value (.func f), #[x, y, z], ats⟩, ty, pos, af, gd⟩) (hw : wantB ops n e gd = true) (hx : ev n e x = .pointer (some ad)) (hy : ev n e y = .int kk v) (hz' : ev n e z = .int kk d) {w : World} (hc : w.cell? ad = some (.int kk v)) (hz : w.frozen? ad = false) :
  stepG P main (gr fn kd n e ds (.inRegion ops (i :: rest) :: k) cs) w = .go (gr fn kd n (putO e dst (.bool true)) ds (.inRegion ops rest :: k) cs) (w.setCell ad (.int kk d)) #[ar ad, aw ad] := by
 rw [gr_at, gr_at, ← act_put]
 exact stepG_cas_hit (o := ⟨dst, .call ⟨.value (.func f), #[x, y, z], ats⟩, ty, pos, af, gd⟩) (by rw [nthO_eq]; exact ho) (by rw [wanted_eq]; exact hw) bs_early rfl b.func b.name b.body b.nx kk b.fd (by rw [act_eval]; exact hx) (by rw [act_eval]; exact hy) (by rw [act_eval]; exact hz') hc hz
theorem stepG_aM {kk : IntKind} [b : Ext_ P f fu (Extern.Atomic.casT (.int kk))] {ad : Addr} {v old d : Int} (ho : nthO ops i = some ⟨dst, .call ⟨.value (.func f), #[x, y, z], ats⟩, ty, pos, af, gd⟩) (hw : wantB ops n e gd = true) (hx : ev n e x = .pointer (some ad)) (hy : ev n e y = .int kk old) (hz' : ev n e z = .int kk d) {w : World} (hc : w.cell? ad = some (.int kk v)) (hz : w.frozen? ad = false) (hne : ¬ v = old) :
  stepG P main (gr fn kd n e ds (.inRegion ops (i :: rest) :: k) cs) w = .go (gr fn kd n (putO e dst (.bool false)) ds (.inRegion ops rest :: k) cs) w #[ar ad] := by
 rw [gr_at, gr_at, ← act_put]
 exact stepG_cas_miss (o := ⟨dst, .call ⟨.value (.func f), #[x, y, z], ats⟩, ty, pos, af, gd⟩) (by rw [nthO_eq]; exact ho) (by rw [wanted_eq]; exact hw) bs_early rfl b.func b.name b.body b.nx kk b.fd (by rw [act_eval]; exact hx) (by rw [act_eval]; exact hy) (by rw [act_eval]; exact hz') hc hz hne
theorem map_eval : args.map (Act.eval ⟨tm n e, ds⟩) = (args.toList.map (ev n e)).toArray := by
 rw [show Act.eval ⟨tm n e, ds⟩ = ev n e from funext act_eval, ← Array.toList_map, Array.toArray_toList]
theorem stepG_sA [b : Ext_ P f fu Extern.Sync.semacquire] {ad : Addr} {v : Int} (ho : nthO ops i = some ⟨dst, .call ⟨.value (.func f), args, ats⟩, ty, pos, af, gd⟩) (hw : wantB ops n e gd = true) (hx : (args.toList.map (ev n e))[0]? = some (.pointer (some ad))) {w : World} (hc : w.cell? ad = some (.int .u32 v)) (h0 : v ≠ 0) (hz : w.frozen? ad = false) :
  stepG P main (gr fn kd n e ds (.inRegion ops (i :: rest) :: k) cs) w = .go (gr fn kd n (putO e dst (.tuple #[])) ds (.inRegion ops rest :: k) cs) (w.setCell ad (.int .u32 (v - 1))) (semEvents ad) := by
 rw [gr_at, gr_at, ← act_put]
 exact stepG_semacquire (o := ⟨dst, .call ⟨.value (.func f), args, ats⟩, ty, pos, af, gd⟩) (by rw [nthO_eq]; exact ho) (by rw [wanted_eq]; exact hw) bs_early rfl b.func b.name b.body b.nx b.fd (by rw [map_eval]; simpa using hx) hc h0 hz
theorem stepG_sW [b : Ext_ P f fu Extern.Sync.semacquire] {ad : Addr} (ho : nthO ops i = some ⟨dst, .call ⟨.value (.func f), args, ats⟩, ty, pos, af, gd⟩) (hw : wantB ops n e gd = true) (hx : (args.toList.map (ev n e))[0]? = some (.pointer (some ad))) {w : World} (hc : w.cell? ad = some (.int .u32 0)) :
  stepG P main (gr fn kd n e ds (.inRegion ops (i :: rest) :: k) cs) w = .go { gr fn kd n e ds (.inRegion ops (i :: rest) :: k) cs with status := .blocked } w #[] := by
 rw [gr_at]
 exact stepG_semacquire_wait (o := ⟨dst, .call ⟨.value (.func f), args, ats⟩, ty, pos, af, gd⟩) (by rw [nthO_eq]; exact ho) (by rw [wanted_eq]; exact hw) rfl b.func b.name b.body b.nx b.fd (by rw [map_eval]; simpa using hx) hc
theorem stepG_sR [b : Ext_ P f fu Extern.Sync.semrelease] {ad : Addr} {v : Int} (ho : nthO ops i = some ⟨dst, .call ⟨.value (.func f), args, ats⟩, ty, pos, af, gd⟩) (hw : wantB ops n e gd = true) (hx : (args.toList.map (ev n e))[0]? = some (.pointer (some ad))) {w : World} (hc : w.cell? ad = some (.int .u32 v)) (hz : w.frozen? ad = false) :
  stepG P main (gr fn kd n e ds (.inRegion ops (i :: rest) :: k) cs) w = .go (gr fn kd n (putO e dst (.tuple #[])) ds (.inRegion ops rest :: k) cs) (w.setCell ad (.int .u32 (IntKind.u32.wrap (v + 1)))) (semEvents ad) := by
 rw [gr_at, gr_at, ← act_put]
 exact stepG_semrelease (o := ⟨dst, .call ⟨.value (.func f), args, ats⟩, ty, pos, af, gd⟩) (by rw [nthO_eq]; exact ho) (by rw [wanted_eq]; exact hw) bs_early rfl b.func b.name b.body b.nx b.fd (by rw [map_eval]; simpa using hx) hc hz
theorem runT_ev0 {α β : Type} {s : Sem α} {g : α → Sem β} {a : α} (h : ev0 P s = some a) (w : World) (es : Array Event) : (s >>= g).runT P w es = (g a).runT P w es := by
 show (s.bind g).runT P w es = _
 induction s generalizing es with
 | pure b => obtain rfl := Option.some.inj h; rfl
 | program k ih => exact ih P h es
 | _ => cases h
theorem seen_mem {fn : FuncId} {es : Array Event} {e : Event} (h : e ∈ seen P fn es) : e ∈ es := by
 rw [seen_def] at h
 have := seen_fold_sub _ es.toList _ #[] e h
 simpa using this
theorem stepG_ld {tt : TypeId} {v : Value} {ad : Addr} [a : Ag P tt false] (ho : nthO ops i = some ⟨some t, .load tt x, ty, pos, af, gd⟩) (hw : wantB ops n e gd = true) (hx : ev n e x = .pointer (some ad)) {w : World} (hc : w.cell? ad = some v) :
  stepG P main (gr fn kd n e ds (.inRegion ops (i :: rest) :: k) cs) w = .go (gr fn kd n (put e t v) ds (.inRegion ops rest :: k) cs) w (seen P fn #[⟨.cell ad, false, false⟩]) := by
 rw [stepG_op ho hw]
 obtain ⟨u, hu, hb⟩ := a.h
 have hagg : ev0 P (isAgg tt) = some false := by
  unfold isAgg
  refine ev0_do (ev0_und hu) ?_
  cases u <;> first | rfl | (cases hb)
 have key : (execOp (ev n e) ⟨some t, .load tt x, ty, pos, af, gd⟩).runT P w #[] = (.ok (.value v) w, #[⟨.cell ad, false, false⟩]) := by
  unfold execOp
  simp only [hx, Instr.loadAt, Instr.sureAddr]
  have h1 : (loadVar tt ad).runT P w #[] = (.ok v w, #[⟨.cell ad, false, false⟩]) := by
   unfold loadVar
   rw [runT_ev0 hagg]
   simp only [Bool.false_eq_true, if_false, load, Sem.runT, hc]
   rfl
  show ((loadVar tt ad).bind fun z => Sem.pure (Next.value z)).runT P w #[] = _
  rw [Sem.runT_bind', h1]
  rfl
 have hkb := kd.early
 simp only [stepG.apply, key, if_true]
 rw [finish_frm (by rw [nthO_eq]; exact ho)]
 simp [frm, GStep.after, gr, hkb, putO]
end
section
variable {P : Program} {main : Bool} {s : SeatD} {fn : FuncId} {kd : Kd} {n : Nat} {e : Nat → Value} {ds : List Deferred} {k : List Item} {cs : List Frame}
variable {ops : Array Oper} {i : Nat} {rest : List Nat} {dst : Option Nat} {t : Nat} {ty : TypeId} {pos : String} {af : Array Edge} {gd : Option (Nat × Bool)} {x y z : Operand}
abbrev WayE (P : Program) (main : Bool) (s : SeatD) (g : Goroutine) : Prop := ∃ n, Way P main s n g
theorem way_ld {q : Nat} {tt : TypeId} {v : Value} {ad : Addr} [a : Ag P tt false] (ho : nthO ops i = some ⟨some t, .load tt x, ty, pos, af, gd⟩) (h : Way P main s q (gr fn kd n (put e t v) ds (.inRegion ops rest :: k) cs)) (hm : (ad, v) ∈ s.mem) (hx : ev n e x = .pointer (some ad) := by rfl) (hw : wantB ops n e gd = true := by rfl) : Way P main s (q + 1) (gr fn kd n e ds (.inRegion ops (i :: rest) :: k) cs) := by
 refine .inr ⟨rfl, fun w hK => ⟨_, _, w.drawn, stepG_ld ho hw hx (hK _ hm), fun e he => ?_, h⟩⟩
 have := seen_mem he
 simp only [List.mem_toArray, List.mem_cons, List.not_mem_nil, or_false] at this
 exact ⟨ad, this, (ad, v), hm, rfl⟩
theorem way_dr {m : Nat} {c : Code} (q : ∀ t, Way P main s m (gr fn kd n e ds (.inRegion (cO c) (Region.schedule (P.follows .mixedOrders) (cO c) t) :: k) cs)) (hc : ck c = .draw := by rfl) : Way P main s (m + 1) (gr fn kd n e ds (.code c :: k) cs) := by
 have := ck_inv hc
 simp only at this
 rw [this]
 refine .inr ⟨rfl, fun w hK => ⟨_, #[], w.drawn + 1, ?_, by simp, q (w.tape w.drawn (.order fn (cI c)))⟩⟩
 simp [gr, frm, stepG, stepG.exec, choose, Sem.run, Question.forced, Question.cut]
 rfl
theorem way_at {o : Oper} (ho : nthO ops i = some o) (hr : s.recs (gr fn kd n e ds (.inRegion ops (i :: rest) :: k) cs)) (hy : ev0 P (execOp (ev n e) o) = some (.comm s.cases true s.shape)) (hw : wantB ops n e o.guard = true) : Way P main s 0 (gr fn kd n e ds (.inRegion ops (i :: rest) :: k) cs) :=
 ⟨_, hr, rfl, rfl, rfl, rfl, #[], by simp, fun w _ => stepG_comm ho hw hy w⟩
end
end Go.Sl
end
section
set_option linter.unusedVariables false
namespace Go.Sl
open Go.Conc
theorem Spec.less {P : Program} {main : Bool} {B B' : Bad} (hb : BLe B B') {f : FuncId} {args : Array Value} {A : List HP} {Q : Value → List HP → Prop} (h : Spec P main B' f args A Q) : Spec P main B f args A Q :=
 fun R C kd d F c cs hkd hr => h R (C.less hb) kd d F c cs hkd hr
theorem served_gr {fn : FuncId} {kd : Kd} {n : Nat} {e : Nat → Value} {ds : List Deferred} {k : List Item} {cs : List Frame} {ops : Array Oper} {i : Nat} {rest : List Nat} {o : Oper} (ho : nthO ops i = some o) (v : Value) :
  Conc.served (gr fn kd n e ds (.inRegion ops (i :: rest) :: k) cs) v = gr fn kd n (putO e o.dst v) ds (.inRegion ops rest :: k) cs := by
 unfold Conc.served gr
 simp only
 rw [finish_frm (by rw [nthO_eq]; exact ho)]
structure SeatH (rd : Nat → TypeId → Nat → Bool) (s : SeatD) (H : Array Obj) : Prop where
 chans : ∀ c, s.has c → ∃ k, H[c]? = some (.chan 0 #[] false k k false)
 mem : ∀ p ∈ s.mem, p.1.spot = none ∧ ∃ c ty, H[p.1.block]? = some (.cells c ty (0, 0)) ∧ c[p.1.off]? = some p.2 ∧ rd p.1.block ty p.1.off = true
section
variable {P : Program} {Post : Value → World → Prop} {X : Bar} {σ : Gh} {h : Nat} {os : Os} {out : Array (Nat × ByteArray)} {d : Nat} {As As' : List HP}
variable {fn : FuncId} {kd : Kd} {n : Nat} {e : Nat → Value} {ds : List Deferred} {k : List Item} {cs : List Frame}
variable {ops : Array Oper} {i : Nat} {rest : List Nat} {dst : Option Nat} {t : Nat} {ty : TypeId} {pos : String} {af : Array Edge} {gd : Option (Nat × Bool)} {x y : Operand}
theorem seatOk {rd : Nat → TypeId → Nat → Bool} {s : SeatD} {w : World} (hw : s.Wf) (hs : SeatH rd s w.heap) (hsh : ∀ l, s.rd l → ¬ σ.sh l) : SeatOk σ s w :=
 ⟨hw, hs.chans, fun p hp => by
  obtain ⟨h1, c, ty, h2, h3, _⟩ := hs.mem p hp
  exact cell_of h2 h1 h3, hsh⟩
theorem notShun {rd : Nat → TypeId → Nat → Bool} {s : SeatD} {H : Array Obj} (ha : ∀ p ∈ s.mem, ∀ c ty, H[p.1.block]? = some (.cells c ty (0, 0)) → X.sh ty p.1.off = false) (hs : SeatH rd s H) (go : GO X σ H) : ∀ l, s.rd l → ¬ σ.sh l := by
 rintro l ⟨p, hp, rfl⟩ hl
 obtain ⟨a, ea, c, ty, h1, h2, _⟩ := go.shun _ hl
 obtain rfl := Loc.cell.inj ea
 rw [ha p hp c ty h1] at h2; cases h2
theorem RunR.go {x : Deferred} {o : Oper} (s : SeatD) (ho : nthO ops i = some o) (hw : wantB ops n e o.guard = true) (hy : ev0 P (execOp (ev n e) o) = some (.spawn x)) (hx : ∃ f cap, x.target = .fn f cap) (hwf : s.Wf)
  (hs : ∀ H, Sat As (hp H) → SeatH (X.rd 1) s H) (ha : ∀ H, Sat As (hp H) → ∀ p ∈ s.mem, ∀ c ty, H[p.1.block]? = some (.cells c ty (0, 0)) → X.sh ty p.1.off = false) (hway : WayE P false s (child P x)) (hn : σ.n ≠ 0) (hnh : σ.n ≠ h)
  (k' : At (RunR P Post X (σ.hired s) h os out) 0 As (gr fn kd n (putO e o.dst undef) ds (.inRegion ops rest :: k) cs)) :
  At (RunR P Post X σ h os out) 0 As (gr fn kd n e ds (.inRegion ops (i :: rest) :: k) cs) := fun H st hole go w hwp ho' hu => by
 subst hwp
 obtain ⟨m, hway⟩ := hway
 have hS := hs _ st
 refine Run.hire s m #[] rfl (fun w₁ q => stepG_spawn ho hw hy hx w₁) (fun w₁ q => ⟨Nat.le_refl _, fun _ _ h _ => h, fun _ _ _ _ _ h => h, by simp⟩) rfl (seatOk hwf hS (notShun (ha _ st) hS go)) hway ?_
 refine k' _ st ?_ ⟨fun j s' hj => ?_, fun j s' c hj hc => ?_, fun j s' p hj hp => ?_, go.shun, go.bot⟩ w rfl ho' hu
 ·show Go.ConcN.upd σ.seats σ.n (some s) h = none
  rw [Go.ConcN.upd_ne _ _ (Ne.symm hnh)]; exact hole
 ·have hj : Go.ConcN.upd σ.seats σ.n (some s) j = some s' := hj
  show j < σ.n + 1
  by_cases ej : j = σ.n
  ·omega
  ·rw [Go.ConcN.upd_ne _ _ ej] at hj
   have := go.lt j s' hj; omega
 ·have hj : Go.ConcN.upd σ.seats σ.n (some s) j = some s' := hj
  by_cases ej : j = σ.n
  ·subst ej
   rw [Go.ConcN.upd_same] at hj
   obtain rfl := Option.some.inj hj
   obtain ⟨kq, hq⟩ := hS.chans c hc
   exact (Array.getElem?_eq_some_iff.1 hq).1
  ·rw [Go.ConcN.upd_ne _ _ ej] at hj
   exact go.cl j s' c hj hc
 ·have hj : Go.ConcN.upd σ.seats σ.n (some s) j = some s' := hj
  by_cases ej : j = σ.n
  ·subst ej
   rw [Go.ConcN.upd_same] at hj
   obtain rfl := Option.some.inj hj
   obtain ⟨h1, c, ty, h2, _, h4⟩ := hS.mem p hp
   exact ⟨h1, c, ty, h2, by unfold Bar.rd at h4 ⊢; rw [if_neg hn]; rwa [if_neg (by decide)] at h4⟩
  ·rw [Go.ConcN.upd_ne _ _ ej] at hj
   exact go.still j s' p hj hp
theorem push_get {H : Array Obj} {x o : Obj} {r : Nat} (h : H[r]? = some o) : (H.push x)[r]? = some o := by
 obtain ⟨h1, h2⟩ := Array.getElem?_eq_some_iff.1 h
 rw [Array.getElem?_push_lt h1, h2]
def Gh.hide (σ : Gh) (b : Nat) (os : List Nat) : Gh := { σ with sh := fun l => σ.sh l ∨ ∃ o ∈ os, l = .cell ⟨b, o, none⟩ }
theorem RunR.bx {tt : TypeId} {v0 : Value} {c : Array Value} (hid : List Nat) (ho : nthO ops i = some ⟨some t, .box tt x, ty, pos, af, gd⟩) (hx : ev n e x = v0) (hc : v0.cells = c) (hsh : ∀ o ∈ hid, X.sh tt o = true) (hw : wantB ops n e gd = true)
  (k' : ∀ b, At (RunR P Post X (σ.hide b hid) h os out) d (pts b (.cells c tt (0, 0)) :: As) (gr fn kd n (put e t (.pointer (some ⟨b, 0, none⟩))) ds (.inRegion ops rest :: k) cs)) :
  At (RunR P Post X σ h os out) d As (gr fn kd n e ds (.inRegion ops (i :: rest) :: k) cs) := fun H st hole go w hwp ho' hu => by
 subst hwp
 refine Run.shun (σ.hide w.heap.size hid).sh (fun l hl => .inl hl) (fun l hl hn => ?_) ?_
 ·rcases hl with hl | ⟨o, _, rfl⟩
  ·exact absurd hl hn
  ·exact ⟨_, rfl, Nat.le_refl _⟩
 ·have hstep : ∀ w₁, stepG P (h == 0) (gr fn kd n e ds (.inRegion ops (i :: rest) :: k) cs) w₁ = .go (gr fn kd n (put e t (.pointer (some ⟨w₁.heap.size, 0, none⟩))) ds (.inRegion ops rest :: k) cs) { w₁ with heap := w₁.heap.push (.cells c tt (0, 0)) } #[] := fun w₁ => by
   rw [stepG_op ho hw]
   have key : (execOp (ev n e) ⟨some t, .box tt x, ty, pos, af, gd⟩).runT P w₁ #[] = (.ok (.value (.pointer (some ⟨w₁.heap.size, 0, none⟩))) { w₁ with heap := w₁.heap.push (.cells c tt (0, 0)) }, #[]) := by
    unfold execOp
    simp only [hx, Instr.box]
    subst hc
    rfl
   have hkb := kd.early
   simp only [stepG.apply, key, if_true]
   rw [finish_frm (by rw [nthO_eq]; exact ho)]
   simp [frm, GStep.after, gr, hkb, putO, seen_none]
  refine Run.own (fun w₁ => gr fn kd n (put e t (.pointer (some ⟨w₁.heap.size, 0, none⟩))) ds (.inRegion ops rest :: k) cs) (fun w₁ => { w₁ with heap := w₁.heap.push (.cells c tt (0, 0)) }) (fun _ => #[]) rfl (fun w₁ _ => hstep w₁) (fun w₁ q => ?_) (fun w₁ q => ?_)
  ·have hp : ∀ (r : Nat) (o : Obj), w₁.heap[r]? = some o → (w₁.heap.push (.cells c tt (0, 0)))[r]? = some o := fun r o hr => push_get hr
   refine ⟨by simp, fun r o hr _ => hp r o hr, fun i' s p _ _ hcell => ?_, by simp⟩
   unfold World.cell? at hcell ⊢
   cases hb : w₁.heap[p.1.block]? with
   | none => rw [hb] at hcell; cases hcell
   | some o => rw [hb] at hcell; simp only [hp _ _ hb]; exact hcell
  ·have e1 : w₁.heap = w.heap := q.hp
   show Run P Post (σ.hide w.heap.size hid) h (deafBehind d #[]) _ _
   rw [deafBehind_nil, e1]
   refine k' w.heap.size _ (st.push _) hole ⟨go.lt, fun i' s' c' hi hc' => by have := go.cl i' s' c' hi hc'; simp; omega, fun i' s p hi hp => ?_, fun l hl => ?_, by have := go.bot; simp only [Array.size_push]; exact Nat.le_succ_of_le this⟩ _ rfl (q.os.trans ho') (q.out.trans hu)
   ·obtain ⟨h1, c1, ty1, h2, h3⟩ := go.still i' s p hi hp
    exact ⟨h1, c1, ty1, push_get h2, h3⟩
   ·rcases hl with hl | ⟨o, hm, rfl⟩
    ·obtain ⟨a, ea, c1, ty1, h1, h2⟩ := go.shun l hl
     exact ⟨a, ea, c1, ty1, push_get h1, h2⟩
    ·exact ⟨_, rfl, c, tt, by simp, hsh o hm, go.bot⟩
end
end Go.Sl
end
